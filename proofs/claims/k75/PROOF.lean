import PyProof.Rows.All
import PySem.Str
import HandS.ForMost
import HandS.ForExc
import HandS.CallSlots
import HandS.TupAny
import HandS.TupMul
import HandS.TupLe
import HandS.Wide
import HandS.WideBits
import HandS.Deep
import HandS.IsInst
import HandS.SortInts
import HandS.Flow
import HandS.Text
import HandS.WordsDict
import HandS.Style
import HandS.Gcd
import HandS.ExcIs
import HandS.Zip
import HandS.Conv
import HandS.More
import HandS.RaiseMore
import HandS.DictComp
import KE.KDictSum
import PySem.Challenge.RW_airwave_k75_hops_and_single_points
section
/-! DL0: Python data as plain Lean values, and what a statement makes of them. No heap here. -/
namespace DL
open PySem

abbrev DK := Sum Int Str
inductive D where
  | non | bl (b : Bool) | int (i : Int) | str (x : Str)
  | tup (xs : List D) | lst (xs : List D)
  /-- a tuple of the module's top; a list that is only read (the script) -/
  | ktp (xs : List D) | kls (xs : List D)
  | dct (kvs : List (DK × D)) | dtt (kvs : List (List DK × D))
  deriving Inhabited
/-- a slot: unset, a value, an object that is changed (true: a parameter's) -/
inductive Sl where
  | no | va (d : D) | ow (b : Bool) (d : D)
  deriving Inhabited
abbrev Ev := List Sl
/-- an operand: a value that stands still, the object in a slot, a new object -/
inductive Op where
  | fz (d : D) | br (i : Nat) | tm (d : D)
inductive EOut where
  | ok (o : Op) (r : Ev) | err (c : Str) (r : Ev) | bad
inductive AOut where
  | ok (os : List Op) (r : Ev) | err (c : Str) (r : Ev) | bad
inductive TOut where
  | ok (b : Bool) (r : Ev) | err (c : Str) (r : Ev) | bad
inductive IOut where
  | ok (ds : List D) (r : Ev) | err (c : Str) (r : Ev) | bad
inductive SOut where
  | nx (r : Ev) | ret (o : Op) (r : Ev) | brk (r : Ev) | cnt (r : Ev) | err (c : Str) (r : Ev) | bad
/-- what a def gives: its value and what its changed parameters hold -/
inductive FOut where
  | ok (o : Op) (ios : List D) | err (c : Str) (ios : List D) | bad
abbrev E := Ev → EOut
abbrev A := Ev → AOut
abbrev T := Ev → TOut
abbrev I := Ev → IOut
abbrev S := Ev → SOut
abbrev FD := List D → FOut

def SZ : Nat := 2 ^ 24

/-- an operand's data -/
def rsv (r : Ev) : Op → Option D
  | .fz d => some d
  | .tm d => some d
  | .br i => match r[i]? with
    | some (.ow _ d) => some d
    | some (.va d) => some d
    | _ => none
/-- an operand is put away: its object is not changed any more -/
def fzo (r : Ev) : Op → Option (D × Ev)
  | .fz d => some (d, r)
  | .tm d => some (d, r)
  | .br i => match r[i]? with
    | some (.ow false d) => some (d, r.set i (.va d))
    | some (.va d) => some (d, r)
    | _ => none
def fzos : List Op → Ev → Option (List D × Ev)
  | [], r => some ([], r)
  | o :: os, r => match fzo r o with
    | some (d, r1) => match fzos os r1 with
      | some (ds, r2) => some (d :: ds, r2)
      | none => none
    | none => none
def rsvs (r : Ev) : List Op → Option (List D)
  | [] => some []
  | o :: os => match rsv r o with
    | some d => match rsvs r os with
      | some ds => some (d :: ds)
      | none => none
    | none => none

/-! ### expressions -/
def eName (i : Nat) : E := fun r => match r[i]? with
  | some (.va d) => .ok (.fz d) r
  | some (.ow _ _) => .ok (.br i) r
  | _ => .bad
def eC (d : D) : E := fun r => .ok (.fz d) r
def eUn (g : D → Option Op) (a : E) : E := fun r => match a r with
  | .ok o r1 => match rsv r1 o with
    | some d => match g d with
      | some o2 => .ok o2 r1
      | none => .bad
    | none => .bad
  | .err c r1 => .err c r1
  | .bad => .bad
def eBin (g : D → D → Option Op) (a b : E) : E := fun r => match a r with
  | .ok o r1 => match b r1 with
    | .ok p r2 => match rsv r2 o, rsv r2 p with
      | some x, some y => match g x y with
        | some z => .ok z r2
        | none => .bad
      | _, _ => .bad
    | .err c r2 => .err c r2
    | .bad => .bad
  | .err c r1 => .err c r1
  | .bad => .bad
def aNil : A := fun r => .ok [] r
def aCons (a : E) (b : A) : A := fun r => match a r with
  | .ok o r1 => match b r1 with
    | .ok os r2 => .ok (o :: os) r2
    | .err c r2 => .err c r2
    | .bad => .bad
  | .err c r1 => .err c r1
  | .bad => .bad
/-- a built-in of several operands -/
def ePure (g : List D → Option Op) (a : A) : E := fun r => match a r with
  | .ok os r1 => match rsvs r1 os with
    | some ds => match g ds with
      | some o => .ok o r1
      | none => .bad
    | none => .bad
  | .err c r1 => .err c r1
  | .bad => .bad
def eTup (a : A) : E := fun r => match a r with
  | .ok os r1 => match fzos os r1 with
    | some (ds, r2) => if ds.length ≤ SZ then .ok (.fz (.tup ds)) r2 else .bad
    | none => .bad
  | .err c r1 => .err c r1
  | .bad => .bad
def eLst (a : A) : E := fun r => match a r with
  | .ok os r1 => match fzos os r1 with
    | some (ds, r2) => if ds.length ≤ SZ then .ok (.tm (.lst ds)) r2 else .bad
    | none => .bad
  | .err c r1 => .err c r1
  | .bad => .bad
/-- a value's truth -/
def dtr : D → Option Bool
  | .non => some false
  | .bl b => some b
  | .int i => some (i != 0)
  | .str x => if x.length ≤ SZ then some ((x.length : Int) != 0) else none
  | .lst xs => some (!xs.isEmpty)
  | .tup xs => some (!xs.isEmpty)
  | .kls xs => some (!xs.isEmpty)
  | .ktp xs => some (!xs.isEmpty)
  | .dct _ => none
  | .dtt _ => none
def tTru (a : E) : T := fun r => match a r with
  | .ok o r1 => match rsv r1 o with
    | some d => match dtr d with
      | some b => .ok b r1
      | none => .bad
    | none => .bad
  | .err c r1 => .err c r1
  | .bad => .bad
def tAnd (a b : T) : T := fun r => match a r with
  | .ok true r1 => b r1
  | x => x
def tOr (a b : T) : T := fun r => match a r with
  | .ok false r1 => b r1
  | x => x
def tNot (a : T) : T := fun r => match a r with
  | .ok b r1 => .ok (!b) r1
  | x => x
/-- and, or, not as values: all but the last are True or False -/
def eAnd (a b : E) : E := fun r => match a r with
  | .ok (.fz (.bl true)) r1 => b r1
  | .ok (.fz (.bl false)) r1 => .ok (.fz (.bl false)) r1
  | .ok _ _ => .bad
  | .err c r1 => .err c r1
  | .bad => .bad
def eOr (a b : E) : E := fun r => match a r with
  | .ok (.fz (.bl true)) r1 => .ok (.fz (.bl true)) r1
  | .ok (.fz (.bl false)) r1 => b r1
  | .ok _ _ => .bad
  | .err c r1 => .err c r1
  | .bad => .bad
def eNot (a : T) : E := fun r => match a r with
  | .ok b r1 => .ok (.fz (.bl (!b))) r1
  | .err c r1 => .err c r1
  | .bad => .bad
def eIf (c : T) (a b : E) : E := fun r => match c r with
  | .ok true r1 => a r1
  | .ok false r1 => b r1
  | .err c r1 => .err c r1
  | .bad => .bad
/-- x op y op' z -/
def eChain (g g' : D → D → Option Op) (a b c : E) : E := fun r => match a r with
  | .ok o r1 => match b r1 with
    | .ok p r2 => match rsv r2 o, rsv r2 p with
      | some x, some y => match g x y with
        | some (.fz (.bl true)) => match c r2 with
          | .ok q r3 => match rsv r3 p, rsv r3 q with
            | some y', some z => match g' y' z with
              | some (.fz (.bl k)) => .ok (.fz (.bl k)) r3
              | _ => .bad
            | _, _ => .bad
          | .err c r3 => .err c r3
          | .bad => .bad
        | some (.fz (.bl false)) => .ok (.fz (.bl false)) r2
        | _ => .bad
      | _, _ => .bad
    | .err c r2 => .err c r2
    | .bad => .bad
  | .err c r1 => .err c r1
  | .bad => .bad

/-! ### a call of a def -/
def isOw : Option Sl → Bool
  | some (.ow _ _) => true
  | _ => false
/-- the parameters' places: false a value, true an object that the def changes -/
def argsOf : List Bool → List Op → Ev → Option (List D × Ev)
  | [], [], r => some ([], r)
  | false :: m, o :: os, r => match fzo r o with
    | some (d, r1) => match argsOf m os r1 with
      | some (ds, r2) => some (d :: ds, r2)
      | none => none
    | none => none
  | true :: m, .br i :: os, r => match r[i]? with
    | some (.ow _ d) => match argsOf m os r with
      | some (ds, r2) => some (d :: ds, r2)
      | none => none
    | _ => none
  | _, _, _ => none
/-- the slots of the changed parameters -/
def iosOf : List Bool → List Op → List Nat
  | true :: m, .br i :: os => i :: iosOf m os
  | _ :: m, _ :: os => iosOf m os
  | _, _ => []
def putIos : List Nat → List D → Ev → Ev
  | i :: is, d :: ds, r => putIos is ds (match r[i]? with
    | some (.ow b _) => r.set i (.ow b d)
    | _ => r)
  | _, _, r => r
def eCall (m : List Bool) (F : FD) (a : A) : E := fun r => match a r with
  | .ok os r1 => match argsOf m os r1 with
    | some (ds, r2) => if (iosOf m os).Nodup ∧ (∀ i ∈ iosOf m os, isOw r2[i]? = true) then (match F ds with
      | .ok o ios => .ok o (putIos (iosOf m os) ios r2)
      | .err c ios => .err c (putIos (iosOf m os) ios r2)
      | .bad => .bad) else .bad
    | none => .bad
  | .err c r1 => .err c r1
  | .bad => .bad

/-! ### statements -/
def sNext : S := fun r => .nx r
def sSeq (a b : S) : S := fun r => match a r with
  | .nx r1 => b r1
  | x => x
def sExpr (a : E) : S := fun r => match a r with
  | .ok _ r1 => .nx r1
  | .err c r1 => .err c r1
  | .bad => .bad
/-- a value is kept in slot i -/
def keep (i : Nat) (o : Op) (r : Ev) : Option Ev := match o with
  | .fz d => some (r.set i (.va d))
  | .tm d => some (r.set i (.ow false d))
  | .br j => match fzo r (.br j) with
    | some (d, r1) => some (r1.set i (.va d))
    | none => none
def sSet (i : Nat) (a : E) : S := fun r => match a r with
  | .ok o r1 => match keep i o r1 with
    | some r2 => .nx r2
    | none => .bad
  | .err c r1 => .err c r1
  | .bad => .bad
def setAll : List Nat → List D → Ev → Option Ev
  | [], [], r => some r
  | i :: is, d :: ds, r => setAll is ds (r.set i (.va d))
  | _, _, _ => none
/-- a target: a name, or names for a tuple's items -/
inductive Tg where
  | one (i : Nat) | many (is : List Nat)
def Tg.put : Tg → D → Ev → Option Ev
  | .one i, d, r => some (r.set i (.va d))
  | .many is, .tup ds, r => setAll is ds r
  | .many is, .ktp ds, r => setAll is ds r
  | .many _, _, _ => none
def sUnp (t : Tg) (a : E) : S := fun r => match a r with
  | .ok o r1 => match fzo r1 o with
    | some (d, r2) => match t.put d r2 with
      | some r3 => .nx r3
      | none => .bad
    | none => .bad
  | .err c r1 => .err c r1
  | .bad => .bad
def keep2 (i : Nat) (o : Op) (r : Ev) : Option Ev := match o with
  | .fz d => some (r.set i (.va d))
  | .tm d => some (r.set i (.ow false d))
  | .br _ => none
/-- a, b = x, y -/
def sPar (i j : Nat) (a b : E) : S := fun r => match a r with
  | .ok o r1 => match b r1 with
    | .ok p r2 => match keep2 i o r2 with
      | some r3 => match keep2 j p r3 with
        | some r4 => .nx r4
        | none => .bad
      | none => .bad
    | .err c r2 => .err c r2
    | .bad => .bad
  | .err c r1 => .err c r1
  | .bad => .bad
def sAug (i : Nat) (g : D → D → Option Op) (a : E) : S := fun r => match r[i]? with
  | some (.va x) => match a r with
    | .ok o r1 => match rsv r1 o with
      | some y => match g x y with
        | some (.fz z) => .nx (r1.set i (.va z))
        | _ => .bad
      | none => .bad
    | .err c r1 => .err c r1
    | .bad => .bad
  | _ => .bad
def sRet (a : E) : S := fun r => match a r with
  | .ok (.fz d) r1 => .ret (.fz d) r1
  | .ok (.tm d) r1 => .ret (.tm d) r1
  | .ok (.br i) r1 => match r1[i]? with
    | some (.ow false d) => .ret (.tm d) (r1.set i .no)
    | some (.va d) => .ret (.fz d) r1
    | _ => .bad
  | .err c r1 => .err c r1
  | .bad => .bad
def sRetN : S := fun r => .ret (.fz .non) r
def sIf (c : T) (a b : S) : S := fun r => match c r with
  | .ok true r1 => a r1
  | .ok false r1 => b r1
  | .err c r1 => .err c r1
  | .bad => .bad
def sRaise (c : Str) : S := fun r => .err c r
def sBreak : S := fun r => .brk r
def sCont : S := fun r => .cnt r
def isL : Option Sl → Bool
  | some (.ow _ (.lst _)) => true
  | _ => false
/-- the list in slot i is changed: g of its data and the operands' (put away): the data behind, the value -/
def eMut (i : Nat) (g : D → List D → Option (D × Op)) (a : A) : E := fun r => if isL r[i]? = true then (match a r with
  | .ok os r1 => match fzos os r1 with
    | some (ds, r2) => match r2[i]? with
      | some (.ow b d) => match g d ds with
        | some (d', o) => .ok o (r2.set i (.ow b d'))
        | none => .bad
      | _ => .bad
    | none => .bad
  | .err c r1 => .err c r1
  | .bad => .bad) else .bad
/-- x[k] = v; g of the data, the key, the value -/
def sSub (i : Nat) (g : D → D → D → Option D) (k v : E) : S := fun r => match v r with
  | .ok o r1 => if isOw r1[i]? = true then (match k r1 with
    | .ok p r2 => match fzo r2 o with
      | some (dv, r3) => match rsv r3 p with
        | some dk => match r3[i]? with
          | some (.ow b d) => match g d dk dv with
            | some d' => .nx (r3.set i (.ow b d'))
            | none => .bad
          | _ => .bad
        | none => .bad
      | none => .bad
    | .err c r2 => .err c r2
    | .bad => .bad) else .bad
  | .err c r1 => .err c r1
  | .bad => .bad
/-- the turns of a for -/
def forGo (t : Tg) (b : S) : List D → S
  | [], r => .nx r
  | d :: ds, r => match t.put d r with
    | some r1 => match b r1 with
      | .nx r2 => forGo t b ds r2
      | .cnt r2 => forGo t b ds r2
      | .brk r2 => .nx r2
      | x => x
    | none => .bad
def sFor (t : Tg) (it : I) (b : S) : S := fun r => match it r with
  | .ok ds r1 => forGo t b ds r1
  | .err c r1 => .err c r1
  | .bad => .bad
def whN (c : T) (b : S) : Nat → S
  | 0, _ => .bad
  | n + 1, r => match c r with
    | .ok true r1 => match b r1 with
      | .nx r2 => whN c b n r2
      | .cnt r2 => whN c b n r2
      | .brk r2 => .nx r2
      | x => x
    | .ok false r1 => .nx r1
    | .err c r1 => .err c r1
    | .bad => .bad
open Classical in
noncomputable def sWhile (c : T) (b : S) : S := fun r => if h : ∃ n, whN c b n r ≠ .bad then whN c b (choose h) r else .bad
theorem whN_mono (c : T) (b : S) : ∀ (n m : Nat) (r : Ev), n ≤ m → whN c b n r ≠ .bad → whN c b m r = whN c b n r
  | 0, _, _, _, h => absurd rfl h
  | n + 1, 0, _, h, _ => by omega
  | n + 1, m + 1, r, h, hb => by
    have ih := fun r => whN_mono c b n m r (by omega)
    unfold whN at hb ⊢
    generalize c r = cr at hb ⊢
    cases cr with
    | ok k r1 =>
      cases k with
      | true =>
        dsimp only at hb ⊢
        generalize b r1 = br at hb ⊢
        cases br with
        | nx r2 => exact ih r2 hb
        | cnt r2 => exact ih r2 hb
        | _ => rfl
      | false => rfl
    | _ => rfl
theorem sWhile_eq {c : T} {b : S} {n : Nat} {r : Ev} {x : SOut} (h : whN c b n r = x) (hx : x ≠ .bad) : sWhile c b r = x := by
  have hn : whN c b n r ≠ .bad := by rw [h]; exact hx
  have ex : ∃ n, whN c b n r ≠ .bad := ⟨n, hn⟩
  unfold sWhile
  rw [dif_pos ex]
  have h2 := Classical.choose_spec ex
  rcases Nat.le_total n (Classical.choose ex) with k | k
  · rw [whN_mono c b _ _ r k hn, h]
  · rw [← whN_mono c b _ _ r k h2, h]
/-- a comprehension; vs: its own names' slots -/
def wipeE (r : Ev) : List Nat → Ev
  | [] => r
  | v :: vs => (wipeE r vs).set v .no
def backE (r0 r : Ev) : List Nat → Ev
  | [] => r
  | v :: vs => (backE r0 r vs).set v (r0.getD v .no)
def lcGo (vs : List Nat) (t : Tg) (c : T) (e : E) (r0 : Ev) : List D → List D → Ev → EOut
  | [], acc, r => .ok (.tm (.lst acc)) (backE r0 r vs)
  | d :: ds, acc, r => match t.put d (wipeE r vs) with
    | some r1 => match c r1 with
      | .ok true r2 => match e r2 with
        | .ok o r3 => match fzo r3 o with
          | some (x, r4) => if acc.length < SZ then lcGo vs t c e r0 ds (acc ++ [x]) r4 else .bad
          | none => .bad
        | _ => .bad
      | .ok false r2 => lcGo vs t c e r0 ds acc r2
      | _ => .bad
    | none => .bad
def eLc (vs : List Nat) (t : Tg) (it : I) (c : T) (e : E) : E := fun r => match it r with
  | .ok ds r1 => if vs.all (fun v => !isOw r1[v]?) then lcGo vs t c e r1 ds [] r1 else .bad
  | .err c r1 => .err c r1
  | .bad => .bad
def tYes : T := fun r => .ok true r
/-- what is walked: an operand that is a list or a tuple -/
def iSeq (a : E) : I := fun r => match a r with
  | .ok o r1 => match fzo r1 o with
    | some (.lst ds, r2) => .ok ds r2
    | some (.tup ds, r2) => .ok ds r2
    | some (.kls ds, r2) => .ok ds r2
    | some (.ktp ds, r2) => .ok ds r2
    | _ => .bad
  | .err c r1 => .err c r1
  | .bad => .bad
/-- ints lo, lo + 1, .. (n of them) -/
def upFrom (lo : Int) : Nat → List D
  | 0 => []
  | n + 1 => .int lo :: upFrom (lo + 1) n
def iRng1 (a : E) : I := fun r => match a r with
  | .ok (.fz (.int j)) r1 => if -(2 ^ 62) ≤ j ∧ j < 2 ^ 62 then .ok (upFrom 0 j.toNat) r1 else .bad
  | .ok _ _ => .bad
  | .err c r1 => .err c r1
  | .bad => .bad
def iRng2 (a b : E) : I := fun r => match a r with
  | .ok (.fz (.int i)) r1 => match b r1 with
    | .ok (.fz (.int j)) r2 => if (-(2 ^ 62) ≤ i ∧ i < 2 ^ 62) ∧ -(2 ^ 62) ≤ j ∧ j < 2 ^ 62 then .ok (upFrom i (j - i).toNat) r2 else .bad
    | .ok _ _ => .bad
    | .err c r2 => .err c r2
    | .bad => .bad
  | .ok _ _ => .bad
  | .err c r1 => .err c r1
  | .bad => .bad
/-- a def: its slots, the marks of its parameters, its body -/
def argSl : List Bool → List D → Ev
  | false :: m, d :: ds => .va d :: argSl m ds
  | true :: m, d :: ds => .ow true d :: argSl m ds
  | _, _ => []
/-- what the changed parameters hold -/
def iosAt : List Bool → Nat → Ev → Option (List D)
  | [], _, _ => some []
  | false :: m, k, r => iosAt m (k + 1) r
  | true :: m, k, r => match r[k]? with
    | some (.ow true d) => match iosAt m (k + 1) r with
      | some ds => some (d :: ds)
      | none => none
    | _ => none
def fnD (n : Nat) (m : List Bool) (b : S) : FD := fun ds =>
  if ds.length = m.length then
    match b (argSl m ds ++ List.replicate (n - m.length) .no) with
    | .ret o r => match iosAt m 0 r with
      | some ios => .ok o ios
      | none => .bad
    | .nx r => match iosAt m 0 r with
      | some ios => .ok (.fz .non) ios
      | none => .bad
    | .err c r => match iosAt m 0 r with
      | some ios => .err c ios
      | none => .bad
    | _ => .bad
  else .bad
end DL
end

section
set_option autoImplicit false
/-! DLG: the operators and built-ins over data. -/
namespace DL
open PySem
/-- a list's items, a tuple's items -/
def asL : D → Option (List D)
  | .lst xs => some xs
  | .kls xs => some xs
  | _ => none
def asT : D → Option (List D)
  | .tup xs => some xs
  | .ktp xs => some xs
  | _ => none
def asS : D → Option (List D)
  | .lst xs => some xs
  | .kls xs => some xs
  | .tup xs => some xs
  | .ktp xs => some xs
  | _ => none
/-! ### == of data -/
mutual
def eqD : D → D → Bool
  | .non, .non => true
  | .bl a, .bl b => a == b
  | .bl a, .int j => (if a then 1 else 0) == j
  | .int i, .bl b => i == (if b then 1 else 0)
  | .int i, .int j => i == j
  | .str x, .str y => x == y
  | .lst xs, .lst ys => eqDs xs ys
  | .lst xs, .kls ys => eqDs xs ys
  | .kls xs, .lst ys => eqDs xs ys
  | .kls xs, .kls ys => eqDs xs ys
  | .tup xs, .tup ys => eqDs xs ys
  | .tup xs, .ktp ys => eqDs xs ys
  | .ktp xs, .tup ys => eqDs xs ys
  | .ktp xs, .ktp ys => eqDs xs ys
  | _, _ => false
def eqDs : List D → List D → Bool
  | [], [] => true
  | x :: xs, y :: ys => eqD x y && eqDs xs ys
  | _, _ => false
end
/-! data without dicts, at most n deep, its texts plain -/
mutual
def okD : Nat → D → Bool
  | _, .non => true
  | _, .bl _ => true
  | _, .int _ => true
  | _, .str x => x.cps.all (· < 0x110000)
  | 0, _ => false
  | n + 1, .lst xs => okDs n xs
  | n + 1, .kls xs => okDs n xs
  | n + 1, .tup xs => okDs n xs
  | n + 1, .ktp xs => okDs n xs
  | _, .dct _ => false
  | _, .dtt _ => false
def okDs : Nat → List D → Bool
  | _, [] => true
  | n, x :: xs => okD n x && okDs n xs
end
theorem okDs_iff {n : Nat} : ∀ {ds : List D}, okDs n ds = true ↔ ∀ d ∈ ds, okD n d = true
  | [] => by simp [okDs]
  | x :: xs => by simp [okDs, okDs_iff (ds := xs)]
/-- what == may compare -/
def okE : D → D → Bool
  | .str _, .str _ => true
  | .str _, .non => true
  | .non, .str _ => true
  | .str _, .int _ => true
  | .int _, .str _ => true
  | .str _, .bl _ => true
  | .bl _, .str _ => true
  | x, y => okD 64 x && okD 64 y
def gEq (x y : D) : Option Op := if okE x y then some (.fz (.bl (eqD x y))) else none
def gNe (x y : D) : Option Op := if okE x y then some (.fz (.bl (!eqD x y))) else none
/-! ### numbers, texts, rows -/
def mulOk (i j : Int) : Prop := i.natAbs < 2 ^ 64 ∨ j.natAbs < 2 ^ 64 ∨ i.natAbs.log2 + j.natAbs.log2 < 1000000
instance (i j : Int) : Decidable (mulOk i j) := by unfold mulOk; exact inferInstance
def gAdd : D → D → Option Op
  | .int i, .int j => some (.fz (.int (i + j)))
  | .str x, .str y => if x.length + y.length ≤ SZ then some (.fz (.str (x ++ y))) else none
  | .lst x, .lst y => if x.length + y.length ≤ SZ then some (.tm (.lst (x ++ y))) else none
  | .tup x, .tup y => if x.length + y.length ≤ SZ then some (.fz (.tup (x ++ y))) else none
  | _, _ => none
def gSub : D → D → Option Op
  | .int i, .int j => some (.fz (.int (i - j)))
  | _, _ => none
def gMul : D → D → Option Op
  | .int i, .int j => if mulOk i j then some (.fz (.int (i * j))) else none
  | .lst x, .int k => if (-(2 ^ 63) ≤ k ∧ k < 2 ^ 63) ∧ x.length * k.toNat ≤ SZ then some (.tm (.lst (List.replicate k.toNat x).flatten)) else none
  | .tup x, .int k => if (x ≠ [] ∧ 2 ≤ k) ∧ k ≤ 1000 ∧ x.length ≤ 1000 then some (.fz (.tup (List.replicate k.toNat x).flatten)) else none
  | _, _ => none
def gFdiv : D → D → Option Op
  | .int i, .int j => if j ≠ 0 ∧ j.natAbs.log2 < 9000 then some (.fz (.int (i.fdiv j))) else none
  | _, _ => none
def gMod : D → D → Option Op
  | .int i, .int j => if j ≠ 0 then some (.fz (.int (i.fmod j))) else none
  | _, _ => none
def gPow : D → D → Option Op
  | .int i, .int j => if (0 ≤ j ∧ j ≤ 1000000) ∧ i.natAbs < 2 ^ 64 then some (.fz (.int (i ^ j.toNat))) else none
  | _, _ => none
def gShl : D → D → Option Op
  | .int i, .int j => if 0 ≤ j ∧ (i.natAbs.log2 + 1 : Int) + j ≤ 2 ^ 27 then some (.fz (.int (i * 2 ^ j.toNat))) else none
  | _, _ => none
def gShr : D → D → Option Op
  | .int i, .int j => if 0 ≤ j then some (.fz (.int (i / 2 ^ j.toNat))) else none
  | _, _ => none
def gNeg : D → Option Op
  | .int i => some (.fz (.int (-i)))
  | _ => none
/-- ints of a row -/
def intsD : List D → Option (List Int)
  | [] => some []
  | .int i :: r => match intsD r with
    | some ns => some (i :: ns)
    | none => none
  | _ :: _ => none
theorem intsD_map (ns : List Int) : intsD (ns.map D.int) = some ns := by
  induction ns with
  | nil => rfl
  | cons a r ih => simp [intsD, ih]
theorem intsD_eq : ∀ {ds : List D} {ns : List Int}, intsD ds = some ns → ds = ns.map D.int
  | [], _, h => by cases h; rfl
  | d :: r, ns, h => by
    unfold intsD at h
    cases d with
    | int i =>
      cases q : intsD r with
      | none => simp [q] at h
      | some ms => simp only [q] at h; cases h; rw [List.map_cons, ← intsD_eq q]
    | _ => simp at h
def lexLtI : List Int → List Int → Bool
  | [], [] => false
  | [], _ :: _ => true
  | _ :: _, [] => false
  | x :: xs, y :: ys => if x = y then lexLtI xs ys else decide (x < y)
def gLt : D → D → Option Op
  | .int i, .int j => some (.fz (.bl (decide (i < j))))
  | .str x, .str y => some (.fz (.bl (decide (x.cps.toList < y.cps.toList))))
  | .tup x, .tup y => match intsD x, intsD y with
    | some ns, some ms => some (.fz (.bl (lexLtI ns ms)))
    | _, _ => none
  | _, _ => none
def gLe : D → D → Option Op
  | .int i, .int j => some (.fz (.bl (decide (i ≤ j))))
  | _, _ => none
def gGt : D → D → Option Op
  | .int i, .int j => some (.fz (.bl (decide (j < i))))
  | _, _ => none
def gGe : D → D → Option Op
  | .int i, .int j => some (.fz (.bl (decide (j ≤ i))))
  | _, _ => none
def gIs : D → D → Option Op
  | .non, .non => some (.fz (.bl true))
  | .bl a, .bl b => some (.fz (.bl (a == b)))
  | _, .non => some (.fz (.bl false))
  | _, _ => none
def gIsNot : D → D → Option Op
  | .non, .non => some (.fz (.bl false))
  | .bl a, .bl b => some (.fz (.bl (!(a == b))))
  | _, .non => some (.fz (.bl true))
  | _, _ => none
/-! ### keys -/
def keyD : D → Option DK
  | .int i => some (.inl i)
  | .str x => some (.inr x)
  | _ => none
def keysD : List D → Option (List DK)
  | [] => some []
  | d :: r => match keyD d, keysD r with
    | some k, some ks => some (k :: ks)
    | _, _ => none
def valD {κ : Type} [DecidableEq κ] : List (κ × D) → κ → Option D
  | [], _ => none
  | (k, d) :: r, x => if k = x then some d else valD r x
def setD {κ : Type} [DecidableEq κ] (r : List (κ × D)) (x : κ) (e : D) : List (κ × D) := r.map fun p => if p.1 = x then (p.1, e) else p
def putD {κ : Type} [DecidableEq κ] : List (κ × D) → κ → D → List (κ × D)
  | [], x, e => [(x, e)]
  | (k, d) :: r, x, e => if k = x then (k, e) :: setD r x e else (k, d) :: putD r x e
/-- a dict's value at a key; none: no such dict or key form -/
def dget : D → D → Option (Option D)
  | .dct kvs, k => match keyD k with
    | some k => some (valD kvs k)
    | none => none
  | .dtt kvs, .tup ks => match keysD ks with
    | some ks => some (valD kvs ks)
    | none => none
  | _, _ => none
def flatD : D → Bool
  | .non => true
  | .bl _ => true
  | .int _ => true
  | .str _ => true
  | _ => false
def gIn (x : D) (y : D) : Option Op := match asS y with
  | some ys => if flatD x && ys.all flatD then some (.fz (.bl (ys.any fun z => eqD z x)))
    else match y with
      | .lst ys => if okD 64 x && okD 64 (.lst ys) then some (.fz (.bl (ys.any fun z => eqD z x))) else none
      | _ => none
  | none => match dget y x with
    | some o => some (.fz (.bl o.isSome))
    | none => none
def gNotIn (x : D) (y : D) : Option Op := match asS y with
  | some ys => if flatD x && ys.all flatD then some (.fz (.bl (!ys.any fun z => eqD z x)))
    else match y with
      | .lst ys => if okD 64 x && okD 64 (.lst ys) then some (.fz (.bl (!ys.any fun z => eqD z x))) else none
      | _ => none
  | none => match dget y x with
    | some o => some (.fz (.bl (!o.isSome)))
    | none => none
/-! ### places -/
def ixI (n : Nat) (i : Int) : Option Nat := if 0 ≤ i then (if i < n then some i.toNat else none) else if -(n : Int) ≤ i then some (i + n).toNat else none
def gIx : D → D → Option Op
  | .str x, .int i => if x.length ≤ SZ then (match ixI x.cps.toList.length i with
    | some j => match x.cps.toList[j]? with
      | some c => some (.fz (.str ⟨#[c]⟩))
      | none => none
    | none => none) else none
  | x, k => match asS x with
    | some xs => match k with
      | .int i => match ixI xs.length i with
        | some j => match xs[j]? with
          | some d => some (.fz d)
          | none => none
        | none => none
      | _ => none
    | none => match dget x k with
      | some (some d) => some (.fz d)
      | _ => none
def sI (n d : Nat) : Option Int → Nat
  | none => d
  | some v => (if v < 0 then max (v + (n : Int)) 0 else min v (n : Int)).toNat
def cutD {α : Type} (xs : List α) (lo hi : Option Int) : List α := (xs.drop (sI xs.length 0 lo)).take (sI xs.length xs.length hi - sI xs.length 0 lo)
end DL
namespace DL
open PySem
inductive TyN where
  | bool | int | str | list | tuple | dict
def isD : TyN → D → Bool
  | .bool, .bl _ => true
  | .int, .bl _ => true
  | .int, .int _ => true
  | .str, .str _ => true
  | .list, .lst _ => true
  | .list, .kls _ => true
  | .tuple, .tup _ => true
  | .tuple, .ktp _ => true
  | .dict, .dct _ => true
  | .dict, .dtt _ => true
  | _, _ => false
def eIsi (t : TyN) (a : E) : E := eUn (fun d => some (.fz (.bl (isD t d)))) a
/-- a chain of comparisons behind its first operand -/
abbrev Ch := Op → Ev → EOut
def chLast (g : D → D → Option Op) (b : E) : Ch := fun o r => match b r with
  | .ok p r1 => match rsv r1 o, rsv r1 p with
    | some x, some y => match g x y with
      | some z => .ok z r1
      | none => .bad
    | _, _ => .bad
  | .err c r1 => .err c r1
  | .bad => .bad
def chLink (g : D → D → Option Op) (b : E) (k : Ch) : Ch := fun o r => match b r with
  | .ok p r1 => match rsv r1 o, rsv r1 p with
    | some x, some y => match g x y with
      | some (.fz (.bl true)) => k p r1
      | some (.fz (.bl false)) => .ok (.fz (.bl false)) r1
      | _ => .bad
    | _, _ => .bad
  | .err c r1 => .err c r1
  | .bad => .bad
def eCh (a : E) (k : Ch) : E := fun r => match a r with
  | .ok o r1 => k o r1
  | .err c r1 => .err c r1
  | .bad => .bad
def eNotE (a : E) : E := fun r => match tTru a r with
  | .ok b r1 => .ok (.fz (.bl (!b))) r1
  | .err c r1 => .err c r1
  | .bad => .bad
/-! ### built-ins by their operands -/
def gLen : List D → Option Op
  | [.str x] => if x.length ≤ SZ then some (.fz (.int x.length)) else none
  | [.dct kvs] => some (.fz (.int kvs.length))
  | [d] => match asS d with
    | some xs => some (.fz (.int xs.length))
    | none => none
  | _ => none
def gAbs : List D → Option Op
  | [.int i] => some (.fz (.int (if i < 0 then -i else i)))
  | _ => none
def gInt : List D → Option Op
  | [.int i] => some (.fz (.int i))
  | [.bl b] => some (.fz (.int (if b then 1 else 0)))
  | _ => none
def gMax2 : List D → Option Op
  | [.int m, .int n] => some (.fz (.int (if m < n then n else m)))
  | _ => none
def gMin2 : List D → Option Op
  | [.int m, .int n] => some (.fz (.int (if n < m then n else m)))
  | _ => none
def gList : List D → Option Op
  | [d] => match asS d with
    | some xs => some (.tm (.lst xs))
    | none => none
  | _ => none
def gTuple : List D → Option Op
  | [.tup xs] => some (.fz (.tup xs))
  | [.ktp xs] => some (.fz (.ktp xs))
  | [.lst xs] => some (.fz (.tup xs))
  | [.kls xs] => some (.fz (.tup xs))
  | _ => none
def gSum : List D → Option Op
  | [.lst xs] => match intsD xs with
    | some ns => some (.fz (.int ns.sum))
    | none => none
  | _ => none
def maxI : List Int → Option Int
  | [] => none
  | x :: r => some (r.foldl (fun a b => if a < b then b else a) x)
def minI : List Int → Option Int
  | [] => none
  | x :: r => some (r.foldl (fun a b => if b < a then b else a) x)
def gMaxL : List D → Option Op
  | [.lst xs] => match intsD xs with
    | some ns => match maxI ns with
      | some m => some (.fz (.int m))
      | none => none
    | none => none
  | _ => none
def gMinL : List D → Option Op
  | [.lst xs] => match intsD xs with
    | some ns => match minI ns with
      | some m => some (.fz (.int m))
      | none => none
    | none => none
  | _ => none
def blsD : List D → Option (List Bool)
  | [] => some []
  | .bl b :: r => match blsD r with
    | some bs => some (b :: bs)
    | none => none
  | _ :: _ => none
def gAll : List D → Option Op
  | [.lst xs] => match blsD xs with
    | some bs => some (.fz (.bl (bs.all id)))
    | none => none
  | _ => none
def gAny : List D → Option Op
  | [.lst xs] => match blsD xs with
    | some bs => some (.fz (.bl (bs.any id)))
    | none => none
  | _ => none
/-- an ascending row -/
def insI (x : Int) : List Int → List Int
  | [] => [x]
  | y :: r => if x ≤ y then x :: y :: r else y :: insI x r
def sortI : List Int → List Int
  | [] => []
  | x :: r => insI x (sortI r)
def gSorted : List D → Option Op
  | [.lst xs] => match intsD xs with
    | some ns => some (.tm (.lst ((sortI ns).map .int)))
    | none => none
  | _ => none
/-- a part of a slice: an int or left out -/
inductive POut where
  | ok (i : Option Int) (r : Ev) | err (c : Str) (r : Ev) | bad
abbrev P := Ev → POut
def pNo : P := fun r => .ok none r
def pSome (a : E) : P := fun r => match a r with
  | .ok (.fz (.int i)) r1 => .ok (some i) r1
  | .ok _ _ => .bad
  | .err c r1 => .err c r1
  | .bad => .bad
def gSlice (d : D) (lo hi : Option Int) : Option Op := match d with
  | .lst xs => some (.tm (.lst (cutD xs lo hi)))
  | .kls xs => some (.tm (.lst (cutD xs lo hi)))
  | .tup xs => some (.fz (.tup (cutD xs lo hi)))
  | .str x => if x.length ≤ SZ then some (.fz (.str ⟨(cutD x.cps.toList lo hi).toArray⟩)) else none
  | _ => none
def eSlice (a : E) (lo hi : P) : E := fun r => match a r with
  | .ok o r1 => match lo r1 with
    | .ok l r2 => match hi r2 with
      | .ok h r3 => match rsv r3 o with
        | some d => match gSlice d l h with
          | some z => .ok z r3
          | none => .bad
        | none => .bad
      | .err c r3 => .err c r3
      | .bad => .bad
    | .err c r2 => .err c r2
    | .bad => .bad
  | .err c r1 => .err c r1
  | .bad => .bad
/-! ### lists and dicts changed -/
def gAppend : D → List D → Option (D × Op)
  | .lst xs, [d] => if xs.length < SZ then some (.lst (xs ++ [d]), .fz .non) else none
  | _, _ => none
def gPop : D → List D → Option (D × Op)
  | .lst xs, [] => match xs[xs.length - 1]? with
    | some d => some (.lst xs.dropLast, .fz d)
    | none => none
  | _, _ => none
def gPopAt : D → List D → Option (D × Op)
  | .lst xs, [.int i] => if 0 ≤ i ∧ i < 2 ^ 62 then (match xs[i.toNat]? with
    | some d => some (.lst (xs.eraseIdx i.toNat), .fz d)
    | none => none) else none
  | _, _ => none
def gExtend : D → List D → Option (D × Op)
  | .lst xs, [.lst ys] => if xs.length + ys.length ≤ SZ then some (.lst (xs ++ ys), .fz .non) else none
  | _, _ => none
/-- x[k] = v -/
def gSet : D → D → D → Option D
  | .lst xs, .int i, v => match ixI xs.length i with
    | some j => some (.lst (xs.set j v))
    | none => none
  | .dct kvs, k, v => match keyD k with
    | some k => if kvs.length < SZ then some (.dct (putD kvs k v)) else none
    | none => none
  | .dtt kvs, .tup ks, v => match keysD ks with
    | some k => if kvs.length < SZ then some (.dtt (putD kvs k v)) else none
    | none => none
  | _, _, _ => none
def gIAdd : D → D → Option Op
  | .int i, .int j => some (.fz (.int (i + j)))
  | .str x, .str y => if x.length + y.length ≤ SZ then some (.fz (.str (x ++ y))) else none
  | _, _ => none
def gIMul : D → D → Option Op
  | .int i, .int j => if mulOk i j then some (.fz (.int (i * j))) else none
  | _, _ => none
/-- only True, False as a test's value -/
def tBl (a : E) : T := fun r => match a r with
  | .ok (.fz (.bl b)) r1 => .ok b r1
  | .ok _ _ => .bad
  | .err c r1 => .err c r1
  | .bad => .bad
/-- max, min of two numbers or of a row of them -/
def gMax (ds : List D) : Option Op := match ds with
  | [_, _] => gMax2 ds
  | _ => gMaxL ds
def gMin (ds : List D) : Option Op := match ds with
  | [_, _] => gMin2 ds
  | _ => gMinL ds
/-- greatest common divisor -/
def gGcd : List D → Option Op
  | [.int a, .int b] => some (.fz (.int ((Nat.gcd a.natAbs b.natAbs : Nat) : Int)))
  | _ => none
/-- try, with one except clause; sub tells whether a raised class is caught; the suite knows which it was -/
def sTry (sub : Str → Option Bool) (b : S) (h : Str → S) : S := fun r => match b r with
  | .err c r1 => match sub c with
    | some true => match h c r1 with
      | .err _ _ => .bad
      | x => x
    | some false => .err c r1
    | none => .bad
  | x => x
end DL

section
set_option autoImplicit false
/-! DLG2: more constructs over data. -/
namespace DL
open PySem
/-- an empty dict, by what its keys will be -/
def eNewK : E := fun r => .ok (.tm (.dct [])) r
def eNewT : E := fun r => .ok (.tm (.dtt [])) r
/-- {k: v} -/
def eDisp1 (k v : E) : E := fun r => match k r with
  | .ok o r1 => match v r1 with
    | .ok p r2 => match rsv r2 o with
      | some dk => match keyD dk with
        | some key => match fzo r2 p with
          | some (dv, r3) => .ok (.tm (.dct [(key, dv)])) r3
          | none => .bad
        | none => .bad
      | none => .bad
    | .err c r2 => .err c r2
    | .bad => .bad
  | .err c r1 => .err c r1
  | .bad => .bad
def gDictOf : List D → Option Op
  | [.dct kvs] => some (.tm (.dct kvs))
  | _ => none
def gStr : List D → Option Op
  | [.int i] => if i.natAbs.log2 < 1920 then some (.fz (.str (toString i))) else none
  | [.str x] => some (.fz (.str x))
  | _ => none
/-- x[::-1] of a list -/
def gRev : D → Option Op
  | .lst xs => some (.tm (.lst xs.reverse))
  | .kls xs => some (.tm (.lst xs.reverse))
  | _ => none
/-- list(range(a)), list(range(a, b)) -/
def eLstR1 (a : E) : E := fun r => match a r with
  | .ok (.fz (.int j)) r1 => if (-(2 ^ 62) ≤ j ∧ j < 2 ^ 62) ∧ j.toNat ≤ SZ then .ok (.tm (.lst (upFrom 0 j.toNat))) r1 else .bad
  | .ok _ _ => .bad
  | .err c r1 => .err c r1
  | .bad => .bad
def eLstR2 (a b : E) : E := fun r => match a r with
  | .ok (.fz (.int i)) r1 => match b r1 with
    | .ok (.fz (.int j)) r2 => if ((-(2 ^ 62) ≤ i ∧ i < 2 ^ 62) ∧ -(2 ^ 62) ≤ j ∧ j < 2 ^ 62) ∧ (j - i).toNat ≤ SZ then .ok (.tm (.lst (upFrom i (j - i).toNat))) r2 else .bad
    | .ok _ _ => .bad
    | .err c r2 => .err c r2
    | .bad => .bad
  | .ok _ _ => .bad
  | .err c r1 => .err c r1
  | .bad => .bad
def zipD : List D → List D → List D
  | x :: xs, y :: ys => .tup [x, y] :: zipD xs ys
  | _, _ => []
/-- zip of two lists, of two tuples -/
def iZip (a b : E) : I := fun r => match a r with
  | .ok o r1 => match b r1 with
    | .ok p r2 => match fzo r2 o with
      | some (x, r3) => match fzo r3 p with
        | some (y, r4) => match asL x, asL y with
          | some xs, some ys => .ok (zipD xs ys) r4
          | _, _ => match asT x, asT y with
            | some xs, some ys => .ok (zipD xs ys) r4
            | _, _ => .bad
        | none => .bad
      | none => .bad
    | .err c r2 => .err c r2
    | .bad => .bad
  | .err c r1 => .err c r1
  | .bad => .bad
def enumD (i : Int) : List D → List D
  | [] => []
  | x :: xs => .tup [.int i, x] :: enumD (i + 1) xs
def iEnum (a : E) : I := fun r => match a r with
  | .ok o r1 => match fzo r1 o with
    | some (x, r2) => match asL x with
      | some xs => .ok (enumD 0 xs) r2
      | none => .bad
    | none => .bad
  | .err c r1 => .err c r1
  | .bad => .bad
def isDc : Option D → Bool
  | some (.dct _) => true
  | some (.dtt _) => true
  | _ => false
/-- d.get(k, x) -/
def eGet2 (d k x : E) : E := fun r => match d r with
  | .ok o r1 => if isDc (rsv r1 o) = true then (match k r1 with
    | .ok p r2 => match x r2 with
      | .ok (.fz dx) r3 => match rsv r3 o, rsv r3 p with
        | some dd, some dk => match dget dd dk with
          | some (some v) => .ok (.fz v) r3
          | some none => .ok (.fz dx) r3
          | none => .bad
        | _, _ => .bad
      | .ok _ _ => .bad
      | .err c r3 => .err c r3
      | .bad => .bad
    | .err c r2 => .err c r2
    | .bad => .bad) else .bad
  | .err c r1 => .err c r1
  | .bad => .bad
/-- l.insert(i, y) -/
def gInsert : D → List D → Option (D × Op)
  | .lst xs, [.int i, y] => if xs.length < SZ ∧ 0 ≤ i ∧ i < 2 ^ 63 then some (.lst (xs.take i.toNat ++ [y] ++ xs.drop i.toNat), .fz .non) else none
  | _, _ => none
/-- a dict comprehension -/
def dcGo (vs : List Nat) (t : Tg) (c : T) (k v : E) (r0 : Ev) : List D → List (DK × D) → Ev → EOut
  | [], acc, r => .ok (.tm (.dct acc)) (backE r0 r vs)
  | d :: ds, acc, r => match t.put d (wipeE r vs) with
    | some r1 => match c r1 with
      | .ok true r2 => match k r2 with
        | .ok o r3 => match v r3 with
          | .ok p r4 => match rsv r4 o with
            | some dk => match keyD dk with
              | some key => match fzo r4 p with
                | some (dv, r5) => if acc.length < SZ then dcGo vs t c k v r0 ds (putD acc key dv) r5 else .bad
                | none => .bad
              | none => .bad
            | none => .bad
          | _ => .bad
        | _ => .bad
      | .ok false r2 => dcGo vs t c k v r0 ds acc r2
      | _ => .bad
    | none => .bad
def eDc (vs : List Nat) (t : Tg) (it : I) (c : T) (k v : E) : E := fun r => match it r with
  | .ok ds r1 => if vs.all (fun v => !isOw r1[v]?) then dcGo vs t c k v r1 ds [] r1 else .bad
  | .err c r1 => .err c r1
  | .bad => .bad
end DL
end

section
set_option autoImplicit false
/-! DLG3: walks over a dict. -/
namespace DL
open PySem
def kD : DK → D
  | .inl i => .int i
  | .inr x => .str x
def isK : Option Sl → Bool
  | some (.va (.dct _)) => true
  | some (.ow _ (.dct _)) => true
  | _ => false
/-- the keys of the dict in slot i, which stands still -/
def iKeysD (i : Nat) : I := fun r => match r[i]? with
  | some (.va (.dct kvs)) => .ok (kvs.map fun p => kD p.1) r
  | _ => .bad
/-- a comprehension over what slot i holds: a dict, else a row -/
def eLcN (vs : List Nat) (t : Tg) (i : Nat) (c : T) (e : E) : E := fun r => if isK r[i]? = true then (match fzo r (.br i) with
  | some (_, r1) => eLc vs t (iKeysD i) c e r1
  | none => .bad) else eLc vs t (iSeq (eName i)) c e r
def eDcN (vs : List Nat) (t : Tg) (i : Nat) (c : T) (k v : E) : E := fun r => if isK r[i]? = true then (match fzo r (.br i) with
  | some (_, r1) => eDc vs t (iKeysD i) c k v r1
  | none => .bad) else eDc vs t (iSeq (eName i)) c k v r
/-- raise of an error that no law meets -/
def sBad : S := fun _ => .bad
/-- whole numbers of a row of keys -/
def keysI : List DK → Option (List Int)
  | [] => some []
  | .inl i :: r => match keysI r with
    | some ns => some (i :: ns)
    | none => none
  | .inr _ :: _ => none
/-- sorted, also of a dict -/
def gSortedD (ds : List D) : Option Op := match ds with
  | [.dct kvs] => match keysI (kvs.map (·.1)) with
    | some ns => some (.tm (.lst ((sortI ns).map .int)))
    | none => none
  | ds => gSorted ds
end DL
end

section
set_option autoImplicit false
/-! DLG4: an expression that changes nothing: it is taken where everything stands still. -/
namespace DL
open PySem
def frzS : Sl → Sl
  | .ow _ d => .va d
  | s => s
def frzAll (r : Ev) : Ev := r.map frzS
/-- flat results of an expression that changes nothing; else as before -/
def eQ (f : E) : E := fun r => match f (frzAll r) with
  | .ok (.fz d) _ => if flatD d = true then .ok (.fz d) r else f r
  | .ok (.tm (.lst acc)) _ => if acc.all flatD = true then .ok (.tm (.lst acc)) r else f r
  | _ => f r
end DL
end

section
set_option Elab.async false
set_option linter.all false
set_option maxRecDepth 100000
set_option autoImplicit false
/-! DL1: data in the abstract heap; the state of a frame; the judgements over data. -/
namespace DL
open PySem PySem.Spec PyProof.Rows L2
abbrev FG := PySem.W.Frag

/-! ### data that stands still: G holds the objects that are not changed any more -/
mutual
inductive RD (K : FG) (G : Hp) : D → V → Prop
  | non : RD K G .non .non
  | bl (b : Bool) : RD K G (.bl b) (.bl b)
  | int (i : Int) : RD K G (.int i) (.int i)
  | str (x : Str) : RD K G (.str x) (.str x)
  | tup {a : Addr} {vs : List V} {ds : List D} : G a = some (.tup vs) → RDs K G ds vs → RD K G (.tup ds) (.ref a)
  | ktp {a : Addr} {vs : List V} {ds : List D} : SqT K G a vs → RDs K G ds vs → RD K G (.ktp ds) (.ref a)
  | kls {a : Addr} {vs : List V} {ds : List D} : SqL K G a vs → RDs K G ds vs → RD K G (.kls ds) (.ref a)
  | lst {a : Addr} {vs : List V} {ds : List D} : G a = some (.lst vs) → RDs K G ds vs → RD K G (.lst ds) (.ref a)
  | dct {a : Addr} {ws : List (Key × V)} {kvs : List (DK × D)} : Rd G a (.dK ws) → ws.map (·.1) = kvs.map (·.1) → RDs K G (kvs.map (·.2)) (ws.map (·.2)) → RD K G (.dct kvs) (.ref a)
  | dtt {a : Addr} {ws : List (List Key × V)} {kvs : List (List DK × D)} : G a = some (.dT ws) → ws.map (·.1) = kvs.map (·.1) → RDs K G (kvs.map (·.2)) (ws.map (·.2)) → RD K G (.dtt kvs) (.ref a)
inductive RDs (K : FG) (G : Hp) : List D → List V → Prop
  | nil : RDs K G [] []
  | cons {d : D} {v : V} {ds : List D} {vs : List V} : RD K G d v → RDs K G ds vs → RDs K G (d :: ds) (v :: vs)
end
theorem Same.rd {H H' : Hp} {a : Addr} {u : HO} (e : Same H H') (h : Rd H a u) : Rd H' a u := by
  rcases h with h | ⟨o, h⟩
  · exact .inl (e _ _ h)
  · exact .inr ⟨o, e _ _ h⟩
theorem Same.seqT {K : FG} {H H' : Hp} {a : Addr} {xs : List V} (e : Same H H') (h : SqT K H a xs) : SqT K H' a xs := by
  rcases h with (h | ⟨o, h⟩) | h
  · exact .inl (.inl (e _ _ h))
  · exact .inl (.inr ⟨o, e _ _ h⟩)
  · exact .inr h
mutual
theorem RD.mono {K : FG} {G G' : Hp} (sm : Same G G') : ∀ {d : D} {v : V}, RD K G d v → RD K G' d v
  | _, _, .non => .non
  | _, _, .bl b => .bl b
  | _, _, .int i => .int i
  | _, _, .str x => .str x
  | _, _, .tup h r => .tup (sm _ _ h) (RDs.mono sm r)
  | _, _, .ktp h r => .ktp (Same.seqT sm h) (RDs.mono sm r)
  | _, _, .kls h r => .kls (sm.seq h) (RDs.mono sm r)
  | _, _, .lst h r => .lst (sm _ _ h) (RDs.mono sm r)
  | _, _, .dct h e r => .dct (Same.rd sm h) e (RDs.mono sm r)
  | _, _, .dtt h e r => .dtt (sm _ _ h) e (RDs.mono sm r)
theorem RDs.mono {K : FG} {G G' : Hp} (sm : Same G G') : ∀ {ds : List D} {vs : List V}, RDs K G ds vs → RDs K G' ds vs
  | _, _, .nil => .nil
  | _, _, .cons a b => .cons (RD.mono sm a) (RDs.mono sm b)
end
section
variable {K : FG} {G G' H H' : Hp}
theorem RDs.length : ∀ {ds : List D} {vs : List V}, RDs K G ds vs → ds.length = vs.length
  | _, _, .nil => rfl
  | _, _, .cons _ b => congrArg (· + 1) b.length
theorem RDs.append : ∀ {ds es : List D} {vs ws : List V}, RDs K G ds vs → RDs K G es ws → RDs K G (ds ++ es) (vs ++ ws)
  | _, _, _, _, .nil, s => s
  | _, _, _, _, .cons a b, s => .cons a (b.append s)
theorem RDs.one {d : D} {v : V} (h : RD K G d v) : RDs K G [d] [v] := .cons h .nil
theorem RDs.take : ∀ (n : Nat) {ds : List D} {vs : List V}, RDs K G ds vs → RDs K G (ds.take n) (vs.take n)
  | 0, _, _, _ => by simp; exact .nil
  | _ + 1, _, _, .nil => .nil
  | n + 1, _, _, .cons a b => .cons a (b.take n)
theorem RDs.drop : ∀ (n : Nat) {ds : List D} {vs : List V}, RDs K G ds vs → RDs K G (ds.drop n) (vs.drop n)
  | 0, _, _, h => h
  | _ + 1, _, _, .nil => .nil
  | n + 1, _, _, .cons a b => b.drop n
theorem RDs.get : ∀ {ds : List D} {vs : List V} {i : Nat} {d : D}, RDs K G ds vs → ds[i]? = some d → ∃ v, vs[i]? = some v ∧ RD K G d v
  | _, _, _, _, .nil, e => by simp at e
  | _, _, 0, _, .cons a b, e => by simp at e; subst e; exact ⟨_, rfl, a⟩
  | _, _, i + 1, _, .cons a b, e => by simpa using b.get (i := i) (by simpa using e)
theorem RDs.get' : ∀ {ds : List D} {vs : List V} {i : Nat} {v : V}, RDs K G ds vs → vs[i]? = some v → ∃ d, ds[i]? = some d ∧ RD K G d v
  | _, _, _, _, .nil, e => by simp at e
  | _, _, 0, _, .cons a b, e => by simp at e; subst e; exact ⟨_, rfl, a⟩
  | _, _, i + 1, _, .cons a b, e => by simpa using b.get' (i := i) (by simpa using e)
theorem RDs.set : ∀ {ds : List D} {vs : List V} (i : Nat) {d : D} {v : V}, RDs K G ds vs → RD K G d v → RDs K G (ds.set i d) (vs.set i v)
  | _, _, _, _, _, .nil, _ => .nil
  | _, _, 0, _, _, .cons a b, h => .cons h b
  | _, _, i + 1, _, _, .cons a b, h => .cons a (b.set i h)
theorem RDs.eraseIdx : ∀ {ds : List D} {vs : List V} (i : Nat), RDs K G ds vs → RDs K G (ds.eraseIdx i) (vs.eraseIdx i)
  | _, _, _, .nil => .nil
  | _, _, 0, .cons a b => b
  | _, _, i + 1, .cons a b => .cons a (b.eraseIdx i)
theorem RDs.reverse {ds : List D} {vs : List V} (h : RDs K G ds vs) : RDs K G ds.reverse vs.reverse := by
  induction h using RDs.rec (motive_1 := fun _ _ _ => True) with
  | nil => exact .nil
  | cons a b _ ih => simp only [List.reverse_cons]; exact ih.append (.one a)
  | _ => trivial

/-- data that may be read: the top object of a list, a dict as it stands in H -/
def RH (K : FG) (G H : Hp) : D → V → Prop
  | .lst ds, v => ∃ a vs, v = .ref a ∧ H a = some (.lst vs) ∧ RDs K G ds vs
  | .dct kvs, v => ∃ a ws, v = .ref a ∧ Rd H a (.dK ws) ∧ ws.map (·.1) = kvs.map (·.1) ∧ RDs K G (kvs.map (·.2)) (ws.map (·.2))
  | .dtt kvs, v => ∃ a ws, v = .ref a ∧ H a = some (.dT ws) ∧ ws.map (·.1) = kvs.map (·.1) ∧ RDs K G (kvs.map (·.2)) (ws.map (·.2))
  | d, v => RD K G d v
theorem RD.rh (sg : Same G H) : ∀ {d : D} {v : V}, RD K G d v → RH K G H d v
  | _, _, .non => .non
  | _, _, .bl b => .bl b
  | _, _, .int i => .int i
  | _, _, .str x => .str x
  | _, _, .tup h r => .tup h r
  | _, _, .ktp h r => .ktp h r
  | _, _, .kls h r => .kls h r
  | _, _, .lst h r => ⟨_, _, rfl, sg _ _ h, r⟩
  | _, _, .dct h e r => ⟨_, _, rfl, Same.rd sg h, e, r⟩
  | _, _, .dtt h e r => ⟨_, _, rfl, sg _ _ h, e, r⟩
/-- an object that may be changed -/
def RM (K : FG) (G H : Hp) (a : Addr) : D → Prop
  | .lst ds => ∃ vs, H a = some (.lst vs) ∧ RDs K G ds vs
  | .dct kvs => ∃ ws, H a = some (.dK ws) ∧ ws.map (·.1) = kvs.map (·.1) ∧ RDs K G (kvs.map (·.2)) (ws.map (·.2))
  | .dtt kvs => ∃ ws, H a = some (.dT ws) ∧ ws.map (·.1) = kvs.map (·.1) ∧ RDs K G (kvs.map (·.2)) (ws.map (·.2))
  | _ => False
theorem RM.rh {a : Addr} : ∀ {d : D}, RM K G H a d → RH K G H d (.ref a)
  | .lst _, ⟨_, h, r⟩ => ⟨_, _, rfl, h, r⟩
  | .dct _, ⟨_, h, e, r⟩ => ⟨_, _, rfl, .inl h, e, r⟩
  | .dtt _, ⟨_, h, e, r⟩ => ⟨_, _, rfl, h, e, r⟩
theorem RM.at {a : Addr} (sm : Same G G') (e : H' a = H a) : ∀ {d : D}, RM K G H a d → RM K G' H' a d
  | .lst _, ⟨_, h, r⟩ => ⟨_, e.trans h, r.mono sm⟩
  | .dct _, ⟨_, h, e', r⟩ => ⟨_, e.trans h, e', r.mono sm⟩
  | .dtt _, ⟨_, h, e', r⟩ => ⟨_, e.trans h, e', r.mono sm⟩
theorem RM.there {a : Addr} : ∀ {d : D}, RM K G H a d → ∃ o, H a = some o
  | .lst _, ⟨_, h, _⟩ => ⟨_, h⟩
  | .dct _, ⟨_, h, _⟩ => ⟨_, h⟩
  | .dtt _, ⟨_, h, _⟩ => ⟨_, h⟩
/-- it is put away: it stands in G from now on -/
theorem RM.freeze {a : Addr} (hn : G a = none) : ∀ {d : D}, RM K G H a d → ∃ o, H a = some o ∧ RD K (upd G a o) d (.ref a)
  | .lst _, ⟨_, h, r⟩ => ⟨_, h, .lst upd_same (r.mono fun b x e => by rw [upd_ne (ne_of_none e hn)]; exact e)⟩
  | .dct _, ⟨_, h, e, r⟩ => ⟨_, h, .dct (.inl upd_same) e (r.mono fun b x e => by rw [upd_ne (ne_of_none e hn)]; exact e)⟩
  | .dtt _, ⟨_, h, e, r⟩ => ⟨_, h, .dtt upd_same e (r.mono fun b x e => by rw [upd_ne (ne_of_none e hn)]; exact e)⟩
end
theorem same_new {G : Hp} {a : Addr} {o : HO} (hn : G a = none) : Same G (upd G a o) := fun b x e => by rw [upd_ne (ne_of_none e hn)]; exact e
theorem same_in {G H : Hp} {a : Addr} {o : HO} (sg : Same G H) (h : H a = some o) : Same (upd G a o) H := fun b x e => by
  by_cases hb : b = a
  · subst hb; rw [upd_same] at e; rw [h]; exact e
  · rw [upd_ne hb] at e; exact sg b x e

/-! ### a frame's state -/
structure Fr0 where
  G0 : Hp
  H0 : Hp
  io : List Addr
structure RS (K : FG) (Z : Fr0) (G H : Hp) (r : Ev) (σ : L2.St) : Prop where
  len : r.length = σ.length
  sg : Same G H
  g0 : Same Z.G0 G
  h0 : ∀ a o, Z.H0 a = some o → a ∉ Z.io → H a = some o
  dm : ∀ a, H a = none → Z.H0 a = none
  fr : ∀ a o, G a = some o → Z.G0 a = some o ∨ Z.H0 a = none
  va : ∀ (i : Nat) (d : D), r[i]? = some (.va d) → ∃ v : V, σ[i]? = some (some v) ∧ RD K G d v
  ow : ∀ (i : Nat) (b : Bool) (d : D), r[i]? = some (.ow b d) → ∃ a : Addr, σ[i]? = some (some (V.ref a)) ∧ G a = none ∧ RM K G H a d ∧ (if b then a ∈ Z.io else Z.H0 a = none)
  inj : ∀ (i j : Nat) (a : Addr), isOw r[i]? = true → isOw r[j]? = true → σ[i]? = some (some (V.ref a)) → σ[j]? = some (some (V.ref a)) → i = j
def ownAt (r : Ev) (σ : L2.St) (a : Addr) : Prop := ∃ i : Nat, isOw r[i]? = true ∧ σ[i]? = some (some (V.ref a))
theorem isOw_some {x : Option Sl} (h : isOw x = true) : ∃ b d, x = some (.ow b d) := by
  cases x with
  | none => cases h
  | some y => cases y with
    | ow b d => exact ⟨b, d, rfl⟩
    | _ => cases h
/-- an expression's effect -/
structure EX (σ : L2.St) (G H : Hp) (r : Ev) (G' H' : Hp) (r' : Ev) : Prop where
  g : Same G G'
  h : ∀ a o, H a = some o → ¬ ownAt r σ a → H' a = some o
  n : ∀ a, H' a = none → H a = none
  f : ∀ a o, G' a = some o → G a = some o ∨ H a = none ∨ ownAt r σ a
  o : ∀ a, ownAt r' σ a → ownAt r σ a
theorem EX.refl {σ : L2.St} {G H : Hp} {r : Ev} : EX σ G H r G H r := ⟨Same.refl _, fun _ _ h _ => h, fun _ h => h, fun _ _ h => .inl h, fun _ h => h⟩
theorem EX.trans {σ : L2.St} {G H G1 H1 G2 H2 : Hp} {r r1 r2 : Ev} (a : EX σ G H r G1 H1 r1) (b : EX σ G1 H1 r1 G2 H2 r2) : EX σ G H r G2 H2 r2 where
  g := a.g.trans b.g
  h := fun c o h n => b.h c o (a.h c o h n) fun k => n (a.o c k)
  n := fun c h => a.n c (b.n c h)
  f := fun c o h => by
    rcases b.f c o h with h | h | h
    · exact a.f c o h
    · exact .inr (.inl (a.n c h))
    · exact .inr (.inr (a.o c h))
  o := fun c h => a.o c (b.o c h)
/-- an operand's value -/
def RO (K : FG) (Z : Fr0) (σ : L2.St) (B G H : Hp) (r : Ev) : Op → V → Prop
  | .fz d, v => RD K G d v
  | .br i, v => σ[i]? = some (some v)
  | .tm d, v => ∃ a, v = .ref a ∧ G a = none ∧ (Z.H0 a = none ∧ B a = none) ∧ ¬ ownAt r σ a ∧ RM K G H a d
theorem RO.keep {K : FG} {Z : Fr0} {σ : L2.St} {B G H G' H' : Hp} {r r' : Ev} (x : EX σ G H r G' H' r') : ∀ {o : Op} {v : V}, RO K Z σ B G H r o v → RO K Z σ B G' H' r' o v
  | .fz _, _, h => RD.mono x.g h
  | .br _, _, h => h
  | .tm _, _, ⟨a, e, h1, h2, h3, h4⟩ => by
    obtain ⟨o, ho⟩ := h4.there
    refine ⟨a, e, ?_, h2, fun k => h3 (x.o a k), h4.at x.g ((x.h a o ho h3).trans ho.symm)⟩
    cases q : G' a with
    | none => rfl
    | some u =>
      rcases x.f a u q with k | k | k
      · rw [h1] at k; cases k
      · rw [ho] at k; cases k
      · exact absurd k h3
theorem RO.base {K : FG} {Z : Fr0} {σ : L2.St} {B B' G H : Hp} {r : Ev} (n : ∀ a, B a = none → B' a = none) : ∀ {o : Op} {v : V}, RO K Z σ B G H r o v → RO K Z σ B' G H r o v
  | .fz _, _, h => h
  | .br _, _, h => h
  | .tm _, _, ⟨a, e, h1, h2, h3, h4⟩ => ⟨a, e, h1, ⟨h2.1, n a h2.2⟩, h3, h4⟩
/-- operands' values -/
inductive ROs (K : FG) (Z : Fr0) (σ : L2.St) (B G H : Hp) (r : Ev) : List Op → List V → Prop
  | nil : ROs K Z σ B G H r [] []
  | cons {o : Op} {v : V} {os : List Op} {vs : List V} : RO K Z σ B G H r o v → ROs K Z σ B G H r os vs → ROs K Z σ B G H r (o :: os) (v :: vs)
theorem RO.rsv {K : FG} {Z : Fr0} {σ : L2.St} {B G H : Hp} {r : Ev} (S : RS K Z G H r σ) : ∀ {o : Op} {v : V} {d : D}, RO K Z σ B G H r o v → rsv r o = some d → RH K G H d v
  | .fz _, _, _, h, e => by cases e; exact RD.rh S.sg h
  | .tm _, _, _, ⟨a, e1, _, _, _, h⟩, e => by cases e; subst e1; exact h.rh
  | .br i, v, d, h, e => by
    have h' : σ[i]? = some (some v) := h
    unfold DL.rsv at e
    cases q : r[i]? with
    | none => simp [q] at e
    | some s =>
      cases s with
      | no => simp [q] at e
      | va d' =>
        simp only [q] at e; cases e
        obtain ⟨v', e1, e2⟩ := S.va i d q
        rw [h'] at e1; cases e1
        exact e2.rh S.sg
      | ow b d' =>
        simp only [q] at e; cases e
        obtain ⟨a, e1, e2, e3, _⟩ := S.ow i b d q
        rw [h'] at e1; cases e1
        exact e3.rh
inductive RHs (K : FG) (G H : Hp) : List D → List V → Prop
  | nil : RHs K G H [] []
  | cons {d : D} {v : V} {ds : List D} {vs : List V} : RH K G H d v → RHs K G H ds vs → RHs K G H (d :: ds) (v :: vs)
theorem ROs.rsvs {K : FG} {Z : Fr0} {σ : L2.St} {B G H : Hp} {r : Ev} (S : RS K Z G H r σ) : ∀ {os : List Op} {vs : List V} {ds : List D}, ROs K Z σ B G H r os vs → rsvs r os = some ds → RHs K G H ds vs
  | [], _, _, .nil, e => by cases e; exact .nil
  | o :: os, _, ds, .cons a b, e => by
    unfold DL.rsvs at e
    cases q : rsv r o with
    | none => simp [q] at e
    | some d =>
      cases q2 : DL.rsvs r os with
      | none => simp [q, q2] at e
      | some ds' =>
        simp only [q, q2] at e; cases e
        exact .cons (a.rsv S q) (ROs.rsvs S b q2)
theorem isOw_set {r : Ev} {i j : Nat} {d : D} (h : isOw (r.set i (.va d))[j]? = true) : isOw r[j]? = true ∧ j ≠ i := by
  by_cases e : i = j
  · subst e
    by_cases hl : i < r.length
    · rw [List.getElem?_set_self hl] at h; cases h
    · rw [List.getElem?_eq_none (by simpa using hl)] at h; cases h
  · rw [List.getElem?_set_ne e] at h; exact ⟨h, fun k => e k.symm⟩
/-- the object in slot i is put away -/
theorem RS.freeze {K : FG} {Z : Fr0} {G H : Hp} {r : Ev} {σ : L2.St} (S : RS K Z G H r σ) {i : Nat} {d : D} (h : r[i]? = some (.ow false d)) :
    ∃ a G', σ[i]? = some (some (.ref a)) ∧ RS K Z G' H (r.set i (.va d)) σ ∧ EX σ G H r G' H (r.set i (.va d)) ∧ RD K G' d (.ref a) := by
  obtain ⟨a, e1, e2, e3, e4⟩ := S.ow i false d h
  obtain ⟨o, ho, rd⟩ := e3.freeze e2
  have hi : i < r.length := (List.getElem?_eq_some_iff.mp h).1
  have ow_a : ownAt r σ a := ⟨i, by rw [h]; rfl, e1⟩
  refine ⟨a, upd G a o, e1, ?_, ?_, rd⟩
  · refine ⟨by rw [List.length_set]; exact S.len, same_in S.sg ho, S.g0.trans (same_new e2), S.h0, S.dm, fun b u q => ?_, fun j d' q => ?_, fun j b d' q => ?_, fun j k b p q => ?_⟩
    · by_cases hb : b = a
      · subst hb; exact .inr e4
      · rw [upd_ne hb] at q; exact S.fr b u q
    · by_cases hj : i = j
      · subst hj
        rw [List.getElem?_set_self hi] at q; cases q
        exact ⟨_, e1, rd⟩
      · rw [List.getElem?_set_ne hj] at q
        obtain ⟨v, p1, p2⟩ := S.va j d' q
        exact ⟨v, p1, p2.mono (same_new e2)⟩
    · by_cases hj : i = j
      · subst hj
        rw [List.getElem?_set_self hi] at q; cases q
      · rw [List.getElem?_set_ne hj] at q
        obtain ⟨b', p1, p2, p3, p4⟩ := S.ow j b d' q
        have ne : b' ≠ a := fun z => hj (S.inj i j a (by rw [h]; rfl) (by rw [q]; rfl) e1 (by rw [← z]; exact p1))
        exact ⟨b', p1, by rw [upd_ne ne]; exact p2, p3.at (same_new e2) rfl, p4⟩
    · exact S.inj j k b (isOw_set p).1 (isOw_set q).1
  · refine ⟨same_new e2, fun _ _ h _ => h, fun _ h => h, fun b u q => ?_, fun b ⟨j, p, q⟩ => ⟨j, (isOw_set p).1, q⟩⟩
    by_cases hb : b = a
    · subst hb; exact .inr (.inr ow_a)
    · rw [upd_ne hb] at q; exact .inl q
/-- a new object is put away -/
theorem RS.frz {K : FG} {Z : Fr0} {G H : Hp} {r : Ev} {σ : L2.St} (S : RS K Z G H r σ) {a : Addr} {d : D} (e2 : G a = none) (e4 : Z.H0 a = none) (no : ¬ ownAt r σ a) (e3 : RM K G H a d)
    : ∃ o, H a = some o ∧ RS K Z (upd G a o) H r σ ∧ Same G (upd G a o) ∧ RD K (upd G a o) d (.ref a) := by
  obtain ⟨o, ho, rd⟩ := e3.freeze e2
  refine ⟨o, ho, ?_, same_new e2, rd⟩
  refine ⟨S.len, same_in S.sg ho, S.g0.trans (same_new e2), S.h0, S.dm, fun b u q => ?_, fun j d' q => ?_, fun j b d' q => ?_, S.inj⟩
  · by_cases hb : b = a
    · subst hb; exact .inr e4
    · rw [upd_ne hb] at q; exact S.fr b u q
  · obtain ⟨v, p1, p2⟩ := S.va j d' q
    exact ⟨v, p1, p2.mono (same_new e2)⟩
  · obtain ⟨b', p1, p2, p3, p4⟩ := S.ow j b d' q
    have ne : b' ≠ a := fun z => no ⟨j, by rw [q]; rfl, by rw [← z]; exact p1⟩
    exact ⟨b', p1, by rw [upd_ne ne]; exact p2, p3.at (same_new e2) rfl, p4⟩
end DL

section
set_option Elab.async false
set_option linter.all false
set_option maxRecDepth 100000
set_option autoImplicit false
/-! DL2: the judgements; names, constants, operators, tests. -/
namespace DL
open PySem PySem.Spec PyProof.Rows L2

def EPost (X : Cx) (W : WX) (Z : Fr0) (σ : L2.St) (G H : Hp) (r : Ev) (Q : VK) : EOut → Prop
  | .ok o r' => ∀ v G' H', RS X.K Z G' H' r' σ → EX σ G H r G' H' r' → RO X.K Z σ H G' H' r' o v → Q v H'
  | .err c r' => ∀ C G' H', RS X.K Z G' H' r' σ → EX σ G H r G' H' r' → X.mg c = some (.ref C) → W (.ref C) none σ H'
  | .bad => False
def TPost (X : Cx) (W : WX) (Z : Fr0) (σ : L2.St) (G H : Hp) (r : Ev) (Q : Bool → Hp → Prop) : TOut → Prop
  | .ok b r' => ∀ G' H', RS X.K Z G' H' r' σ → EX σ G H r G' H' r' → Q b H'
  | .err c r' => ∀ C G' H', RS X.K Z G' H' r' σ → EX σ G H r G' H' r' → X.mg c = some (.ref C) → W (.ref C) none σ H'
  | .bad => False
def APost (X : Cx) (W : WX) (Z : Fr0) (σ : L2.St) (G H : Hp) (r : Ev) (Q : List V → Hp → Prop) : AOut → Prop
  | .ok os r' => ∀ vs G' H', RS X.K Z G' H' r' σ → EX σ G H r G' H' r' → ROs X.K Z σ H G' H' r' os vs → Q vs H'
  | .err c r' => ∀ C G' H', RS X.K Z G' H' r' σ → EX σ G H r G' H' r' → X.mg c = some (.ref C) → W (.ref C) none σ H'
  | .bad => False
structure DE (X : Cx) (W : WX) (e : Expr) (f : E) : Prop where
  ex : ∃ t : L2.TE, PE X e t ∧ ∀ (Z : Fr0) (σ : L2.St) (G H : Hp) (r : Ev) (Q : VK), RS X.K Z G H r σ → EPost X W Z σ G H r Q (f r) → t σ H Q
structure DT (X : Cx) (W : WX) (e : Expr) (f : T) : Prop where
  ex : ∃ t : L2.TT, PT X e t ∧ ∀ (Z : Fr0) (σ : L2.St) (G H : Hp) (r : Ev) (Q : Bool → Hp → Prop), RS X.K Z G H r σ → TPost X W Z σ G H r Q (f r) → t σ H Q
structure DW (X : Cx) (W : WX) (e : Expr) (f : T) : Prop where
  ex : ∃ t : L2.TT, PW X e t ∧ ∀ (Z : Fr0) (σ : L2.St) (G H : Hp) (r : Ev) (Q : Bool → Hp → Prop), RS X.K Z G H r σ → TPost X W Z σ G H r Q (f r) → t σ H Q
structure DA (X : Cx) (W : WX) (es : List Expr) (f : A) : Prop where
  ex : ∃ t : L2.TA, PA X es t ∧ ∀ (Z : Fr0) (σ : L2.St) (G H : Hp) (r : Ev) (Q : List V → Hp → Prop), RS X.K Z G H r σ → APost X W Z σ G H r Q (f r) → t σ H Q
theorem DW.dt {X : Cx} {W : WX} {e : Expr} {f : T} (h : DW X W e f) : DT X W e f := ⟨let ⟨t, p, q⟩ := h.ex; ⟨t, p.pt, q⟩⟩
section
variable {X : Cx} {W : WX} {Z : Fr0} {σ : L2.St} {G H G1 H1 : Hp} {r r1 : Ev}
theorem EPost.pre (x : EX σ G H r G1 H1 r1) {Q : VK} : ∀ {o : EOut}, EPost X W Z σ G H r Q o → EPost X W Z σ G1 H1 r1 Q o
  | .ok _ _, h => fun v G' H' S e ro => h v G' H' S (x.trans e) (ro.base x.n)
  | .err _ _, h => fun C G' H' S e m => h C G' H' S (x.trans e) m
  | .bad, h => h
theorem TPost.pre (x : EX σ G H r G1 H1 r1) {Q : Bool → Hp → Prop} : ∀ {o : TOut}, TPost X W Z σ G H r Q o → TPost X W Z σ G1 H1 r1 Q o
  | .ok _ _, h => fun G' H' S e => h G' H' S (x.trans e)
  | .err _ _, h => fun C G' H' S e m => h C G' H' S (x.trans e) m
  | .bad, h => h
theorem ROs.base {K : FG} {B B' : Hp} (n : ∀ a, B a = none → B' a = none) : ∀ {os : List Op} {vs : List V}, ROs K Z σ B G H r os vs → ROs K Z σ B' G H r os vs
  | _, _, .nil => .nil
  | _, _, .cons a b => .cons (a.base n) (ROs.base n b)
theorem APost.pre (x : EX σ G H r G1 H1 r1) {Q : List V → Hp → Prop} : ∀ {o : AOut}, APost X W Z σ G H r Q o → APost X W Z σ G1 H1 r1 Q o
  | .ok _ _, h => fun v G' H' S e ro => h v G' H' S (x.trans e) (ROs.base x.n ro)
  | .err _ _, h => fun C G' H' S e m => h C G' H' S (x.trans e) m
  | .bad, h => h
theorem ROs.keep {K : FG} {B G' H' : Hp} {r' : Ev} (x : EX σ G H r G' H' r') : ∀ {os : List Op} {vs : List V}, ROs K Z σ B G H r os vs → ROs K Z σ B G' H' r' os vs
  | _, _, .nil => .nil
  | _, _, .cons a b => .cons (a.keep x) (ROs.keep x b)

/-! ### new objects -/
theorem RS.fresh {K : FG} (S : RS K Z G H r σ) {p : Addr} (hp : H p = none) : G p = none ∧ Z.H0 p = none ∧ ¬ ownAt r σ p := by
  refine ⟨S.sg.free hp, S.dm p hp, fun ⟨i, q, e⟩ => ?_⟩
  obtain ⟨b, d, q'⟩ := isOw_some q
  obtain ⟨a, e1, _, e3, _⟩ := S.ow i b d q'
  rw [e] at e1; cases e1
  obtain ⟨o, ho⟩ := e3.there
  rw [hp] at ho; cases ho
theorem RS.newH {K : FG} (S : RS K Z G H r σ) {p : Addr} {o : HO} (hp : H p = none) : RS K Z G (upd H p o) r σ ∧ EX σ G H r G (upd H p o) r := by
  have sn : Same H (upd H p o) := same_new hp
  have nn : ∀ a, upd H p o a = none → H a = none := fun a h => by
    by_cases e : a = p
    · subst e; rw [upd_same] at h; cases h
    · rw [upd_ne e] at h; exact h
  refine ⟨⟨S.len, S.sg.trans sn, S.g0, fun a u h n => sn a u (S.h0 a u h n), fun a h => S.dm a (nn a h), S.fr, S.va, fun i b d q => ?_, S.inj⟩, ⟨Same.refl _, fun a u h _ => sn a u h, nn, fun _ _ h => .inl h, fun _ h => h⟩⟩
  obtain ⟨a, e1, e2, e3, e4⟩ := S.ow i b d q
  obtain ⟨u, hu⟩ := e3.there
  exact ⟨a, e1, e2, e3.at (Same.refl _) (by rw [sn a u hu, hu]), e4⟩
/-- a new tuple stands still at once -/
theorem RS.newT {K : FG} (S : RS K Z G H r σ) {p : Addr} {vs : List V} {ds : List D} (hp : H p = none) (rd : RDs K G ds vs) :
    RS K Z (upd G p (.tup vs)) (upd H p (.tup vs)) r σ ∧ EX σ G H r (upd G p (.tup vs)) (upd H p (.tup vs)) r ∧ RD K (upd G p (.tup vs)) (.tup ds) (.ref p) := by
  obtain ⟨g0, h0, no⟩ := S.fresh hp
  obtain ⟨S1, X1⟩ := S.newH (o := .tup vs) hp
  have sg : Same G (upd G p (.tup vs)) := same_new g0
  have gg : ∀ a o, upd G p (.tup vs) a = some o → G a = some o ∨ a = p := fun a o h => by
    by_cases e : a = p
    · exact .inr e
    · rw [upd_ne e] at h; exact .inl h
  refine ⟨⟨S1.len, same_in S1.sg upd_same, S1.g0.trans sg, S1.h0, S1.dm, fun a o h => ?_, fun i d q => ?_, fun i b d q => ?_, S1.inj⟩, ⟨sg, X1.h, X1.n, fun a o h => ?_, X1.o⟩, .tup upd_same (rd.mono sg)⟩
  · rcases gg a o h with h | h
    · exact S1.fr a o h
    · subst h; exact .inr h0
  · obtain ⟨v, e1, e2⟩ := S1.va i d q
    exact ⟨v, e1, e2.mono sg⟩
  · obtain ⟨a, e1, e2, e3, e4⟩ := S1.ow i b d q
    have ne : a ≠ p := fun z => no ⟨i, by rw [q]; rfl, by rw [← z]; exact e1⟩
    exact ⟨a, e1, by rw [upd_ne ne]; exact e2, e3.at sg rfl, e4⟩
  · rcases gg a o h with h | h
    · exact .inl h
    · subst h; exact .inr (.inl hp)
end

/-! ### what an operator's rule gives over data -/
def ResOk (K : FG) (Z : Fr0) (σ : L2.St) (G H : Hp) (r : Ev) (Q : VK) (o : Op) : Prop :=
  ∀ v G' H', RS K Z G' H' r σ → EX σ G H r G' H' r → RO K Z σ H G' H' r o v → Q v H'
section
variable {K : FG} {Z : Fr0} {σ : L2.St} {G H : Hp} {r : Ev} {Q : VK}
theorem ResOk.val (S : RS K Z G H r σ) {d : D} {v : V} (h : ResOk K Z σ G H r Q (.fz d)) (rd : RD K G d v) : Q v H := h v G H S .refl rd
theorem ResOk.int (S : RS K Z G H r σ) {i : Int} (h : ResOk K Z σ G H r Q (.fz (.int i))) : Q (.int i) H := h.val S (.int i)
theorem ResOk.bl (S : RS K Z G H r σ) {i : Bool} (h : ResOk K Z σ G H r Q (.fz (.bl i))) : Q (.bl i) H := h.val S (.bl i)
theorem ResOk.str (S : RS K Z G H r σ) {i : Str} (h : ResOk K Z σ G H r Q (.fz (.str i))) : Q (.str i) H := h.val S (.str i)
theorem ResOk.tup (S : RS K Z G H r σ) {ds : List D} {vs : List V} (h : ResOk K Z σ G H r Q (.fz (.tup ds))) (rd : RDs K G ds vs) {p : Addr} (hp : H p = none) : Q (.ref p) (upd H p (.tup vs)) := by
  obtain ⟨S1, X1, R1⟩ := S.newT hp rd
  exact h _ _ _ S1 X1 R1
theorem ResOk.new (S : RS K Z G H r σ) {d : D} {o : HO} (h : ResOk K Z σ G H r Q (.tm d)) {p : Addr} (hp : H p = none) (rm : RM K G (upd H p o) p d) : Q (.ref p) (upd H p o) := by
  obtain ⟨S1, X1⟩ := S.newH (o := o) hp
  obtain ⟨g0, h0, no⟩ := S.fresh hp
  exact h _ _ _ S1 X1 ⟨p, rfl, g0, ⟨h0, hp⟩, no, rm⟩
theorem ResOk.lst (S : RS K Z G H r σ) {ds : List D} {vs : List V} (h : ResOk K Z σ G H r Q (.tm (.lst ds))) (rd : RDs K G ds vs) {p : Addr} (hp : H p = none) : Q (.ref p) (upd H p (.lst vs)) :=
  h.new S hp ⟨vs, upd_same, rd⟩
end
def OpD (X : Cx) (f : Value → Value → Sem Value) (g : D → D → Option Op) : Prop :=
  ∃ rr : R2, OpR X f rr ∧ ∀ (Z : Fr0) (σ : L2.St) (G H : Hp) (r : Ev) (x y : V) (dx dy : D) (o : Op) (Q : VK), RS X.K Z G H r σ → RH X.K G H dx x → RH X.K G H dy y → g dx dy = some o → ResOk X.K Z σ G H r Q o → rr x y H Q
/-- two rules: the one where it says something, else the other -/
theorem OpD.or {X : Cx} {f : Value → Value → Sem Value} {g g' : D → D → Option Op} (a : OpD X f g) (b : OpD X f g') : OpD X f (fun x y => (g x y).or (g' x y)) := by
  obtain ⟨r1, p1, q1⟩ := a
  obtain ⟨r2, p2, q2⟩ := b
  refine ⟨_, p1.or p2, fun Z σ G H r x y dx dy o Q S hx hy e h => ?_⟩
  cases e1 : g dx dy with
  | some o' =>
    have e : (g dx dy).or (g' dx dy) = some o := e
    rw [e1] at e
    have e' : o' = o := by simpa using e
    subst e'
    exact .inl (q1 Z σ G H r x y dx dy _ Q S hx hy e1 h)
  | none =>
    have e : (g dx dy).or (g' dx dy) = some o := e
    rw [e1] at e
    exact .inr (q2 Z σ G H r x y dx dy o Q S hx hy (by simpa using e) h)

/-! ### expressions -/
section
variable {X : Cx} {W : WX} {a b c : Expr} {fa fb fc : E} {pos : Pos}
theorem de_name {i : Nat} {x : Str} (h : PE X (.Name x pos) (tVar i)) : DE X W (.Name x pos) (eName i) := by
  refine ⟨_, h, fun Z σ G H r Q S p => ?_⟩
  unfold eName at p
  cases q : r[i]? with
  | none => simp only [q] at p; exact p.elim
  | some s =>
    cases s with
    | no => simp only [q] at p; exact p.elim
    | va d =>
      simp only [q] at p
      obtain ⟨v, e1, e2⟩ := S.va i d q
      exact ⟨v, e1, p v G H S .refl e2⟩
    | ow b d =>
      simp only [q] at p
      obtain ⟨a, e1, _⟩ := S.ow i b d q
      exact ⟨_, e1, p _ G H S .refl e1⟩
theorem de_c {e : Expr} {v : V} {d : D} (h : PE X e (tC v)) (rd : ∀ G, RD X.K G d v) : DE X W e (eC d) :=
  ⟨_, h, fun Z σ G H r Q S p => p v G H S .refl (rd G)⟩
theorem de_int {i : Int} {j} : DE X W (.Constant (.int i) j pos) (eC (.int i)) := de_c pe_int fun _ => .int i
theorem de_bl {i : Bool} {j} : DE X W (.Constant (.bool i) j pos) (eC (.bl i)) := de_c pe_bl fun _ => .bl i
theorem de_non {j} : DE X W (.Constant .none j pos) (eC .non) := de_c pe_non fun _ => .non
theorem de_str {x : Str} {j} : DE X W (.Constant (.str x) j pos) (eC (.str x)) := de_c pe_str fun _ => .str x

/-- the second operand behind the first -/
theorem two {ta tb : L2.TE} {R : V → V → Hp → Prop} {Z : Fr0} {σ : L2.St} {G H : Hp} {r : Ev}
    (ha : ∀ (Z : Fr0) (σ : L2.St) (G H : Hp) (r : Ev) (Q : VK), RS X.K Z G H r σ → EPost X W Z σ G H r Q (fa r) → ta σ H Q)
    (hb : ∀ (Z : Fr0) (σ : L2.St) (G H : Hp) (r : Ev) (Q : VK), RS X.K Z G H r σ → EPost X W Z σ G H r Q (fb r) → tb σ H Q) (S : RS X.K Z G H r σ)
    (h : match fa r with
      | .ok o r1 => match fb r1 with
        | .ok p r2 => ∀ x y G' H', RS X.K Z G' H' r2 σ → EX σ G H r G' H' r2 → RO X.K Z σ H G' H' r2 o x → RO X.K Z σ H G' H' r2 p y → R x y H'
        | .err c r2 => EPost X W Z σ G H r (fun _ _ => True) (.err c r2)
        | .bad => False
      | .err c r1 => EPost X W Z σ G H r (fun _ _ => True) (.err c r1)
      | .bad => False) : ta σ H fun x H1 => tb σ H1 fun y H2 => R x y H2 := by
  refine ha Z σ G H r _ S ?_
  cases q : fa r with
  | ok o r1 =>
    simp only [q] at h
    refine fun x G1 H1 S1 X1 R1 => hb Z σ G1 H1 r1 _ S1 ?_
    cases q2 : fb r1 with
    | ok p r2 =>
      simp only [q2] at h
      exact fun y G2 H2 S2 X2 R2 => h x y G2 H2 S2 (X1.trans X2) (R1.keep X2) (R2.base X1.n)
    | err c r2 =>
      simp only [q2] at h
      exact EPost.pre (Q := fun _ _ => True) X1 h
    | bad => simp only [q2] at h
  | err c r1 =>
    simp only [q] at h
    exact h
  | bad => simp only [q] at h
theorem two_op {f : Value → Value → Sem Value} {g : D → D → Option Op} {rr : R2} {ta tb : L2.TE} {Z : Fr0} {σ : L2.St} {G H : Hp} {r : Ev} {Q : VK}
    (ha : ∀ (Z : Fr0) (σ : L2.St) (G H : Hp) (r : Ev) (Q : VK), RS X.K Z G H r σ → EPost X W Z σ G H r Q (fa r) → ta σ H Q)
    (hb : ∀ (Z : Fr0) (σ : L2.St) (G H : Hp) (r : Ev) (Q : VK), RS X.K Z G H r σ → EPost X W Z σ G H r Q (fb r) → tb σ H Q)
    (ho : ∀ (Z : Fr0) (σ : L2.St) (G H : Hp) (r : Ev) (x y : V) (dx dy : D) (o : Op) (Q : VK), RS X.K Z G H r σ → RH X.K G H dx x → RH X.K G H dy y → g dx dy = some o → ResOk X.K Z σ G H r Q o → rr x y H Q)
    (S : RS X.K Z G H r σ) (p : EPost X W Z σ G H r Q (eBin g fa fb r)) : tOp rr ta tb σ H Q := by
  refine two ha hb S ?_
  unfold eBin at p
  cases q : fa r with
  | ok o r1 =>
    simp only [q] at p ⊢
    cases q2 : fb r1 with
    | ok o2 r2 =>
      simp only [q2] at p ⊢
      intro x y G' H' S' X' Ra Rb
      cases e1 : rsv r2 o with
      | none => simp only [e1] at p; exact p.elim
      | some dx =>
        cases e2 : rsv r2 o2 with
        | none => simp only [e1, e2] at p; exact p.elim
        | some dy =>
          cases e3 : g dx dy with
          | none => simp only [e1, e2, e3] at p; exact p.elim
          | some z =>
            simp only [e1, e2, e3] at p
            exact ho Z σ G' H' r2 x y dx dy z Q S' (Ra.rsv S' e1) (Rb.rsv S' e2) e3 fun v G2 H2 S2 X2 R2 => p v G2 H2 S2 (X'.trans X2) (R2.base X'.n)
    | err c r2 => simp only [q2] at p ⊢; exact p
    | bad => simp only [q2] at p; exact p.elim
  | err c r1 => simp only [q] at p ⊢; exact p
  | bad => simp only [q] at p; exact p.elim
theorem de_bin {op : Operator} {g : D → D → Option Op} (ho : OpD X (binaryOp op) g) (ha : DE X W a fa) (hb : DE X W b fb) : DE X W (.BinOp a op b pos) (eBin g fa fb) := by
  obtain ⟨ta, pa, qa⟩ := ha.ex
  obtain ⟨tb, pb, qb⟩ := hb.ex
  obtain ⟨rr, po, qo⟩ := ho
  exact ⟨_, pe_op po pa pb, fun Z σ G H r Q S p => two_op (f := binaryOp op) qa qb qo S p⟩
theorem de_cmp {op : CmpOp} {g : D → D → Option Op} (ho : OpD X (compareOp op) g) (ha : DE X W a fa) (hb : DE X W b fb) (hm : behindInMarks op b = false) : DE X W (.Compare a [op] [b] pos) (eBin g fa fb) := by
  obtain ⟨ta, pa, qa⟩ := ha.ex
  obtain ⟨tb, pb, qb⟩ := hb.ex
  obtain ⟨rr, po, qo⟩ := ho
  exact ⟨_, pe_cmpR po pa pb hm, fun Z σ G H r Q S p => two_op (f := compareOp op) qa qb qo S p⟩
/-- a test that is an expression's truth -/
def TruD (X : Cx) : Prop := ∃ rr, TruR X rr ∧ ∀ (Z : Fr0) (σ : L2.St) (G H : Hp) (r : Ev) (x : V) (d : D) (b : Bool) (Q : Bool → Hp → Prop), RS X.K Z G H r σ → RH X.K G H d x → dtr d = some b → Q b H → rr x H Q
theorem tBl_post {te : L2.TE} {Z : Fr0} {σ : L2.St} {G H : Hp} {r : Ev} {Q : Bool → Hp → Prop}
    (ha : ∀ (Z : Fr0) (σ : L2.St) (G H : Hp) (r : Ev) (Q : VK), RS X.K Z G H r σ → EPost X W Z σ G H r Q (fa r) → te σ H Q) (S : RS X.K Z G H r σ) (p : TPost X W Z σ G H r Q (tBl fa r)) :
    tTest te σ H Q := by
  refine ha Z σ G H r _ S ?_
  unfold tBl at p
  cases q : fa r with
  | ok o r1 =>
    simp only [q] at p
    cases o with
    | fz d =>
      cases d with
      | bl k => exact fun v G1 H1 S1 X1 R1 => by cases R1; exact ⟨k, rfl, p G1 H1 S1 X1⟩
      | _ => exact p.elim
    | _ => exact p.elim
  | err c r1 => simp only [q] at p; exact p
  | bad => simp only [q] at p; exact p.elim
theorem dt_cmp {op : CmpOp} {g : D → D → Option Op} (ho : OpD X (compareOp op) g) (ha : DE X W a fa) (hb : DE X W b fb) (hm : behindInMarks op b = false) : DT X W (.Compare a [op] [b] pos) (tBl (eBin g fa fb)) := by
  obtain ⟨ta, pa, qa⟩ := ha.ex
  obtain ⟨tb, pb, qb⟩ := hb.ex
  obtain ⟨rr, po, qo⟩ := ho
  exact ⟨_, pt_cmpR po pa pb hm, fun Z σ G H r Q S p => tBl_post (fa := eBin g fa fb) (fun Z σ G H r Q S p => two_op (f := compareOp op) qa qb qo S p) S p⟩
theorem truV_of {K : FG} {G H : Hp} (sg : Same G H) {d : D} {v : V} {k : Bool} (rh : RH K G H d v) (e3 : dtr d = some k) : TruV K v H k := by
  unfold dtr at e3
  cases d with
  | non => cases rh; cases e3; rfl
  | bl b => cases rh; cases e3; rfl
  | int i => cases rh; cases e3; rfl
  | str x =>
    cases rh
    dsimp only at e3
    split at e3
    · cases e3; rename_i hz; exact ⟨hz, rfl⟩
    · cases e3
  | lst ds =>
    obtain ⟨a, vs, rfl, h1, h2⟩ := rh
    cases e3
    exact .inl ⟨vs, .of h1, by cases h2 <;> rfl⟩
  | tup ds =>
    cases rh with
    | tup h1 h2 =>
      cases e3
      exact .inr (.inl ⟨_, .inl (.inl (sg _ _ h1)), by cases h2 <;> rfl⟩)
  | ktp ds =>
    cases rh with
    | ktp h1 h2 =>
      cases e3
      exact .inr (.inl ⟨_, Same.seqT sg h1, by cases h2 <;> rfl⟩)
  | kls ds =>
    cases rh with
    | kls h1 h2 =>
      cases e3
      exact .inl ⟨_, sg.seq h1, by cases h2 <;> rfl⟩
  | dct _ => cases e3
  | dtt _ => cases e3
theorem dt_tru {e : Expr} {f : E} (h : DE X W e f) (he : ∀ whole, isTrue e X.env whole = (do let v ← whole; standAt e.pos; holding [v] (truthy v)) := by intro _; rfl) : DT X W e (tTru f) := by
  obtain ⟨t, p, q⟩ := h.ex
  refine ⟨_, pt_truth p he, fun Z σ G H r Q S hp => q Z σ G H r _ S ?_⟩
  unfold tTru at hp
  cases e1 : f r with
  | ok o r1 =>
    simp only [e1] at hp
    intro v G1 H1 S1 X1 R1
    cases e2 : rsv r1 o with
    | none => simp only [e2] at hp; exact hp.elim
    | some d =>
      cases e3 : dtr d with
      | none => simp only [e2, e3] at hp; exact hp.elim
      | some k =>
        simp only [e2, e3] at hp
        exact ⟨k, truV_of S1.sg (R1.rsv S1 e2) e3, hp G1 H1 S1 X1⟩
  | err c r1 => simp only [e1] at hp; exact hp
  | bad => simp only [e1] at hp; exact hp.elim
end
end DL
end

section
set_option Elab.async false
set_option linter.all false
set_option maxRecDepth 100000
set_option autoImplicit false
/-! DL3: operators over data. -/
namespace DL
open PySem PySem.Spec PyProof.Rows L2
section
variable {X : Cx} {Z : Fr0} {σ : L2.St} {G H : Hp} {r : Ev}
theorem SZ_eq : SZ = sizeLine := rfl
theorem opd_add : OpD X (binaryOp .Add) gAdd := by
  refine ⟨_, (op_add (X := X)).or ((op_add_str (X := X)).or ((op_cat (X := X)).or op_catA)), ?_⟩
  intro Z σ G H r x y dx dy o Q S hx hy e h
  unfold gAdd at e
  cases dx <;> cases dy <;> first | (cases e; done) | skip
  · cases hx; cases hy; cases e
    exact .inl ⟨_, _, rfl, rfl, h.int S⟩
  · cases hx; cases hy
    dsimp only at e; split at e <;> cases e
    rename_i hz
    exact .inr (.inl ⟨_, _, rfl, rfl, hz, h.str S⟩)
  · cases hx with | tup a1 a2 => cases hy with | tup b1 b2 =>
    dsimp only at e; split at e <;> cases e
    rename_i hz
    rw [a2.length, b2.length] at hz
    refine .inr (.inr (.inr ⟨_, _, _, _, rfl, rfl, .inl (.inl (S.sg _ _ a1)), .inl (.inl (S.sg _ _ b1)), hz, fun z => ?_, fun _ z => ?_, fun _ _ p hp => h.tup S (a2.append b2) hp⟩))
    · subst z
      cases a2
      exact h.val S (.tup b1 b2)
    · subst z
      cases b2
      exact h.val S (.tup a1 (by simpa using a2))
  · obtain ⟨a, vs, rfl, a1, a2⟩ := hx
    obtain ⟨b, ws, rfl, b1, b2⟩ := hy
    dsimp only at e; split at e <;> cases e
    rename_i hz
    rw [a2.length, b2.length] at hz
    exact .inr (.inr (.inl ⟨_, _, _, _, rfl, rfl, a1, b1, hz, fun p hp => h.lst S (a2.append b2) hp⟩))
theorem opd_sub : OpD X (binaryOp .Sub) gSub := by
  refine ⟨_, op_sub, ?_⟩
  intro Z σ G H r x y dx dy o Q S hx hy e h
  unfold gSub at e
  cases dx <;> cases dy <;> first | (cases e; done) | skip
  cases hx; cases hy; cases e
  exact ⟨_, _, rfl, rfl, h.int S⟩
theorem RDs.flat {K : FG} {G : Hp} {ds : List D} {vs : List V} (h : RDs K G ds vs) : ∀ k : Nat, RDs K G (List.replicate k ds).flatten (List.replicate k vs).flatten
  | 0 => .nil
  | k + 1 => by simp only [List.replicate_succ, List.flatten_cons]; exact h.append (h.flat k)
theorem op_mulI : OpR X (binaryOp .Mult) (rI mulOk fun i j => .int (i * j)) := opI fun i j _ _ _ _ _ hc q => by
  rcases hc with k | k | k
  · exact mul_int q (.of_left (intBits_le_64 (by omega) (by omega)))
  · exact mul_int q (.of_right (intBits_le_64 (by omega) (by omega)))
  · exact mul_int q (CMulW.ok k)
theorem opd_mul : OpD X (binaryOp .Mult) gMul := by
  refine ⟨_, (op_mulI (X := X)).or ((op_rep (X := X)).or op_repT), ?_⟩
  intro Z σ G H r x y dx dy o Q S hx hy e h
  unfold gMul at e
  cases dx <;> cases dy <;> first | (cases e; done) | skip
  · cases hx; cases hy
    dsimp only at e; split at e <;> cases e
    rename_i hz
    exact .inl ⟨_, _, rfl, rfl, hz, h.int S⟩
  · cases hy; cases hx with | tup a1 a2 =>
    dsimp only at e; split at e <;> cases e
    rename_i hz
    refine .inr (.inr ⟨_, _, _, rfl, rfl, .inl (.inl (S.sg _ _ a1)), fun z => ?_, hz.1.2, hz.2.1, by rw [← a2.length]; exact hz.2.2, fun p hp => h.tup S (a2.flat _) hp⟩)
    subst z
    cases a2
    exact hz.1.1 rfl
  · obtain ⟨a, vs, rfl, a1, a2⟩ := hx
    cases hy
    dsimp only at e; split at e <;> cases e
    rename_i hz
    rw [a2.length] at hz
    exact .inr (.inl ⟨_, _, _, rfl, rfl, a1, hz.1.1, hz.1.2, hz.2, fun p hp => h.lst S (a2.flat _) hp⟩)
theorem op_fdivI : OpR X (binaryOp .FloorDiv) (rI (fun _ j => j ≠ 0 ∧ j.natAbs.log2 < 9000) fun i j => .int (i.fdiv j)) := opI fun _ _ _ _ _ _ _ hc q => floordiv_int hc.1 q (.inl (PyProof.noPylong_of_log2 hc.2))
theorem opd_fdiv : OpD X (binaryOp .FloorDiv) gFdiv := by
  refine ⟨_, op_fdivI, ?_⟩
  intro Z σ G H r x y dx dy o Q S hx hy e h
  unfold gFdiv at e
  cases dx <;> cases dy <;> first | (cases e; done) | skip
  cases hx; cases hy
  dsimp only at e; split at e <;> cases e
  rename_i hz
  exact ⟨_, _, rfl, rfl, hz, h.int S⟩
theorem opd_mod : OpD X (binaryOp .Mod) gMod := by
  refine ⟨_, op_modN, ?_⟩
  intro Z σ G H r x y dx dy o Q S hx hy e h
  unfold gMod at e
  cases dx <;> cases dy <;> first | (cases e; done) | skip
  cases hx; cases hy
  dsimp only at e; split at e <;> cases e
  rename_i hz
  exact ⟨_, _, rfl, rfl, hz, h.int S⟩
theorem opd_pow : OpD X (binaryOp .Pow) gPow := by
  refine ⟨_, op_pow, ?_⟩
  intro Z σ G H r x y dx dy o Q S hx hy e h
  unfold gPow at e
  cases dx <;> cases dy <;> first | (cases e; done) | skip
  cases hx; cases hy
  dsimp only at e; split at e <;> cases e
  rename_i hz
  exact ⟨_, _, rfl, rfl, ⟨hz.1.1, hz.1.2, hz.2⟩, h.int S⟩
theorem opd_shl : OpD X (binaryOp .LShift) gShl := by
  refine ⟨_, op_shlW, ?_⟩
  intro Z σ G H r x y dx dy o Q S hx hy e h
  unfold gShl at e
  cases dx <;> cases dy <;> first | (cases e; done) | skip
  cases hx; cases hy
  dsimp only at e; split at e <;> cases e
  rename_i i j hz
  refine ⟨_, _, rfl, rfl, ⟨hz.1, ?_⟩, h.int S⟩
  have hb : Builtin.Int.intBits i ≤ i.natAbs.log2 + 1 := by unfold Builtin.Int.intBits; split <;> omega
  have := hz.2
  omega
theorem opd_shr : OpD X (binaryOp .RShift) gShr := by
  refine ⟨_, op_shr, ?_⟩
  intro Z σ G H r x y dx dy o Q S hx hy e h
  unfold gShr at e
  cases dx <;> cases dy <;> first | (cases e; done) | skip
  cases hx; cases hy
  dsimp only at e; split at e <;> cases e
  rename_i hz
  exact ⟨_, _, rfl, rfl, hz, h.int S⟩
/-! ### order -/
theorem intsV {K : FG} {G : Hp} : ∀ {ns : List Int} {vs : List V}, RDs K G (ns.map D.int) vs → vs = ns.map V.int
  | [], _, .nil => rfl
  | _ :: _, _, .cons a b => by cases a; rw [intsV b]; rfl
theorem lexLt_eq : ∀ ns ms : List Int, lexLtI ns ms = HT.lexLt ns ms
  | [], [] => rfl
  | [], _ :: _ => rfl
  | _ :: _, [] => rfl
  | x :: xs, y :: ys => by rw [HT.lexLt_cons, ← lexLt_eq xs ys]; rfl
theorem opd_lt (hu : X.A.units < cLine) : OpD X (compareOp .Lt) gLt := by
  refine ⟨_, (op_lt (X := X)).or ((op_lt_str (X := X)).or (op_ltT hu)), ?_⟩
  intro Z σ G H r x y dx dy o Q S hx hy e h
  unfold gLt at e
  cases dx <;> cases dy <;> first | (cases e; done) | skip
  · cases hx; cases hy; cases e
    exact .inl ⟨_, _, rfl, rfl, h.bl S⟩
  · cases hx; cases hy; cases e
    exact .inr (.inl ⟨_, _, rfl, rfl, h.bl S⟩)
  · rename_i xs ys
    cases hx with | tup a1 a2 => cases hy with | tup b1 b2 =>
    cases e1 : intsD xs with
    | none => simp [e1] at e
    | some ns =>
      cases e2 : intsD ys with
      | none => simp [e1, e2] at e
      | some ms =>
        simp only [e1, e2] at e
        cases e
        have q1 := intsD_eq e1
        have q2 := intsD_eq e2
        subst q1 q2
        have w1 := intsV a2
        have w2 := intsV b2
        subst w1 w2
        refine .inr (.inr ⟨_, _, ns, ms, rfl, rfl, .inl (.inl (S.sg _ _ a1)), .inl (.inl (S.sg _ _ b1)), ?_⟩)
        rw [← lexLt_eq]
        exact h.bl S
theorem opd_le : OpD X (compareOp .LtE) gLe := by
  refine ⟨_, op_le, ?_⟩
  intro Z σ G H r x y dx dy o Q S hx hy e h
  unfold gLe at e
  cases dx <;> cases dy <;> first | (cases e; done) | skip
  cases hx; cases hy; cases e
  exact ⟨_, _, rfl, rfl, h.bl S⟩
theorem opd_gt : OpD X (compareOp .Gt) gGt := by
  refine ⟨_, op_gt, ?_⟩
  intro Z σ G H r x y dx dy o Q S hx hy e h
  unfold gGt at e
  cases dx <;> cases dy <;> first | (cases e; done) | skip
  cases hx; cases hy; cases e
  exact ⟨_, _, rfl, rfl, h.bl S⟩
theorem opd_ge : OpD X (compareOp .GtE) gGe := by
  refine ⟨_, op_ge, ?_⟩
  intro Z σ G H r x y dx dy o Q S hx hy e h
  unfold gGe at e
  cases dx <;> cases dy <;> first | (cases e; done) | skip
  cases hx; cases hy; cases e
  exact ⟨_, _, rfl, rfl, h.bl S⟩
/-! ### ==, in, is -/
mutual
def toP : D → PyData
  | .non => .none
  | .bl b => .bool b
  | .int i => .int i
  | .str x => .str x
  | .tup xs => .tuple (toPs xs)
  | .ktp xs => .tuple (toPs xs)
  | .lst xs => .list (toPs xs)
  | .kls xs => .list (toPs xs)
  | .dct _ => .none
  | .dtt _ => .none
def toPs : List D → List PyData
  | [] => []
  | x :: xs => toP x :: toPs xs
end
mutual
theorem okD_lay : ∀ {n : Nat} {d : D}, okD n d = true → (toP d).canLay0 = true ∧ (toP d).depth ≤ n
  | _, .non, _ => ⟨rfl, Nat.zero_le _⟩
  | _, .bl _, _ => ⟨rfl, Nat.zero_le _⟩
  | _, .int _, _ => ⟨rfl, Nat.zero_le _⟩
  | n, .str x, h => ⟨by cases n <;> exact h, Nat.zero_le _⟩
  | 0, .tup _, h => by cases h
  | 0, .ktp _, h => by cases h
  | 0, .lst _, h => by cases h
  | 0, .kls _, h => by cases h
  | 0, .dct _, h => by cases h
  | 0, .dtt _, h => by cases h
  | n + 1, .tup xs, h => let ⟨a, b⟩ := okDs_lay (n := n) (ds := xs) h; ⟨a, Nat.succ_le_succ b⟩
  | n + 1, .ktp xs, h => let ⟨a, b⟩ := okDs_lay (n := n) (ds := xs) h; ⟨a, Nat.succ_le_succ b⟩
  | n + 1, .lst xs, h => let ⟨a, b⟩ := okDs_lay (n := n) (ds := xs) h; ⟨a, Nat.succ_le_succ b⟩
  | n + 1, .kls xs, h => let ⟨a, b⟩ := okDs_lay (n := n) (ds := xs) h; ⟨a, Nat.succ_le_succ b⟩
  | n + 1, .dct _, h => by cases h
  | n + 1, .dtt _, h => by cases h
theorem okDs_lay : ∀ {n : Nat} {ds : List D}, okDs n ds = true → PyData.canLayAll0 (toPs ds) = true ∧ PyData.depthAll (toPs ds) ≤ n
  | _, [], _ => ⟨rfl, Nat.zero_le _⟩
  | n, x :: xs, h => by
    unfold okDs at h
    rw [Bool.and_eq_true] at h
    obtain ⟨a, b⟩ := okD_lay h.1
    obtain ⟨c, d⟩ := okDs_lay (ds := xs) h.2
    refine ⟨?_, Nat.max_le.mpr ⟨b, d⟩⟩
    show (PyData.canLay0 _ && PyData.canLayAll0 _) = true
    rw [a, c]; rfl
end
theorem okD_shaped {d : D} (h : okD 64 d = true) : SeqAt.shaped (toP d) = true := by
  obtain ⟨a, b⟩ := okD_lay h
  unfold SeqAt.shaped
  rw [a, decide_eq_true b]; rfl
mutual
theorem eqD_eqv : ∀ {n m : Nat} (d e : D), okD n d = true → okD m e = true → PyData.eqv (toP d) (toP e) = eqD d e
  | n, m, d, e, hd, he => by
    cases d <;> cases e <;> first
      | rfl
      | (exfalso; cases n <;> cases hd; done)
      | (exfalso; cases m <;> cases he; done)
      | (cases n <;> first | (cases hd; done) | (cases m <;> first | (cases he; done) | exact eqDs_eqv _ _ hd he))
theorem eqDs_eqv : ∀ {n m : Nat} (ds es : List D), okDs n ds = true → okDs m es = true → PyData.eqvAll (toPs ds) (toPs es) = eqDs ds es
  | _, _, [], [], _, _ => rfl
  | _, _, [], _ :: _, _, _ => rfl
  | _, _, _ :: _, [], _, _ => rfl
  | n, m, x :: xs, y :: ys, h, k => by
    unfold okDs at h k
    rw [Bool.and_eq_true] at h k
    show (PyData.eqv (toP x) (toP y) && PyData.eqvAll (toPs xs) (toPs ys)) = (eqD x y && eqDs xs ys)
    rw [eqD_eqv x y h.1 k.1, eqDs_eqv xs ys h.2 k.2]
end
mutual
theorem RD.dp {K : FG} {G H : Hp} (sg : Same G H) : ∀ {n : Nat} {d : D} {v : V}, RD K G d v → okD n d = true → Dp K H v (toP d)
  | _, _, _, .non, _ => .non
  | _, _, _, .bl b, _ => .bl b
  | _, _, _, .int i, _ => .int i
  | _, _, _, .str x, _ => .str x
  | 0, _, _, .tup _ _, k => by cases k
  | 0, _, _, .ktp _ _, k => by cases k
  | 0, _, _, .lst _ _, k => by cases k
  | 0, _, _, .kls _ _, k => by cases k
  | 0, _, _, .dct _ _ _, k => by cases k
  | 0, _, _, .dtt _ _ _, k => by cases k
  | n + 1, _, _, .tup h r, k => .tup (.inl (.inl (sg _ _ h))) (RDs.dp sg (n := n) r k)
  | n + 1, _, _, .ktp h r, k => .tup (Same.seqT sg h) (RDs.dp sg (n := n) r k)
  | n + 1, _, _, .lst h r, k => .lst (.of (sg _ _ h)) (RDs.dp sg (n := n) r k)
  | n + 1, _, _, .kls h r, k => .lst (sg.seq h) (RDs.dp sg (n := n) r k)
  | n + 1, _, _, .dct _ _ _, k => by cases k
  | n + 1, _, _, .dtt _ _ _, k => by cases k
theorem RDs.dp {K : FG} {G H : Hp} (sg : Same G H) : ∀ {n : Nat} {ds : List D} {vs : List V}, RDs K G ds vs → okDs n ds = true → DpAll K H vs (toPs ds)
  | _, _, _, .nil, _ => .nil
  | n, _, _, .cons a b, k => by
    unfold okDs at k
    rw [Bool.and_eq_true] at k
    exact .cons (RD.dp sg a k.1) (RDs.dp sg b k.2)
end
theorem RH.dp {K : FG} {G H : Hp} (sg : Same G H) {n : Nat} {d : D} {v : V} (h : RH K G H d v) (k : okD n d = true) : Dp K H v (toP d) := by
  cases d with
  | lst ds =>
    obtain ⟨a, vs, rfl, a1, a2⟩ := h
    cases n with
    | zero => cases k
    | succ n => exact .lst (.of a1) (a2.dp sg (n := n) k)
  | dct _ => cases n <;> cases k
  | dtt _ => cases n <;> cases k
  | _ => exact RD.dp sg h k
theorem beq_dec {α : Type} [DecidableEq α] [BEq α] [LawfulBEq α] (a b : α) : decide (a = b) = (a == b) := by
  by_cases e : a = b
  · rw [decide_eq_true e]; exact (beq_iff_eq.mpr e).symm
  · rw [decide_eq_false e]; exact (beq_eq_false_iff_ne.mpr e).symm
theorem opd_eq (hu : X.A.units + 64 < cLine) : OpD X (compareOp .Eq) gEq := by
  refine ⟨_, (op_eq (X := X)).or (op_eqD hu), ?_⟩
  intro Z σ G H r x y dx dy o Q S hx hy e h
  unfold gEq at e
  split at e <;> cases e
  rename_i hz
  have deep : (okD 64 dx && okD 64 dy) = true → ∃ d e, Dp X.K H x d ∧ Dp X.K H y e ∧ SeqAt.shaped d = true ∧ SeqAt.shaped e = true ∧ Q (.bl (PyData.eqv d e)) H := fun k => by
    rw [Bool.and_eq_true] at k
    refine ⟨_, _, hx.dp S.sg k.1, hy.dp S.sg k.2, okD_shaped k.1, okD_shaped k.2, ?_⟩
    rw [eqD_eqv dx dy k.1 k.2]
    exact h.bl S
  cases dx <;> cases dy <;> first
    | exact .inr (deep hz)
    | (cases hx; cases hy; refine .inl ⟨rfl, ?_⟩; have q := h.bl S; first | exact q | (rw [show decide (V.str _ = V.str _) = _ from dec_str]; exact q))
theorem opd_ne (hu : X.A.units + 64 < cLine) : OpD X (compareOp .NotEq) gNe := by
  refine ⟨_, (op_ne (X := X)).or (op_neD hu), ?_⟩
  intro Z σ G H r x y dx dy o Q S hx hy e h
  unfold gNe at e
  split at e <;> cases e
  rename_i hz
  have deep : (okD 64 dx && okD 64 dy) = true → ∃ d e, Dp X.K H x d ∧ Dp X.K H y e ∧ SeqAt.shaped d = true ∧ SeqAt.shaped e = true ∧ Q (.bl (!PyData.eqv d e)) H := fun k => by
    rw [Bool.and_eq_true] at k
    refine ⟨_, _, hx.dp S.sg k.1, hy.dp S.sg k.2, okD_shaped k.1, okD_shaped k.2, ?_⟩
    rw [eqD_eqv dx dy k.1 k.2]
    exact h.bl S
  cases dx <;> cases dy <;> first
    | exact .inr (deep hz)
    | (cases hx; cases hy; refine .inl ⟨rfl, ?_⟩; have q := h.bl S; first | exact q | (rw [show decide (V.str _ = V.str _) = _ from dec_str]; exact q))
end
end DL

section
set_option Elab.async false
set_option linter.all false
set_option maxRecDepth 100000
set_option autoImplicit false
/-! DL4: expressions over data. -/
namespace DL
open PySem PySem.Spec PyProof.Rows L2
section
variable {X : Cx} {W : WX} {a b c e : Expr} {es : List Expr} {fa fb fc : E} {pos : Pos}
/-! ### a judgement is what its run says -/
theorem DE.run (h : DE X W e fa) {pins : List (Addr × Obj)} {s : Shared} {Z : Fr0} {σ : L2.St} {G H : Hp} {r : Ev} {Q : VK} (I : Inv X pins σ H s) (S : RS X.K Z G H r σ) (p : EPost X W Z σ G H r Q (fa r)) :
    wpAny (model X.prog X.w) X.A (eval e X.env) (EP X pins σ Q) X.xe s := by
  obtain ⟨t, p1, p2⟩ := h.ex
  exact p1.run pins s σ H Q I (p2 Z σ G H r Q S p)
theorem DE.of (h : ∀ (pins : List (Addr × Obj)) (s : Shared) (Z : Fr0) (σ : L2.St) (G H : Hp) (r : Ev) (Q : VK), Inv X pins σ H s → RS X.K Z G H r σ → EPost X W Z σ G H r Q (fa r) → wpAny (model X.prog X.w) X.A (eval e X.env) (EP X pins σ Q) X.xe s) : DE X W e fa :=
  ⟨fun σ H Q => ∃ Z G r, RS X.K Z G H r σ ∧ EPost X W Z σ G H r Q (fa r), ⟨fun pins s σ H Q I ⟨Z, G, r, S, p⟩ => h pins s Z σ G H r Q I S p⟩, fun Z σ G H r Q S p => ⟨Z, G, r, S, p⟩⟩
theorem DT.run {f : T} (h : DT X W e f) {pins : List (Addr × Obj)} {s : Shared} {Z : Fr0} {σ : L2.St} {G H : Hp} {r : Ev} {Q : Bool → Hp → Prop} (I : Inv X pins σ H s) (S : RS X.K Z G H r σ) (p : TPost X W Z σ G H r Q (f r)) :
    wpAny (model X.prog X.w) X.A (isTrue e X.env (eval e X.env)) (TP X pins σ Q) X.xe s := by
  obtain ⟨t, p1, p2⟩ := h.ex
  exact p1.run pins s σ H Q I (p2 Z σ G H r Q S p)
theorem DT.of {f : T} (h : ∀ (pins : List (Addr × Obj)) (s : Shared) (Z : Fr0) (σ : L2.St) (G H : Hp) (r : Ev) (Q : Bool → Hp → Prop), Inv X pins σ H s → RS X.K Z G H r σ → TPost X W Z σ G H r Q (f r) → wpAny (model X.prog X.w) X.A (isTrue e X.env (eval e X.env)) (TP X pins σ Q) X.xe s) : DT X W e f :=
  ⟨fun σ H Q => ∃ Z G r, RS X.K Z G H r σ ∧ TPost X W Z σ G H r Q (f r), ⟨fun pins s σ H Q I ⟨Z, G, r, S, p⟩ => h pins s Z σ G H r Q I S p⟩, fun Z σ G H r Q S p => ⟨Z, G, r, S, p⟩⟩
/-! ### one operand -/
def UnD (X : Cx) (f : Value → Sem Value) (g : D → Option Op) : Prop :=
  ∃ rr : V → Hp → VK → Prop, UnR X f rr ∧ ∀ (Z : Fr0) (σ : L2.St) (G H : Hp) (r : Ev) (x : V) (dx : D) (o : Op) (Q : VK), RS X.K Z G H r σ → RH X.K G H dx x → g dx = some o → ResOk X.K Z σ G H r Q o → rr x H Q
theorem one_op {g : D → Option Op} {rr : V → Hp → VK → Prop} {ta : L2.TE} {Z : Fr0} {σ : L2.St} {G H : Hp} {r : Ev} {Q : VK}
    (ha : ∀ (Z : Fr0) (σ : L2.St) (G H : Hp) (r : Ev) (Q : VK), RS X.K Z G H r σ → EPost X W Z σ G H r Q (fa r) → ta σ H Q)
    (ho : ∀ (Z : Fr0) (σ : L2.St) (G H : Hp) (r : Ev) (x : V) (dx : D) (o : Op) (Q : VK), RS X.K Z G H r σ → RH X.K G H dx x → g dx = some o → ResOk X.K Z σ G H r Q o → rr x H Q)
    (S : RS X.K Z G H r σ) (p : EPost X W Z σ G H r Q (eUn g fa r)) : ta σ H fun x H1 => rr x H1 Q := by
  refine ha Z σ G H r _ S ?_
  unfold eUn at p
  cases q : fa r with
  | ok o r1 =>
    simp only [q] at p
    intro v G1 H1 S1 X1 R1
    cases e1 : rsv r1 o with
    | none => simp only [e1] at p; exact p.elim
    | some d =>
      cases e2 : g d with
      | none => simp only [e1, e2] at p; exact p.elim
      | some z =>
        simp only [e1, e2] at p
        exact ho Z σ G1 H1 r1 v d z Q S1 (R1.rsv S1 e1) e2 fun v G2 H2 S2 X2 R2 => p v G2 H2 S2 (X1.trans X2) (R2.base X1.n)
  | err c r1 => simp only [q] at p; exact p
  | bad => simp only [q] at p; exact p.elim
theorem de_un {op : UnaryOp} {g : D → Option Op} (ho : UnD X (unaryOp op) g) (ha : DE X W a fa) : DE X W (.UnaryOp op a pos) (eUn g fa) := by
  obtain ⟨ta, pa, qa⟩ := ha.ex
  obtain ⟨rr, po, qo⟩ := ho
  exact ⟨_, pe_un po pa, fun Z σ G H r Q S p => one_op qa qo S p⟩
theorem und_neg : UnD X (unaryOp .USub) gNeg := by
  refine ⟨_, un_neg, ?_⟩
  intro Z σ G H r x dx o Q S hx e h
  unfold gNeg at e
  cases dx <;> first | (cases e; done) | skip
  cases hx; cases e
  exact ⟨_, rfl, h.int S⟩
theorem de_notE (ha : DE X W a fa) : DE X W (.UnaryOp .Not a pos) (eNotE fa) := by
  obtain ⟨ta, pa, qa⟩ := ha.ex
  refine ⟨_, pe_notT pa, fun Z σ G H r Q S p => qa Z σ G H r _ S ?_⟩
  unfold eNotE tTru at p
  cases e1 : fa r with
  | ok o r1 =>
    simp only [e1] at p
    intro v G1 H1 S1 X1 R1
    cases e2 : rsv r1 o with
    | none => simp only [e2] at p; exact p.elim
    | some d =>
      cases e3 : dtr d with
      | none => simp only [e2, e3] at p; exact p.elim
      | some k =>
        simp only [e2, e3] at p
        exact ⟨k, truV_of S1.sg (R1.rsv S1 e2) e3, p _ G1 H1 S1 X1 (.bl _)⟩
  | err c r1 => simp only [e1] at p; exact p
  | bad => simp only [e1] at p; exact p.elim
/-! ### and, or, not -/
theorem TPost.imp {Z : Fr0} {σ : L2.St} {G H : Hp} {r : Ev} {Q Q' : Bool → Hp → Prop} (h : ∀ b H, Q b H → Q' b H) : ∀ {o : TOut}, TPost X W Z σ G H r Q o → TPost X W Z σ G H r Q' o
  | .ok _ _, p => fun G' H' S e => h _ _ (p G' H' S e)
  | .err _ _, p => p
  | .bad, p => p
theorem dt_not {f : T} (h : DT X W a f) : DT X W (.UnaryOp .Not a pos) (tNot f) := by
  obtain ⟨t, p, q⟩ := h.ex
  refine ⟨_, pt_not p, fun Z σ G H r Q S hp => q Z σ G H r _ S ?_⟩
  unfold DL.tNot at hp
  cases e1 : f r with
  | ok k r1 => simp only [e1] at hp; exact hp
  | err c r1 => simp only [e1] at hp; exact hp
  | bad => simp only [e1] at hp; exact hp.elim
section
variable {f g : T} {rest : List Expr}
theorem dw_and1 (h : DT X W a f) : DW X W (.BoolOp .And [a] pos) f := by
  obtain ⟨t, p, q⟩ := h.ex
  exact ⟨_, pw_and1 p, q⟩
theorem dw_or1 (h : DT X W a f) : DW X W (.BoolOp .Or [a] pos) f := by
  obtain ⟨t, p, q⟩ := h.ex
  exact ⟨_, pw_or1 p, q⟩
theorem dw_and (h : DT X W a f) (k : DW X W (.BoolOp .And (b :: rest) pos) g) : DW X W (.BoolOp .And (a :: b :: rest) pos) (tAnd f g) := by
  obtain ⟨t, p, q⟩ := h.ex
  obtain ⟨t2, p2, q2⟩ := k.ex
  refine ⟨_, pw_and p p2, fun Z σ G H r Q S hp => q Z σ G H r _ S ?_⟩
  unfold DL.tAnd at hp
  cases e1 : f r with
  | ok k r1 =>
    cases k with
    | true => simp only [e1] at hp; exact fun G1 H1 S1 X1 => iteT <| q2 Z σ G1 H1 r1 Q S1 (hp.pre X1)
    | false => simp only [e1] at hp; exact fun G1 H1 S1 X1 => iteF <| hp G1 H1 S1 X1
  | err c r1 => simp only [e1] at hp; exact hp
  | bad => simp only [e1] at hp; exact hp.elim
theorem dw_or (h : DT X W a f) (k : DW X W (.BoolOp .Or (b :: rest) pos) g) : DW X W (.BoolOp .Or (a :: b :: rest) pos) (tOr f g) := by
  obtain ⟨t, p, q⟩ := h.ex
  obtain ⟨t2, p2, q2⟩ := k.ex
  refine ⟨_, pw_or p p2, fun Z σ G H r Q S hp => q Z σ G H r _ S ?_⟩
  unfold DL.tOr at hp
  cases e1 : f r with
  | ok k r1 =>
    cases k with
    | true => simp only [e1] at hp; exact fun G1 H1 S1 X1 => iteT <| hp G1 H1 S1 X1
    | false => simp only [e1] at hp; exact fun G1 H1 S1 X1 => iteF <| q2 Z σ G1 H1 r1 Q S1 (hp.pre X1)
  | err c r1 => simp only [e1] at hp; exact hp
  | bad => simp only [e1] at hp; exact hp.elim
end
section
variable {rest : List Expr} {op : BoolOp}
theorem de_one (h : DE X W a fa) : DE X W (.BoolOp op [a] pos) fa := by
  obtain ⟨t, p, q⟩ := h.ex
  exact ⟨_, pe_one p, q⟩
theorem de_and (h : DE X W a fa) (k : DE X W (.BoolOp .And (b :: rest) pos) fb) : DE X W (.BoolOp .And (a :: b :: rest) pos) (eAnd fa fb) := by
  obtain ⟨t, p, q⟩ := h.ex
  obtain ⟨t2, p2, q2⟩ := k.ex
  refine ⟨_, pe_and p p2, fun Z σ G H r Q S hp => q Z σ G H r _ S ?_⟩
  unfold eAnd at hp
  cases e1 : fa r with
  | ok o r1 =>
    simp only [e1] at hp
    cases o with
    | fz d =>
      cases d with
      | bl k =>
        cases k with
        | true => intro v G1 H1 S1 X1 R1; cases R1; exact ⟨true, rfl, iteT <| q2 Z σ G1 H1 r1 Q S1 (hp.pre X1)⟩
        | false => intro v G1 H1 S1 X1 R1; cases R1; exact ⟨false, rfl, iteF <| hp _ G1 H1 S1 X1 (.bl _)⟩
      | _ => exact hp.elim
    | _ => exact hp.elim
  | err c r1 => simp only [e1] at hp; exact hp
  | bad => simp only [e1] at hp; exact hp.elim
theorem de_or (h : DE X W a fa) (k : DE X W (.BoolOp .Or (b :: rest) pos) fb) : DE X W (.BoolOp .Or (a :: b :: rest) pos) (eOr fa fb) := by
  obtain ⟨t, p, q⟩ := h.ex
  obtain ⟨t2, p2, q2⟩ := k.ex
  refine ⟨_, pe_or p p2, fun Z σ G H r Q S hp => q Z σ G H r _ S ?_⟩
  unfold eOr at hp
  cases e1 : fa r with
  | ok o r1 =>
    simp only [e1] at hp
    cases o with
    | fz d =>
      cases d with
      | bl k =>
        cases k with
        | true => intro v G1 H1 S1 X1 R1; cases R1; exact ⟨true, rfl, iteT <| hp _ G1 H1 S1 X1 (.bl _)⟩
        | false => intro v G1 H1 S1 X1 R1; cases R1; exact ⟨false, rfl, iteF <| q2 Z σ G1 H1 r1 Q S1 (hp.pre X1)⟩
      | _ => exact hp.elim
    | _ => exact hp.elim
  | err c r1 => simp only [e1] at hp; exact hp
  | bad => simp only [e1] at hp; exact hp.elim
end
theorem de_if {f : T} (h : DT X W c f) (ha : DE X W a fa) (hb : DE X W b fb) : DE X W (.IfExp c a b pos) (eIf f fa fb) := by
  obtain ⟨t, p, q⟩ := h.ex
  obtain ⟨ta, pa, qa⟩ := ha.ex
  obtain ⟨tb, pb, qb⟩ := hb.ex
  refine ⟨_, pe_ifExp p pa pb, fun Z σ G H r Q S hp => q Z σ G H r _ S ?_⟩
  unfold eIf at hp
  cases e1 : f r with
  | ok k r1 =>
    cases k with
    | true => simp only [e1] at hp; exact fun G1 H1 S1 X1 => iteT <| qa Z σ G1 H1 r1 Q S1 (hp.pre X1)
    | false => simp only [e1] at hp; exact fun G1 H1 S1 X1 => iteF <| qb Z σ G1 H1 r1 Q S1 (hp.pre X1)
  | err c r1 => simp only [e1] at hp; exact hp
  | bad => simp only [e1] at hp; exact hp.elim
/-! ### a row of operands -/
theorem da_nil : DA X W [] aNil := ⟨_, pa_nil, fun Z σ G H r Q S p => p [] G H S .refl .nil⟩
theorem da_cons {f : A} (h : DE X W e fa) (k : DA X W es f) (hs : starEach (e :: es) X.env = (false, eval e X.env) :: starEach es X.env := by rfl) : DA X W (e :: es) (aCons fa f) := by
  obtain ⟨t, p, q⟩ := h.ex
  obtain ⟨t2, p2, q2⟩ := k.ex
  refine ⟨_, pa_cons p p2 hs, fun Z σ G H r Q S hp => q Z σ G H r _ S ?_⟩
  unfold aCons at hp
  cases e1 : fa r with
  | ok o r1 =>
    simp only [e1] at hp
    intro v G1 H1 S1 X1 R1
    refine q2 Z σ G1 H1 r1 _ S1 ?_
    cases e2 : f r1 with
    | ok os r2 =>
      simp only [e2] at hp
      exact fun vs G2 H2 S2 X2 R2 => hp _ G2 H2 S2 (X1.trans X2) (.cons (R1.keep X2) (ROs.base X1.n R2))
    | err c r2 =>
      simp only [e2] at hp
      exact fun C G' H' S' x m => hp C G' H' S' (X1.trans x) m
    | bad => simp only [e2] at hp; exact hp.elim
  | err c r1 => simp only [e1] at hp; exact hp
  | bad => simp only [e1] at hp; exact hp.elim
end
/-! ### operands put away -/
/-- an operand, or a new object that has been put away already -/
def RF (K : FG) (Z : Fr0) (σ : L2.St) (B G H : Hp) (r : Ev) (o : Op) (v : V) : Prop := RO K Z σ B G H r o v ∨ ∃ d, o = .tm d ∧ RD K G d v
/-- what putting away changes -/
structure FZ (Z : Fr0) (σ : L2.St) (B G : Hp) (r : Ev) (G' : Hp) (r' : Ev) : Prop where
  g : Same G G'
  f : ∀ a u, G' a = some u → G a = some u ∨ ownAt r σ a ∨ B a = none
  o : ∀ a, ownAt r' σ a → ownAt r σ a
theorem FZ.refl {Z : Fr0} {σ : L2.St} {B G : Hp} {r : Ev} : FZ Z σ B G r G r := ⟨Same.refl _, fun _ _ h => .inl h, fun _ h => h⟩
theorem FZ.trans {Z : Fr0} {σ : L2.St} {B G G1 G2 : Hp} {r r1 r2 : Ev} (a : FZ Z σ B G r G1 r1) (b : FZ Z σ B G1 r1 G2 r2) : FZ Z σ B G r G2 r2 :=
  ⟨a.g.trans b.g, fun c u h => (b.f c u h).elim (a.f c u) fun h => h.elim (fun h => .inr (.inl (a.o c h))) fun h => .inr (.inr h), fun c h => a.o c (b.o c h)⟩
theorem FZ.ex {Z : Fr0} {σ : L2.St} {G H G1 H1 G2 : Hp} {r r1 r2 : Ev} (x : EX σ G H r G1 H1 r1) (z : FZ Z σ H G1 r1 G2 r2) : EX σ G H r G2 H1 r2 where
  g := x.g.trans z.g
  h := x.h
  n := x.n
  f := fun a u h => by
    rcases z.f a u h with k | k | k
    · exact x.f a u k
    · exact .inr (.inr (x.o a k))
    · exact .inr (.inl k)
  o := fun a h => x.o a (z.o a h)
section
variable {K : FG} {Z : Fr0} {σ : L2.St} {B G H : Hp} {r r' : Ev}
theorem RF.fzo (S : RS K Z G H r σ) {o : Op} {v : V} {d : D} (h : RF K Z σ B G H r o v) (e : fzo r o = some (d, r')) :
    ∃ G', RS K Z G' H r' σ ∧ RD K G' d v ∧ FZ Z σ B G r G' r' ∧ ∀ o2 v2, RF K Z σ B G H r o2 v2 → RF K Z σ B G' H r' o2 v2 := by
  rcases h with h | ⟨d', e', rd⟩
  · cases o with
    | fz d' => cases e; exact ⟨G, S, h, .refl, fun _ _ h => h⟩
    | tm d' =>
      cases e
      obtain ⟨a, e1, g0, h0, no, rm⟩ := h
      subst e1
      obtain ⟨u, hu, S', sm, rd⟩ := S.frz g0 h0.1 no rm
      refine ⟨_, S', rd, ⟨sm, fun b w q => ?_, fun _ h => h⟩, fun o2 v2 h2 => ?_⟩
      · by_cases hb : b = a
        · subst hb; exact .inr (.inr h0.2)
        · rw [upd_ne hb] at q; exact .inl q
      · rcases h2 with h2 | ⟨d2, e2, rd2⟩
        · cases o2 with
          | fz d2 => exact .inl (RD.mono sm h2)
          | br i => exact .inl h2
          | tm d2 =>
            obtain ⟨b, e1, p0, p1, p2, p3⟩ := h2
            subst e1
            by_cases hb : b = a
            · subst hb
              obtain ⟨u2, hu2, rd2⟩ := p3.freeze p0
              rw [hu] at hu2; cases hu2
              exact .inr ⟨d2, rfl, rd2⟩
            · exact .inl ⟨b, rfl, by rw [upd_ne hb]; exact p0, p1, p2, p3.at sm rfl⟩
        · exact .inr ⟨d2, e2, rd2.mono sm⟩
    | br i =>
      have h' : σ[i]? = some (some v) := h
      unfold DL.fzo at e
      cases q : r[i]? with
      | none => simp [q] at e
      | some s =>
        cases s with
        | no => simp [q] at e
        | va d' =>
          simp only [q] at e; cases e
          obtain ⟨v', e1, e2⟩ := S.va i _ q
          rw [h'] at e1; cases e1
          exact ⟨G, S, e2, .refl, fun _ _ h => h⟩
        | ow b d' =>
          cases b with
          | true => simp [q] at e
          | false =>
            simp only [q] at e; cases e
            obtain ⟨a, G', e1, S', X', rd⟩ := S.freeze q
            rw [h'] at e1; cases e1
            refine ⟨G', S', rd, ⟨X'.g, fun b u z => ?_, X'.o⟩, fun o2 v2 h2 => ?_⟩
            · rcases X'.f b u z with k | k | k
              · exact .inl k
              · exfalso
                have := S'.sg b u z
                rw [k] at this; cases this
              · exact .inr (.inl k)
            · rcases h2 with h2 | ⟨d2, e2, rd2⟩
              · exact .inl (h2.keep X')
              · exact .inr ⟨d2, e2, rd2.mono X'.g⟩
  · subst e'
    cases e
    exact ⟨G, S, rd, .refl, fun _ _ h => h⟩
theorem RO.fzo (S : RS K Z G H r σ) {o : Op} {v : V} {d : D} (h : RO K Z σ B G H r o v) (e : fzo r o = some (d, r')) :
    ∃ G', RS K Z G' H r' σ ∧ RD K G' d v ∧ FZ Z σ B G r G' r' ∧ ∀ o2 v2, RF K Z σ B G H r o2 v2 → RF K Z σ B G' H r' o2 v2 := RF.fzo S (.inl h) e
inductive RFs (K : FG) (Z : Fr0) (σ : L2.St) (B G H : Hp) (r : Ev) : List Op → List V → Prop
  | nil : RFs K Z σ B G H r [] []
  | cons {o : Op} {v : V} {os : List Op} {vs : List V} : RF K Z σ B G H r o v → RFs K Z σ B G H r os vs → RFs K Z σ B G H r (o :: os) (v :: vs)
theorem ROs.rf : ∀ {os : List Op} {vs : List V}, ROs K Z σ B G H r os vs → RFs K Z σ B G H r os vs
  | _, _, .nil => .nil
  | _, _, .cons a b => .cons (.inl a) (ROs.rf b)
theorem RFs.imp {G' : Hp} {r' : Ev} (h : ∀ o2 v2, RF K Z σ B G H r o2 v2 → RF K Z σ B G' H r' o2 v2) : ∀ {os : List Op} {vs : List V}, RFs K Z σ B G H r os vs → RFs K Z σ B G' H r' os vs
  | _, _, .nil => .nil
  | _, _, .cons a b => .cons (h _ _ a) (RFs.imp h b)
end
theorem RFs.fzos {K : FG} {Z : Fr0} {σ : L2.St} {B H : Hp} : ∀ {os : List Op} {vs : List V} {ds : List D} {G : Hp} {r r' : Ev}, RS K Z G H r σ → RFs K Z σ B G H r os vs → fzos os r = some (ds, r') →
    ∃ G', RS K Z G' H r' σ ∧ RDs K G' ds vs ∧ FZ Z σ B G r G' r' ∧ ∀ o2 v2, RF K Z σ B G H r o2 v2 → RF K Z σ B G' H r' o2 v2
  | [], _, ds, G, r, r', S, .nil, e => by cases e; exact ⟨G, S, .nil, .refl, fun _ _ h => h⟩
  | o :: os, _, ds, G, r, r', S, .cons a b, e => by
    unfold DL.fzos at e
    cases q : fzo r o with
    | none => simp [q] at e
    | some p =>
      obtain ⟨d, r1⟩ := p
      simp only [q] at e
      obtain ⟨G1, S1, rd1, z1, k1⟩ := RF.fzo S a q
      cases q2 : DL.fzos os r1 with
      | none => simp [q2] at e
      | some p2 =>
        obtain ⟨ds2, r2⟩ := p2
        simp only [q2] at e; cases e
        obtain ⟨G2, S2, rd2, z2, k2⟩ := RFs.fzos S1 (b.imp k1) q2
        exact ⟨G2, S2, .cons (rd1.mono z2.g) rd2, z1.trans z2, fun o2 v2 h => k2 o2 v2 (k1 o2 v2 h)⟩
/-! ### displays -/
section
variable {X : Cx} {W : WX} {e : Expr} {es : List Expr} {fa : E} {pos : Pos} {f : A}
theorem de_tup {x1 : _} (h : DA X W es f) : DE X W (.Tuple es x1 pos) (eTup f) := by
  obtain ⟨t, p, q⟩ := h.ex
  refine ⟨_, pe_tup p, fun Z σ G H r Q S hp => q Z σ G H r _ S ?_⟩
  unfold eTup at hp
  cases e1 : f r with
  | ok os r1 =>
    simp only [e1] at hp
    intro vs G1 H1 S1 X1 R1
    cases e2 : fzos os r1 with
    | none => simp only [e2] at hp; exact hp.elim
    | some p2 =>
      obtain ⟨ds, r2⟩ := p2
      simp only [e2] at hp
      obtain ⟨G2, S2, rd, z2, _⟩ := RFs.fzos S1 (ROs.rf R1) e2
      have X2 := z2.ex X1
      split at hp
      · rename_i hz
        refine ⟨by rw [← rd.length]; exact hz, fun p hp' => ?_⟩
        obtain ⟨S3, X3, R3⟩ := S2.newT hp' rd
        exact hp _ _ _ S3 (X2.trans X3) R3
      · exact hp.elim
  | err c r1 => simp only [e1] at hp; exact hp
  | bad => simp only [e1] at hp; exact hp.elim
theorem de_lst (h : DA X W es f) : DE X W (.List es pos) (eLst f) := by
  obtain ⟨t, p, q⟩ := h.ex
  refine ⟨_, pe_lst p, fun Z σ G H r Q S hp => q Z σ G H r _ S ?_⟩
  unfold eLst at hp
  cases e1 : f r with
  | ok os r1 =>
    simp only [e1] at hp
    intro vs G1 H1 S1 X1 R1
    cases e2 : fzos os r1 with
    | none => simp only [e2] at hp; exact hp.elim
    | some p2 =>
      obtain ⟨ds, r2⟩ := p2
      simp only [e2] at hp
      obtain ⟨G2, S2, rd, z2, _⟩ := RFs.fzos S1 (ROs.rf R1) e2
      have X2 := z2.ex X1
      split at hp
      · rename_i hz
        refine ⟨by rw [← rd.length]; exact hz, fun p hp' => ?_⟩
        have k : ResOk X.K Z σ G2 H1 r2 Q (.tm (.lst ds)) := fun v G3 H3 S3 X3 R3 => hp v G3 H3 S3 (X2.trans X3) (R3.base X2.n)
        exact k.lst S2 rd hp'
      · exact hp.elim
  | err c r1 => simp only [e1] at hp; exact hp
  | bad => simp only [e1] at hp; exact hp.elim
/-! ### built-ins by name -/
def CallD (X : Cx) (f : Value) (g : List D → Option Op) : Prop :=
  ∃ rr : List V → Hp → VK → Prop, CallR X f rr ∧ ∀ (Z : Fr0) (σ : L2.St) (G H : Hp) (r : Ev) (xs : List V) (ds : List D) (o : Op) (Q : VK), RS X.K Z G H r σ → RHs X.K G H ds xs → g ds = some o → ResOk X.K Z σ G H r Q o → rr xs H Q
theorem pure_op {g : List D → Option Op} {rr : List V → Hp → VK → Prop} {t : L2.TA} {Z : Fr0} {σ : L2.St} {G H : Hp} {r : Ev} {Q : VK}
    (q : ∀ (Z : Fr0) (σ : L2.St) (G H : Hp) (r : Ev) (Q : List V → Hp → Prop), RS X.K Z G H r σ → APost X W Z σ G H r Q (f r) → t σ H Q)
    (qo : ∀ (Z : Fr0) (σ : L2.St) (G H : Hp) (r : Ev) (xs : List V) (ds : List D) (o : Op) (Q : VK), RS X.K Z G H r σ → RHs X.K G H ds xs → g ds = some o → ResOk X.K Z σ G H r Q o → rr xs H Q)
    (S : RS X.K Z G H r σ) (hp : EPost X W Z σ G H r Q (ePure g f r)) : t σ H fun xs H1 => rr xs H1 Q := by
  refine q Z σ G H r _ S ?_
  unfold ePure at hp
  cases e1 : f r with
  | ok os r1 =>
    simp only [e1] at hp
    intro vs G1 H1 S1 X1 R1
    cases e2 : rsvs r1 os with
    | none => simp only [e2] at hp; exact hp.elim
    | some ds =>
      cases e3 : g ds with
      | none => simp only [e2, e3] at hp; exact hp.elim
      | some z =>
        simp only [e2, e3] at hp
        exact qo Z σ G1 H1 r1 vs ds z Q S1 (ROs.rsvs S1 R1 e2) e3 fun v G2 H2 S2 X2 R2 => hp v G2 H2 S2 (X1.trans X2) (R2.base X1.n)
  | err c r1 => simp only [e1] at hp; exact hp
  | bad => simp only [e1] at hp; exact hp.elim
theorem de_callB {id : String} {g : List D → Option Op} {x : Str} {p : Pos} (hc : CallD X (.builtin id) g) (hg : Gl X x) (hm : X.mg x = none) (hv : bootBuiltins x = some (.builtin id)) (ha : DA X W (e :: es) f) (hn : x ≠ "__name__" := by decide) (hdb : (x == ("__debug__" : Str)) = false := by decide)
    (he : starEach (e :: es) X.env = (false, eval e X.env) :: starEach es X.env := by rfl) (hpl : (backTo pos (starEach es X.env)).any (·.1) = false := by rfl) : DE X W (.Call (.Name x p) (e :: es) [] pos) (ePure g f) := by
  obtain ⟨rr, po, qo⟩ := hc
  obtain ⟨t, p, q⟩ := ha.ex
  exact ⟨_, pe_callB po hg hm hv p hn hdb he hpl, fun Z σ G H r Q S hp => pure_op q qo S hp⟩
theorem de_callTy {T : String} {g : List D → Option Op} {x : Str} {p : Pos} (hc : CallD X (.type T) g) (hg : Gl X x) (hm : X.mg x = none) (hv : bootBuiltins x = some (.type T)) (ha : DA X W (e :: es) f) (hn : x ≠ "__name__" := by decide) (hdb : (x == ("__debug__" : Str)) = false := by decide)
    (he : starEach (e :: es) X.env = (false, eval e X.env) :: starEach es X.env := by rfl) (hpl : (backTo pos (starEach es X.env)).any (·.1) = false := by rfl) : DE X W (.Call (.Name x p) (e :: es) [] pos) (ePure g f) := by
  obtain ⟨rr, po, qo⟩ := hc
  obtain ⟨t, p, q⟩ := ha.ex
  exact ⟨_, pe_callTy po hg hm hv p hn hdb he hpl, fun Z σ G H r Q S hp => pure_op q qo S hp⟩
end
end DL
end

section
set_option Elab.async false
set_option linter.all false
set_option maxRecDepth 100000
set_option autoImplicit false
/-! DL5: in, is, chains, built-ins, subscripts, slices. -/
namespace DL
open PySem PySem.Spec PyProof.Rows L2
section
variable {X : Cx} {W : WX} {a b c e : Expr} {es : List Expr} {fa fb fc : E} {pos : Pos}
/-! ### dicts -/
theorem keyV {K : FG} {G : Hp} {d : D} {v : V} {k : DK} (h : RD K G d v) (e : keyD d = some k) : v = kV k := by
  cases d <;> first | (cases e; done) | skip
  · cases h; cases e; rfl
  · cases h; cases e; rfl
theorem keysV {K : FG} {G : Hp} : ∀ {ds : List D} {vs : List V} {ks : List DK}, RDs K G ds vs → keysD ds = some ks → vs = ks.map kV
  | [], _, _, .nil, e => by cases e; rfl
  | d :: ds, _, ks, .cons a b, e => by
    unfold keysD at e
    cases q : keyD d with
    | none => simp [q] at e
    | some k =>
      cases q2 : keysD ds with
      | none => simp [q, q2] at e
      | some ks' =>
        simp only [q, q2] at e; cases e
        rw [keyV a q, keysV b q2]; rfl
theorem valV_cons {κ : Type} [DecidableEq κ] (p : κ × V) (r : List (κ × V)) (x : κ) : valV (p :: r) x = if p.1 = x then some p.2 else valV r x := by
  by_cases e : p.1 = x
  · rw [if_pos e]; exact valV_pos e
  · rw [if_neg e]; exact valV_neg e
/-- a dict's value at a key -/
theorem valR {κ : Type} [DecidableEq κ] {K : FG} {G : Hp} (x : κ) : ∀ {kvs : List (κ × D)} {ws : List (κ × V)}, ws.map (·.1) = kvs.map (·.1) → RDs K G (kvs.map (·.2)) (ws.map (·.2)) →
    (valD kvs x = none ∧ valV ws x = none) ∨ ∃ d v, valD kvs x = some d ∧ valV ws x = some v ∧ RD K G d v
  | [], [], _, _ => .inl ⟨rfl, rfl⟩
  | [], _ :: _, h, _ => by simp at h
  | _ :: _, [], h, _ => by simp at h
  | (k, d) :: kvs, (k', v) :: ws, h, r => by
    simp only [List.map_cons, List.cons.injEq] at h
    obtain ⟨h1, h2⟩ := h
    subst h1
    cases r with
    | cons r1 r2 =>
      rw [valV_cons]
      unfold valD
      by_cases e : k' = x
      · rw [if_pos e, if_pos e]; exact .inr ⟨d, v, rfl, rfl, r1⟩
      · rw [if_neg e, if_neg e]; exact valR x h2 r2
/-- what dget says of a dict -/
theorem dgetR {K : FG} {Z : Fr0} {σ : L2.St} {G H : Hp} {r : Ev} (S : RS K Z G H r σ) {d k : D} {x y : V} {o : Option D} (hx : RH K G H d x) (hy : RH K G H k y) (e : dget d k = some o) :
    ∃ a o', x = .ref a ∧ DGet H a y o' ∧ ((o = none ∧ o' = none) ∨ ∃ dv v, o = some dv ∧ o' = some v ∧ RD K G dv v) := by
  unfold dget at e
  cases d <;> first | (cases e; done) | skip
  · obtain ⟨a, ws, rfl, h1, h2, h3⟩ := hx
    try dsimp only at e
    cases q : keyD k with
    | none => simp [q] at e
    | some kk =>
      simp only [q] at e; cases e
      have hk : y = kV kk := by
        cases k <;> first | (cases q; done) | exact keyV hy q
      subst hk
      refine ⟨a, valV ws kk, rfl, .inl ⟨ws, kk, h1, rfl, rfl⟩, ?_⟩
      rcases valR kk h2 h3 with ⟨e1, e2⟩ | ⟨dv, v, e1, e2, e3⟩
      · exact .inl ⟨e1, e2⟩
      · exact .inr ⟨dv, v, e1, e2, e3⟩
  · obtain ⟨a, ws, rfl, h1, h2, h3⟩ := hx
    try dsimp only at e
    cases k <;> first | (cases e; done) | skip
    rename_i ks
    try dsimp only at e
    cases q : keysD ks with
    | none => simp [q] at e
    | some kk =>
      simp only [q] at e; cases e
      cases hy with | tup t1 t2 =>
      have hk := keysV t2 q
      subst hk
      refine ⟨a, valV ws kk, rfl, .t h1 (S.sg _ _ t1), ?_⟩
      rcases valR kk h2 h3 with ⟨e1, e2⟩ | ⟨dv, v, e1, e2, e3⟩
      · exact .inl ⟨e1, e2⟩
      · exact .inr ⟨dv, v, e1, e2, e3⟩
def rInDict (neg : Bool) : R2 := fun x y H Q => ∃ a o, y = .ref a ∧ DGet H a x o ∧ Q (.bl (if neg then !o.isSome else o.isSome)) H
theorem op_in_dict (hu : X.A.units + 1 < cLine) : OpR X (compareOp .In) (rInDict false) := by
  intro pins s σ H x y v u Q I rx ry ⟨a, o, ey, g, q⟩
  subst ey; cases ry
  exact d_in hu I g rx fun s' I' => ⟨.bl o.isSome, H, I', rfl, q⟩
theorem op_notIn_dict (hu : X.A.units + 1 < cLine) : OpR X (compareOp .NotIn) (rInDict true) := by
  intro pins s σ H x y v u Q I rx ry ⟨a, o, ey, g, q⟩
  subst ey; cases ry
  exact d_notIn hu I g rx fun s' I' => ⟨.bl (!o.isSome), H, I', rfl, q⟩
/-! ### in -/
theorem flatR {K : FG} {G : Hp} {d : D} {v : V} (h : RD K G d v) (f : flatD d = true) : flatV v = true := by
  cases h <;> first | rfl | cases f
theorem flatsR {K : FG} {G : Hp} : ∀ {ds : List D} {vs : List V}, RDs K G ds vs → ds.all flatD = true → vs.all flatV = true
  | _, _, .nil, _ => rfl
  | _, _, .cons a b, h => by
    simp only [List.all_cons, Bool.and_eq_true] at h ⊢
    exact ⟨flatR a h.1, flatsR b h.2⟩
theorem eqR {K : FG} {G : Hp} {d e : D} {v u : V} (h : RD K G d v) (k : RD K G e u) (f : flatD d = true) (g : flatD e = true) : eqV v u = eqD d e := by
  cases h <;> cases k <;> first | rfl | (cases f; done) | (cases g; done)
theorem inR {K : FG} {G : Hp} {d : D} {v : V} (h : RD K G d v) (f : flatD d = true) : ∀ {ds : List D} {vs : List V}, RDs K G ds vs → ds.all flatD = true → inV v vs = ds.any fun z => eqD z d
  | _, _, .nil, _ => rfl
  | _, _, .cons a b, g => by
    simp only [List.all_cons, Bool.and_eq_true] at g
    show (eqV _ v || inV v _) = (eqD _ d || _)
    rw [eqR a h g.1 f, inR h f b g.2]
theorem asS_RH {K : FG} {Z : Fr0} {σ : L2.St} {G H : Hp} {r : Ev} (S : RS K Z G H r σ) {d : D} {v : V} {ds : List D} (h : RH K G H d v) (e : asS d = some ds) : ∃ a vs, v = .ref a ∧ (SqL K H a vs ∨ SqT K H a vs) ∧ RDs K G ds vs := by
  cases d <;> first | (cases e; done) | skip
  · cases e; cases h with | tup h1 h2 => exact ⟨_, _, rfl, .inr (.inl (.inl (S.sg _ _ h1))), h2⟩
  · cases e; obtain ⟨a, vs, rfl, h1, h2⟩ := h; exact ⟨_, _, rfl, .inl (.of h1), h2⟩
  · cases e; cases h with | ktp h1 h2 => exact ⟨_, _, rfl, .inr (Same.seqT S.sg h1), h2⟩
  · cases e; cases h with | kls h1 h2 => exact ⟨_, _, rfl, .inl (S.sg.seq h1), h2⟩
theorem eqs_any {n m : Nat} {d : D} (h : okD n d = true) : ∀ {ds : List D}, okDs m ds = true → ((toPs ds).any fun z => PyData.eqv z (toP d)) = ds.any fun z => eqD z d
  | [], _ => rfl
  | x :: xs, k => by
    unfold okDs at k
    rw [Bool.and_eq_true] at k
    show (PyData.eqv (toP x) (toP d) || _) = (eqD x d || _)
    rw [eqD_eqv x d k.1 h, eqs_any h k.2]
theorem rd_of_flat {K : FG} {G H : Hp} {d : D} {v : V} (h : RH K G H d v) (f : flatD d = true) : RD K G d v := by
  cases d <;> first | exact h | cases f
theorem opd_in (hu : X.A.units + 65 < cLine) : OpD X (compareOp .In) gIn := by
  refine ⟨_, (op_in_seq (X := X)).or ((op_inD (X := X) hu).or (op_in_dict (by omega))), ?_⟩
  intro Z σ G H r x y dx dy o Q S hx hy e h
  unfold gIn at e
  cases q : asS dy with
  | none =>
    simp only [q] at e
    cases q2 : dget dy dx with
    | none => simp [q2] at e
    | some od =>
      simp only [q2] at e; cases e
      obtain ⟨a, o', rfl, g, k⟩ := dgetR S hy hx q2
      refine .inr (.inr ⟨a, o', rfl, g, ?_⟩)
      have : od.isSome = o'.isSome := by
        rcases k with ⟨e1, e2⟩ | ⟨dv, v, e1, e2, _⟩ <;> rw [e1, e2] <;> rfl
      rw [if_neg Bool.false_ne_true, ← this]
      exact h.bl S
  | some ds =>
    simp only [q] at e
    split at e
    · rename_i f
      cases e
      rw [Bool.and_eq_true] at f
      obtain ⟨a, vs, rfl, h1, h2⟩ := asS_RH S hy q
      have rx := rd_of_flat hx f.1
      refine .inl ⟨a, vs, rfl, h1, flatR rx f.1, flatsR h2 f.2, ?_⟩
      rw [if_neg Bool.false_ne_true, inR rx f.1 h2 f.2]
      exact h.bl S
    · cases dy <;> first | (cases e; done) | skip
      rename_i ys
      dsimp only at e
      split at e <;> cases e
      rename_i f
      rw [Bool.and_eq_true] at f
      refine .inr (.inl ⟨_, toPs ys, hx.dp S.sg f.1, hy.dp S.sg f.2, okD_shaped f.1, okD_shaped f.2, ?_⟩)
      rw [eqs_any f.1 (m := 63) f.2]
      exact h.bl S
theorem opd_notIn (hu : X.A.units + 65 < cLine) : OpD X (compareOp .NotIn) gNotIn := by
  refine ⟨_, (op_notIn_seq (X := X)).or ((op_notInD (X := X) hu).or (op_notIn_dict (by omega))), ?_⟩
  intro Z σ G H r x y dx dy o Q S hx hy e h
  unfold gNotIn at e
  cases q : asS dy with
  | none =>
    simp only [q] at e
    cases q2 : dget dy dx with
    | none => simp [q2] at e
    | some od =>
      simp only [q2] at e; cases e
      obtain ⟨a, o', rfl, g, k⟩ := dgetR S hy hx q2
      refine .inr (.inr ⟨a, o', rfl, g, ?_⟩)
      have : od.isSome = o'.isSome := by
        rcases k with ⟨e1, e2⟩ | ⟨dv, v, e1, e2, _⟩ <;> rw [e1, e2] <;> rfl
      rw [if_pos rfl, ← this]
      exact h.bl S
  | some ds =>
    simp only [q] at e
    split at e
    · rename_i f
      cases e
      rw [Bool.and_eq_true] at f
      obtain ⟨a, vs, rfl, h1, h2⟩ := asS_RH S hy q
      have rx := rd_of_flat hx f.1
      refine .inl ⟨a, vs, rfl, h1, flatR rx f.1, flatsR h2 f.2, ?_⟩
      rw [if_pos rfl, inR rx f.1 h2 f.2]
      exact h.bl S
    · cases dy <;> first | (cases e; done) | skip
      rename_i ys
      dsimp only at e
      split at e <;> cases e
      rename_i f
      rw [Bool.and_eq_true] at f
      refine .inr (.inl ⟨_, toPs ys, hx.dp S.sg f.1, hy.dp S.sg f.2, okD_shaped f.1, okD_shaped f.2, ?_⟩)
      rw [eqs_any f.1 (m := 63) f.2]
      exact h.bl S
/-! ### is -/
theorem RH.nonV {K : FG} {G H : Hp} {v : V} (h : RH K G H .non v) : v = .non := by cases h; rfl
theorem RH.notNon {K : FG} {G H : Hp} {d : D} {v : V} (h : RH K G H d v) (n : d ≠ .non) : v ≠ .non := by
  cases d with
  | non => exact absurd rfl n
  | lst ds => obtain ⟨a, vs, rfl, _⟩ := h; exact fun z => nomatch z
  | dct ds => obtain ⟨a, vs, rfl, _⟩ := h; exact fun z => nomatch z
  | dtt ds => obtain ⟨a, vs, rfl, _⟩ := h; exact fun z => nomatch z
  | _ => cases h <;> exact fun z => nomatch z
theorem opd_is : OpD X (compareOp .Is) gIs := by
  refine ⟨_, (op_isN (X := X)).or op_is_bl, ?_⟩
  intro Z σ G H r x y dx dy o Q S hx hy e h
  unfold gIs at e
  split at e
  · cases e; cases hx.nonV; cases hy.nonV
    exact .inl ⟨rfl, h.bl S⟩
  · cases e; cases hx; cases hy
    rename_i p q
    refine .inr ⟨p, q, rfl, rfl, ?_⟩
    rw [beq_dec]; exact h.bl S
  · rename_i n
    cases e; cases hy.nonV
    refine .inl ⟨rfl, ?_⟩
    rw [decide_eq_false (hx.notNon n)]
    exact h.bl S
  · cases e
theorem opd_isNot : OpD X (compareOp .IsNot) gIsNot := by
  refine ⟨_, (op_notN (X := X)).or op_isnot_bl, ?_⟩
  intro Z σ G H r x y dx dy o Q S hx hy e h
  unfold gIsNot at e
  split at e
  · cases e; cases hx.nonV; cases hy.nonV
    exact .inl ⟨rfl, h.bl S⟩
  · cases e; cases hx; cases hy
    rename_i p q
    refine .inr ⟨p, q, rfl, rfl, ?_⟩
    rw [beq_dec]; exact h.bl S
  · rename_i n
    cases e; cases hy.nonV
    refine .inl ⟨rfl, ?_⟩
    rw [decide_eq_false (hx.notNon n)]
    exact h.bl S
  · cases e
end
end DL
end

section
set_option Elab.async false
set_option linter.all false
set_option maxRecDepth 100000
set_option autoImplicit false
/-! DL6: chains, built-ins, subscripts, slices over data. -/
namespace DL
open PySem PySem.Spec PyProof.Rows L2
section
variable {X : Cx} {W : WX} {a b c e : Expr} {es : List Expr} {fa fb fc : E} {pos : Pos}
/-! ### chains -/
/-- behind an operand o, the chain gives k -/
structure DCh (X : Cx) (W : WX) (ops : List CmpOp) (es : List Expr) (k : Ch) : Prop where
  val : ∀ (pos : Pos) (pins : List (Addr × Obj)) (s : Shared) (Z : Fr0) (σ : L2.St) (B G H : Hp) (r : Ev) (o : Op) (v : V) (u : Value) (Q : VK), Inv X pins σ H s → RS X.K Z G H r σ → RO X.K Z σ B G H r o v → RelV v u →
    EPost X W Z σ G H r Q (k o r) → wpAny (model X.prog X.w) X.A (compareChain pos u ops (evalEach es X.env)) (EP X pins σ Q) X.xe s
  tst : ∀ (pos : Pos) (pins : List (Addr × Obj)) (s : Shared) (Z : Fr0) (σ : L2.St) (B G H : Hp) (r : Ev) (o : Op) (v : V) (u : Value) (Q : Bool → Hp → Prop), Inv X pins σ H s → RS X.K Z G H r σ → RO X.K Z σ B G H r o v → RelV v u →
    TPost X W Z σ G H r Q (tBl (k o) r) → wpAny (model X.prog X.w) X.A (testChain pos u ops (evalEach es X.env)) (TP X pins σ Q) X.xe s
variable {op op' : CmpOp} {ops : List CmpOp} {g : D → D → Option Op} {k : Ch}
theorem ch_last (ho : OpD X (compareOp op) g) (hb : DE X W b fb) : DCh X W [op] [b] (chLast g fb) := by
  obtain ⟨rr, po, qo⟩ := ho
  refine ⟨?_, ?_⟩
  · intro pos pins s Z σ B G H r o v u Q I S R rv p
    refine chain_last ?_
    refine thn (hb.run (Q := fun y H2 => rr v y H2 Q) I S ?_) fun w s2 ⟨y, H2, I2, r2, q2⟩ => po pins s2 σ H2 v y u w Q I2 rv r2 q2
    unfold chLast at p
    cases e1 : fb r with
    | ok o2 r1 =>
      simp only [e1] at p
      intro y G1 H1 S1 X1 R1
      cases e2 : rsv r1 o with
      | none => simp only [e2] at p; exact p.elim
      | some dx =>
        cases e3 : rsv r1 o2 with
        | none => simp only [e2, e3] at p; exact p.elim
        | some dy =>
          cases e4 : g dx dy with
          | none => simp only [e2, e3, e4] at p; exact p.elim
          | some z =>
            simp only [e2, e3, e4] at p
            exact qo Z σ G1 H1 r1 v y dx dy z Q S1 ((R.keep X1).rsv S1 e2) (R1.rsv S1 e3) e4 fun v G2 H2 S2 X2 R2 => p v G2 H2 S2 (X1.trans X2) (R2.base X1.n)
    | err c r1 => simp only [e1] at p; exact p
    | bad => simp only [e1] at p; exact p.elim
  · intro pos pins s Z σ B G H r o v u Q I S R rv p
    refine test_last ?_
    refine thn (hb.run (Q := fun y H2 => rr v y H2 fun z H3 => ∃ c, z = .bl c ∧ Q c H3) I S ?_) fun w s2 ⟨y, H2, I2, r2, q2⟩ => thn (po pins s2 σ H2 v y u w _ I2 rv r2 q2) fun d s5 ⟨z2, H5, I5, r5, k2, ek, q5⟩ => by
      subst ek; cases r5
      exact wpAny_truthy_bool ⟨H5, I5, q5⟩
    unfold tBl chLast at p
    cases e1 : fb r with
    | ok o2 r1 =>
      simp only [e1] at p
      intro y G1 H1 S1 X1 R1
      cases e2 : rsv r1 o with
      | none => simp only [e2] at p; exact p.elim
      | some dx =>
        cases e3 : rsv r1 o2 with
        | none => simp only [e2, e3] at p; exact p.elim
        | some dy =>
          cases e4 : g dx dy with
          | none => simp only [e2, e3, e4] at p; exact p.elim
          | some z =>
            simp only [e2, e3, e4] at p
            refine qo Z σ G1 H1 r1 v y dx dy z _ S1 ((R.keep X1).rsv S1 e2) (R1.rsv S1 e3) e4 fun v G2 H2 S2 X2 R2 => ?_
            cases z with
            | fz d =>
              cases d with
              | bl c => cases R2; exact ⟨c, rfl, p G2 H2 S2 (X1.trans X2)⟩
              | _ => exact p.elim
            | _ => exact p.elim
    | err c r1 => simp only [e1] at p; exact p
    | bad => simp only [e1] at p; exact p.elim
/-- what a link leaves where its comparison is true -/
def LinkV (X : Cx) (W : WX) (Z : Fr0) (σ : L2.St) (k : Ch) (Q : VK) (y : V) (H3 : Hp) : Prop := ∃ B G3 r3 o3, RS X.K Z G3 H3 r3 σ ∧ RO X.K Z σ B G3 H3 r3 o3 y ∧ EPost X W Z σ G3 H3 r3 Q (k o3 r3)
def LinkT (X : Cx) (W : WX) (Z : Fr0) (σ : L2.St) (k : Ch) (Q : Bool → Hp → Prop) (y : V) (H3 : Hp) : Prop := ∃ B G3 r3 o3, RS X.K Z G3 H3 r3 σ ∧ RO X.K Z σ B G3 H3 r3 o3 y ∧ TPost X W Z σ G3 H3 r3 Q (tBl (k o3) r3)
theorem ch_link (ho : OpD X (compareOp op) g) (hb : DE X W b fb) (hk : DCh X W (op' :: ops) (c :: es) k) : DCh X W (op :: op' :: ops) (b :: c :: es) (chLink g fb k) := by
  obtain ⟨rr, po, qo⟩ := ho
  refine ⟨?_, ?_⟩
  · intro pos pins s Z σ B G H r o v u Q I S R rv p
    refine chain_link ?_
    refine thn (hb.run (Q := fun y H2 => rr v y H2 fun z H3 => ∃ c2, z = .bl c2 ∧ if c2 = true then LinkV X W Z σ k Q y H3 else Q (.bl false) H3) I S ?_)
      fun w s2 ⟨y, H2, I2, r2, q2⟩ => thn (po pins s2 σ H2 v y u w _ I2 rv r2 q2) fun d s3 ⟨z, H3, I3, r3, c2, ec, q3⟩ => ?_
    · unfold chLink at p
      cases e1 : fb r with
      | ok o2 r1 =>
        simp only [e1] at p
        intro y G1 H1 S1 X1 R1
        cases e2 : rsv r1 o with
        | none => simp only [e2] at p; exact p.elim
        | some dx =>
          cases e3 : rsv r1 o2 with
          | none => simp only [e2, e3] at p; exact p.elim
          | some dy =>
            cases e4 : g dx dy with
            | none => simp only [e2, e3, e4] at p; exact p.elim
            | some z =>
              refine qo Z σ G1 H1 r1 v y dx dy z _ S1 ((R.keep X1).rsv S1 e2) (R1.rsv S1 e3) e4 fun v G2 H2 S2 X2 R2 => ?_
              simp only [e2, e3, e4] at p
              cases z with
              | fz d =>
                cases d with
                | bl c2 =>
                  cases R2
                  refine ⟨c2, rfl, ?_⟩
                  cases c2 with
                  | true => exact iteT ⟨_, G2, r1, o2, S2, R1.keep X2, EPost.pre (X1.trans X2) p⟩
                  | false => exact iteF (p _ G2 H2 S2 (X1.trans X2) (.bl _))
                | _ => exact p.elim
              | _ => exact p.elim
      | err c r1 => simp only [e1] at p; exact p
      | bad => simp only [e1] at p; exact p.elim
    · subst ec; cases r3
      refine wpAny_truthy_bool ?_
      cases c2 with
      | true =>
        obtain ⟨B3, G3, r3, o3, S3, R3, p3⟩ := q3
        exact iteT (hk.val pos pins s3 Z σ B3 G3 H3 r3 o3 y w Q I3 S3 R3 r2 p3)
      | false => exact iteF ⟨.bl false, H3, I3, rfl, q3⟩
  · intro pos pins s Z σ B G H r o v u Q I S R rv p
    refine test_link ?_
    refine thn (hb.run (Q := fun y H2 => rr v y H2 fun z H3 => ∃ c2, z = .bl c2 ∧ if c2 = true then LinkT X W Z σ k Q y H3 else Q false H3) I S ?_)
      fun w s2 ⟨y, H2, I2, r2, q2⟩ => thn (po pins s2 σ H2 v y u w _ I2 rv r2 q2) fun d s3 ⟨z, H3, I3, r3, c2, ec, q3⟩ => ?_
    · unfold tBl chLink at p
      cases e1 : fb r with
      | ok o2 r1 =>
        simp only [e1] at p
        intro y G1 H1 S1 X1 R1
        cases e2 : rsv r1 o with
        | none => simp only [e2] at p; exact p.elim
        | some dx =>
          cases e3 : rsv r1 o2 with
          | none => simp only [e2, e3] at p; exact p.elim
          | some dy =>
            cases e4 : g dx dy with
            | none => simp only [e2, e3, e4] at p; exact p.elim
            | some z =>
              refine qo Z σ G1 H1 r1 v y dx dy z _ S1 ((R.keep X1).rsv S1 e2) (R1.rsv S1 e3) e4 fun v G2 H2 S2 X2 R2 => ?_
              simp only [e2, e3, e4] at p
              cases z with
              | fz d =>
                cases d with
                | bl c2 =>
                  cases R2
                  refine ⟨c2, rfl, ?_⟩
                  cases c2 with
                  | true => exact iteT ⟨_, G2, r1, o2, S2, R1.keep X2, TPost.pre (X1.trans X2) p⟩
                  | false => exact iteF (p G2 H2 S2 (X1.trans X2))
                | _ => exact p.elim
              | _ => exact p.elim
      | err c r1 => simp only [e1] at p; exact p
      | bad => simp only [e1] at p; exact p.elim
    · subst ec; cases r3
      refine wpAny_truthy_bool ?_
      cases c2 with
      | true =>
        obtain ⟨B3, G3, r3, o3, S3, R3, p3⟩ := q3
        exact iteT (hk.tst pos pins s3 Z σ B3 G3 H3 r3 o3 y w Q I3 S3 R3 r2 p3)
      | false => exact iteF ⟨H3, I3, q3⟩
theorem de_ch (ha : DE X W a fa) (hk : DCh X W (op :: op' :: ops) (b :: c :: es) k) (hm : lastMarks (op :: op' :: ops) (b :: c :: es) = false := by with_unfolding_all rfl) :
    DE X W (.Compare a (op :: op' :: ops) (b :: c :: es) pos) (eCh fa k) := by
  refine DE.of fun pins s Z σ G H r Q I S p => ?_
  refine Compare_chain ?_ hm
  refine thn (ha.run (Q := fun y H2 => LinkV X W Z σ k Q y H2) I S ?_) fun v s1 ⟨y, H1, I1, r1, B, G1, r1', o1, S1, R1, p1⟩ => hk.val pos pins s1 Z σ B G1 H1 r1' o1 y v Q I1 S1 R1 r1 p1
  unfold eCh at p
  cases e1 : fa r with
  | ok o r1 =>
    simp only [e1] at p
    exact fun y G1 H1 S1 X1 R1 => ⟨_, G1, r1, o, S1, R1, EPost.pre X1 p⟩
  | err c r1 => simp only [e1] at p; exact p
  | bad => simp only [e1] at p; exact p.elim
theorem dt_ch (ha : DE X W a fa) (hk : DCh X W (op :: op' :: ops) (b :: c :: es) k) (hm : lastMarks (op :: op' :: ops) (b :: c :: es) = false := by with_unfolding_all rfl) :
    DT X W (.Compare a (op :: op' :: ops) (b :: c :: es) pos) (tBl (eCh fa k)) := by
  refine DT.of fun pins s Z σ G H r Q I S p => ?_
  refine isTrue_chain ?_ hm
  refine thn (ha.run (Q := fun y H2 => LinkT X W Z σ k Q y H2) I S ?_) fun v s1 ⟨y, H1, I1, r1, B, G1, r1', o1, S1, R1, p1⟩ => hk.tst pos pins s1 Z σ B G1 H1 r1' o1 y v Q I1 S1 R1 r1 p1
  unfold tBl eCh at p
  cases e1 : fa r with
  | ok o r1 =>
    simp only [e1] at p
    exact fun y G1 H1 S1 X1 R1 => ⟨_, G1, r1, o, S1, R1, TPost.pre X1 p⟩
  | err c r1 => simp only [e1] at p; exact p
  | bad => simp only [e1] at p; exact p.elim
end
/-! ### built-ins -/
section
variable {X : Cx}
theorem rh1 {K : FG} {G H : Hp} {d : D} {vs : List V} (h : RHs K G H [d] vs) : ∃ v, vs = [v] ∧ RH K G H d v := by
  cases h with | cons a b => cases b; exact ⟨_, rfl, a⟩
theorem rh2 {K : FG} {G H : Hp} {d e : D} {vs : List V} (h : RHs K G H [d, e] vs) : ∃ v w, vs = [v, w] ∧ RH K G H d v ∧ RH K G H e w := by
  cases h with | cons a b => cases b with | cons b c => cases c; exact ⟨_, _, rfl, a, b⟩
theorem call_lenR : CallR X (.builtin "len") (fun xs H Q => ∃ a kvs, xs = [V.ref a] ∧ Rd H a (.dK kvs) ∧ Q (.int kvs.length) H) := by
  intro pins s σ H xs us Q I r ⟨a, kvs, hx, ha, q⟩
  subst hx
  obtain ⟨u, rfl, ru⟩ := vals1 r
  cases ru
  exact d_len I ha fun t s' I' => ⟨.int kvs.length, H, I', ⟨t, rfl⟩, q⟩
theorem cd_len : CallD X (.builtin "len") gLen := by
  refine ⟨_, (call_len (X := X)).or call_lenR, ?_⟩
  intro Z σ G H r xs ds o Q S hs e h
  unfold gLen at e
  split at e
  · rename_i x
    obtain ⟨v, rfl, k⟩ := rh1 hs
    split at e <;> cases e
    rename_i hz
    cases k
    exact .inl ⟨_, x.length, rfl, ⟨hz, rfl⟩, h.int S⟩
  · rename_i kvs
    obtain ⟨v, rfl, k⟩ := rh1 hs
    cases e
    obtain ⟨a, ws, rfl, h1, h2, h3⟩ := k
    refine .inr ⟨a, ws, rfl, h1, ?_⟩
    have hl : ws.length = kvs.length := by simpa using congrArg List.length h2
    rw [hl]
    exact h.int S
  · rename_i d _ _
    obtain ⟨v, rfl, k⟩ := rh1 hs
    cases q : asS d with
    | none => simp [q] at e
    | some ys =>
      simp only [q] at e; cases e
      obtain ⟨a, vs, rfl, h1, h2⟩ := asS_RH S k q
      refine .inl ⟨_, ys.length, rfl, ?_, h.int S⟩
      rcases h1 with h1 | h1
      · exact .inl ⟨vs, h1, h2.length⟩
      · exact .inr ⟨vs, h1, h2.length⟩
  · cases e
theorem cd_abs : CallD X (.builtin "abs") gAbs := by
  refine ⟨_, call_abs, ?_⟩
  intro Z σ G H r xs ds o Q S hs e h
  unfold gAbs at e
  split at e
  · obtain ⟨v, rfl, k⟩ := rh1 hs
    cases e; cases k
    exact ⟨_, rfl, h.int S⟩
  · cases e
theorem cd_int : CallD X (.type "int") gInt := by
  refine ⟨_, call_int1, ?_⟩
  intro Z σ G H r xs ds o Q S hs e h
  unfold gInt at e
  split at e
  · obtain ⟨v, rfl, k⟩ := rh1 hs
    cases e; cases k
    exact .inl ⟨_, rfl, h.int S⟩
  · obtain ⟨v, rfl, k⟩ := rh1 hs
    cases e; cases k
    exact .inr ⟨_, rfl, h.int S⟩
  · cases e
theorem cd_list : CallD X (.type "list") gList := by
  refine ⟨_, call_list_of, ?_⟩
  intro Z σ G H r xs ds o Q S hs e h
  unfold gList at e
  split at e
  · rename_i d
    obtain ⟨v, rfl, k⟩ := rh1 hs
    cases q : asS d with
    | none => simp [q] at e
    | some ys =>
      simp only [q] at e; cases e
      obtain ⟨a, vs, rfl, h1, h2⟩ := asS_RH S k q
      exact ⟨a, vs, rfl, h1, fun l hl => h.lst S h2 hl⟩
  · cases e
theorem cd_tuple : CallD X (.type "tuple") gTuple := by
  refine ⟨_, call_tuple_of, ?_⟩
  intro Z σ G H r xs ds o Q S hs e h
  unfold gTuple at e
  split at e
  · obtain ⟨v, rfl, k⟩ := rh1 hs
    cases e; cases k with | tup h1 h2 => exact ⟨_, _, rfl, .inr ⟨.inl (.inl (S.sg _ _ h1)), h.val S (.tup h1 h2)⟩⟩
  · obtain ⟨v, rfl, k⟩ := rh1 hs
    cases e; cases k with | ktp h1 h2 => exact ⟨_, _, rfl, .inr ⟨Same.seqT S.sg h1, h.val S (.ktp h1 h2)⟩⟩
  · obtain ⟨v, rfl, k⟩ := rh1 hs
    cases e; obtain ⟨a, vs, rfl, h1, h2⟩ := k
    exact ⟨_, _, rfl, .inl ⟨.of h1, fun l hl => h.tup S h2 hl⟩⟩
  · obtain ⟨v, rfl, k⟩ := rh1 hs
    cases e; cases k with | kls h1 h2 => exact ⟨_, _, rfl, .inl ⟨S.sg.seq h1, fun l hl => h.tup S h2 hl⟩⟩
  · cases e
theorem cd_sum (hc : X.calm = true) : CallD X (.builtin "sum") gSum := by
  refine ⟨_, cr_sum hc, ?_⟩
  intro Z σ G H r xs ds o Q S hs e h
  unfold gSum at e
  split at e
  · rename_i ys
    obtain ⟨v, rfl, k⟩ := rh1 hs
    cases q : intsD ys with
    | none => simp [q] at e
    | some ns =>
      simp only [q] at e; cases e
      obtain ⟨a, vs, rfl, h1, h2⟩ := k
      have := intsD_eq q; subst this
      have := intsV h2; subst this
      exact ⟨a, ns, rfl, .of h1, h.int S⟩
  · cases e
theorem foldMax_spec : ∀ (r : List Int) (x : Int), (r.foldl (fun a b => if a < b then b else a) x) ∈ x :: r ∧ ∀ y ∈ x :: r, y ≤ r.foldl (fun a b => if a < b then b else a) x
  | [], x => by simp
  | b :: r, x => by
    simp only [List.foldl_cons]
    obtain ⟨h1, h2⟩ := foldMax_spec r (if x < b then b else x)
    refine ⟨?_, fun y hy => ?_⟩
    · rcases List.mem_cons.mp h1 with h | h
      · rw [h]; split <;> simp
      · simp [h]
    · have h0 := h2 _ List.mem_cons_self
      have hx : x ≤ (if x < b then b else x) := by split <;> omega
      have hb : b ≤ (if x < b then b else x) := by split <;> omega
      rcases List.mem_cons.mp hy with h | h
      · rw [h]; exact Int.le_trans hx h0
      · rcases List.mem_cons.mp h with h | h
        · rw [h]; exact Int.le_trans hb h0
        · exact h2 y (List.mem_cons_of_mem _ h)
theorem foldMin_spec : ∀ (r : List Int) (x : Int), (r.foldl (fun a b => if b < a then b else a) x) ∈ x :: r ∧ ∀ y ∈ x :: r, r.foldl (fun a b => if b < a then b else a) x ≤ y
  | [], x => by simp
  | b :: r, x => by
    simp only [List.foldl_cons]
    obtain ⟨h1, h2⟩ := foldMin_spec r (if b < x then b else x)
    refine ⟨?_, fun y hy => ?_⟩
    · rcases List.mem_cons.mp h1 with h | h
      · rw [h]; split <;> simp
      · simp [h]
    · have h0 := h2 _ List.mem_cons_self
      have hx : (if b < x then b else x) ≤ x := by split <;> omega
      have hb : (if b < x then b else x) ≤ b := by split <;> omega
      rcases List.mem_cons.mp hy with h | h
      · rw [h]; exact Int.le_trans h0 hx
      · rcases List.mem_cons.mp h with h | h
        · rw [h]; exact Int.le_trans h0 hb
        · exact h2 y (List.mem_cons_of_mem _ h)
theorem maxI_spec {ns : List Int} {m : Int} (h : maxI ns = some m) : m ∈ ns ∧ ∀ y ∈ ns, y ≤ m := by
  cases ns with
  | nil => cases h
  | cons x r => cases h; exact foldMax_spec r x
theorem minI_spec {ns : List Int} {m : Int} (h : minI ns = some m) : m ∈ ns ∧ ∀ y ∈ ns, m ≤ y := by
  cases ns with
  | nil => cases h
  | cons x r => cases h; exact foldMin_spec r x
theorem ne_len {ns : List Int} {m : Int} (h : m ∈ ns) : 0 < ns.length := List.length_pos_of_mem h
theorem cd_max (hc : X.calm = true) : CallD X (.builtin "max") gMax := by
  refine ⟨_, (call_max2 hc).or (cr_max hc), ?_⟩
  intro Z σ G H r xs ds o Q S hs e h
  unfold gMax at e
  split at e
  · unfold gMax2 at e
    split at e
    · rename_i hd; simp only [List.cons.injEq] at hd; obtain ⟨rfl, rfl, _⟩ := hd
      obtain ⟨v, w, rfl, k1, k2⟩ := rh2 hs
      cases e; cases k1; cases k2
      exact .inl ⟨_, _, rfl, h.int S⟩
    · cases e
  · unfold gMaxL at e
    split at e
    · rename_i ys _
      obtain ⟨v, rfl, k⟩ := rh1 hs
      cases q : intsD ys with
      | none => simp [q] at e
      | some ns =>
        cases q2 : maxI ns with
        | none => simp [q, q2] at e
        | some m =>
          simp only [q, q2] at e; cases e
          obtain ⟨a, vs, rfl, h1, h2⟩ := k
          have := intsD_eq q; subst this
          have := intsV h2; subst this
          obtain ⟨m1, m2⟩ := maxI_spec q2
          refine .inr ⟨a, ns, rfl, .of h1, ne_len m1, fun m' p1 p2 => ?_⟩
          have : m' = m := Int.le_antisymm (m2 _ p1) (p2 _ m1)
          subst this
          exact h.int S
    · cases e
theorem cd_min (hc : X.calm = true) : CallD X (.builtin "min") gMin := by
  refine ⟨_, (call_min2 hc).or (cr_min hc), ?_⟩
  intro Z σ G H r xs ds o Q S hs e h
  unfold gMin at e
  split at e
  · unfold gMin2 at e
    split at e
    · rename_i hd; simp only [List.cons.injEq] at hd; obtain ⟨rfl, rfl, _⟩ := hd
      obtain ⟨v, w, rfl, k1, k2⟩ := rh2 hs
      cases e; cases k1; cases k2
      exact .inl ⟨_, _, rfl, h.int S⟩
    · cases e
  · unfold gMinL at e
    split at e
    · rename_i ys _
      obtain ⟨v, rfl, k⟩ := rh1 hs
      cases q : intsD ys with
      | none => simp [q] at e
      | some ns =>
        cases q2 : minI ns with
        | none => simp [q, q2] at e
        | some m =>
          simp only [q, q2] at e; cases e
          obtain ⟨a, vs, rfl, h1, h2⟩ := k
          have := intsD_eq q; subst this
          have := intsV h2; subst this
          obtain ⟨m1, m2⟩ := minI_spec q2
          refine .inr ⟨a, ns, rfl, .of h1, ne_len m1, fun m' p1 p2 => ?_⟩
          have : m' = m := Int.le_antisymm (p2 _ m1) (m2 _ p1)
          subst this
          exact h.int S
    · cases e
theorem blsD_eq : ∀ {ds : List D} {bs : List Bool}, blsD ds = some bs → ds = bs.map D.bl
  | [], _, h => by cases h; rfl
  | d :: r, bs, h => by
    unfold blsD at h
    cases d with
    | bl i =>
      cases q : blsD r with
      | none => simp [q] at h
      | some ms => simp only [q] at h; cases h; rw [List.map_cons, ← blsD_eq q]
    | _ => simp at h
theorem blsV {K : FG} {G : Hp} : ∀ {ns : List Bool} {vs : List V}, RDs K G (ns.map D.bl) vs → vs = ns.map V.bl
  | [], _, .nil => rfl
  | _ :: _, _, .cons a b => by cases a; rw [blsV b]; rfl
theorem cd_all (hc : X.calm = true) : CallD X (.builtin "all") gAll := by
  refine ⟨_, cr_all hc, ?_⟩
  intro Z σ G H r xs ds o Q S hs e h
  unfold gAll at e
  split at e
  · rename_i ys
    obtain ⟨v, rfl, k⟩ := rh1 hs
    cases q : blsD ys with
    | none => simp [q] at e
    | some ns =>
      simp only [q] at e; cases e
      obtain ⟨a, vs, rfl, h1, h2⟩ := k
      have := blsD_eq q; subst this
      have := blsV h2; subst this
      exact ⟨a, ns, rfl, .of h1, h.bl S⟩
  · cases e
theorem cd_any (hc : X.calm = true) : CallD X (.builtin "any") gAny := by
  refine ⟨_, cr_any hc, ?_⟩
  intro Z σ G H r xs ds o Q S hs e h
  unfold gAny at e
  split at e
  · rename_i ys
    obtain ⟨v, rfl, k⟩ := rh1 hs
    cases q : blsD ys with
    | none => simp [q] at e
    | some ns =>
      simp only [q] at e; cases e
      obtain ⟨a, vs, rfl, h1, h2⟩ := k
      have := blsD_eq q; subst this
      have := blsV h2; subst this
      exact ⟨a, ns, rfl, .of h1, h.bl S⟩
  · cases e
theorem insI_perm (x : Int) : ∀ r : List Int, (insI x r).Perm (x :: r)
  | [] => .refl _
  | y :: r => by
    unfold insI
    split
    · exact .refl _
    · exact ((insI_perm x r).cons y).trans (.swap x y r)
theorem sortI_perm : ∀ r : List Int, (sortI r).Perm r
  | [] => .refl _
  | x :: r => (insI_perm x _).trans ((sortI_perm r).cons x)
theorem insI_sorted (x : Int) : ∀ r : List Int, r.Pairwise (· ≤ ·) → (insI x r).Pairwise (· ≤ ·)
  | [], _ => by simp [insI]
  | y :: r, h => by
    unfold insI
    rw [List.pairwise_cons] at h
    split
    · rename_i k
      refine List.pairwise_cons.mpr ⟨fun z hz => ?_, List.pairwise_cons.mpr h⟩
      rcases List.mem_cons.mp hz with e | e
      · subst e; exact k
      · exact Int.le_trans k (h.1 z e)
    · rename_i k
      refine List.pairwise_cons.mpr ⟨fun z hz => ?_, insI_sorted x r h.2⟩
      rcases List.mem_cons.mp ((insI_perm x r).mem_iff.mp hz) with e | e
      · subst e; omega
      · exact h.1 z e
theorem sortI_sorted : ∀ r : List Int, (sortI r).Pairwise (· ≤ ·)
  | [] => .nil
  | x :: r => insI_sorted x _ (sortI_sorted r)
theorem sorted_unique : ∀ {a b : List Int}, a.Perm b → a.Pairwise (· ≤ ·) → b.Pairwise (· ≤ ·) → a = b := fun p h k =>
  p.eq_of_pairwise (fun _ _ _ _ h1 h2 => Int.le_antisymm h1 h2) h k
theorem RDs.ints {K : FG} {G : Hp} : ∀ (ns : List Int), RDs K G (ns.map D.int) (ns.map V.int)
  | [] => .nil
  | n :: ns => .cons (.int n) (RDs.ints ns)
theorem cd_sorted : CallD X (.builtin "sorted") gSorted := by
  refine ⟨_, cr_sortedI, ?_⟩
  intro Z σ G H r xs ds o Q S hs e h
  unfold gSorted at e
  split at e
  · rename_i ys
    obtain ⟨v, rfl, k⟩ := rh1 hs
    cases q : intsD ys with
    | none => simp [q] at e
    | some ns =>
      simp only [q] at e; cases e
      obtain ⟨a, vs, rfl, h1, h2⟩ := k
      have := intsD_eq q; subst this
      have := intsV h2; subst this
      refine ⟨a, ns, rfl, .of h1, fun ns' p p1 p2 hp => ?_⟩
      have : ns' = sortI ns := sorted_unique (p1.trans (sortI_perm ns).symm) p2 (sortI_sorted ns)
      subst this
      exact h.lst S (.ints _) hp
  · cases e
end
end DL
end

section
set_option Elab.async false
set_option linter.all false
set_option maxRecDepth 100000
set_option autoImplicit false
/-! DL7: subscripts, slices, isinstance, calls of defs over data. -/
namespace DL
open PySem PySem.Spec PyProof.Rows L2
section
variable {X : Cx} {W : WX} {a b c e : Expr} {es : List Expr} {fa fb fc : E} {pos : Pos}
theorem PE.or {t t' : L2.TE} (h : PE X e t) (k : PE X e t') : PE X e (fun σ H Q => t σ H Q ∨ t' σ H Q) :=
  ⟨fun pins s σ H Q I q => q.elim (h.run pins s σ H Q I) (k.run pins s σ H Q I)⟩
/-- a binary form whose operands' data are known -/
theorem two_known {g : D → D → Option Op} {ta tb : L2.TE} {R : V → V → Hp → Prop} {Z : Fr0} {σ : L2.St} {G H : Hp} {r : Ev} {Q : VK}
    (ha : ∀ (Z : Fr0) (σ : L2.St) (G H : Hp) (r : Ev) (Q : VK), RS X.K Z G H r σ → EPost X W Z σ G H r Q (fa r) → ta σ H Q)
    (hb : ∀ (Z : Fr0) (σ : L2.St) (G H : Hp) (r : Ev) (Q : VK), RS X.K Z G H r σ → EPost X W Z σ G H r Q (fb r) → tb σ H Q)
    (S : RS X.K Z G H r σ) (p : EPost X W Z σ G H r Q (eBin g fa fb r)) {o o2 z : Op} {r1 r2 : Ev} {dx dy : D} (e1 : fa r = .ok o r1) (e2 : fb r1 = .ok o2 r2) (e3 : rsv r2 o = some dx) (e4 : rsv r2 o2 = some dy) (e5 : g dx dy = some z)
    (h : ∀ x y G' H', RS X.K Z G' H' r2 σ → RH X.K G' H' dx x → RH X.K G' H' dy y → ResOk X.K Z σ G' H' r2 Q z → R x y H') : ta σ H fun x H1 => tb σ H1 fun y H2 => R x y H2 := by
  refine two ha hb S ?_
  unfold eBin at p
  simp only [e1, e2, e3, e4, e5] at p ⊢
  intro x y G' H' S' X' Ra Rb
  exact h x y G' H' S' (Ra.rsv S' e3) (Rb.rsv S' e4) fun v G2 H2 S2 X2 R2 => p v G2 H2 S2 (X'.trans X2) (R2.base X'.n)
theorem eBin_err {g : D → D → Option Op} {ta tb : L2.TE} {R : V → V → Hp → Prop} {Z : Fr0} {σ : L2.St} {G H : Hp} {r : Ev} {Q : VK}
    (ha : ∀ (Z : Fr0) (σ : L2.St) (G H : Hp) (r : Ev) (Q : VK), RS X.K Z G H r σ → EPost X W Z σ G H r Q (fa r) → ta σ H Q)
    (hb : ∀ (Z : Fr0) (σ : L2.St) (G H : Hp) (r : Ev) (Q : VK), RS X.K Z G H r σ → EPost X W Z σ G H r Q (fb r) → tb σ H Q)
    (S : RS X.K Z G H r σ) (p : EPost X W Z σ G H r Q (eBin g fa fb r)) (n : ∀ o r1 o2 r2, fa r = .ok o r1 → fb r1 = .ok o2 r2 → False) : ta σ H fun x H1 => tb σ H1 fun y H2 => R x y H2 := by
  refine two ha hb S ?_
  unfold eBin at p
  cases e1 : fa r with
  | ok o r1 =>
    simp only [e1] at p ⊢
    cases e2 : fb r1 with
    | ok o2 r2 => exact (n o r1 o2 r2 e1 e2).elim
    | err c r2 => simp only [e2] at p ⊢; exact p
    | bad => simp only [e2] at p; exact p.elim
  | err c r1 => simp only [e1] at p ⊢; exact p
  | bad => simp only [e1] at p; exact p.elim
theorem ixI_eq (n : Nat) (i : Int) : ixI n i = ixN n i := rfl
theorem de_ix (hu : X.A.units + 1 < cLine) (ha : DE X W a fa) (hb : DE X W b fb) (hs : PlainIx b := by exact fun _ _ => rfl) : DE X W (.Subscript a b pos) (eBin gIx fa fb) := by
  obtain ⟨ta, pa, qa⟩ := ha.ex
  obtain ⟨tb, pb, qb⟩ := hb.ex
  refine ⟨_, PE.or (pe_dget hu pa pb hs) (pe_ix ix_seq pa pb hs), fun Z σ G H r Q S p => ?_⟩
  by_cases k : ∃ o r1 o2 r2, fa r = .ok o r1 ∧ fb r1 = .ok o2 r2
  · obtain ⟨o, r1, o2, r2, e1, e2⟩ := k
    have p' := p
    unfold eBin at p'
    simp only [e1, e2] at p'
    cases e3 : rsv r2 o with
    | none => simp only [e3] at p'; exact p'.elim
    | some dx =>
      cases e4 : rsv r2 o2 with
      | none => simp only [e3, e4] at p'; exact p'.elim
      | some dy =>
        cases e5 : gIx dx dy with
        | none => simp only [e3, e4, e5] at p'; exact p'.elim
        | some z =>
          clear p'
          have e50 := e5
          cases q : asS dx with
          | some ds =>
            refine .inr (two_known qa qb S p e1 e2 e3 e4 e5 fun x y G' H' S' hx hy h => ?_)
            obtain ⟨a, vs, rfl, h1, h2⟩ := asS_RH S' hx q
            unfold gIx at e5
            split at e5
            · cases q
            · rename_i n
              simp only [q] at e5
              cases dy <;> first | (cases e5; done) | skip
              rename_i i
              cases hy
              dsimp only at e5
              cases q2 : ixI ds.length i with
              | none => simp [q2] at e5
              | some j =>
                cases q3 : ds[j]? with
                | none => simp [q2, q3] at e5
                | some d =>
                  simp only [q2, q3] at e5; cases e5
                  obtain ⟨v, e6, rd⟩ := h2.get q3
                  have at_ : atI vs i = some v := by
                    unfold atI
                    rw [← h2.length, ← ixI_eq, q2]; exact e6
                  rcases h1 with h1 | h1
                  · exact .inl ⟨a, vs, i, v, rfl, rfl, h1, at_, h.val S' rd⟩
                  · exact .inr (.inl ⟨a, vs, i, v, rfl, rfl, h1, at_, h.val S' rd⟩)
          | none =>
            unfold gIx at e5
            split at e5
            · refine .inr (two_known qa qb S p e1 e2 e3 e4 e50 fun x y G' H' S' hx hy h => ?_)
              rename_i xs i
              cases hx; cases hy
              split at e5 <;> first | (cases e5; done) | skip
              rename_i hz
              cases q2 : ixI xs.cps.toList.length i with
              | none => simp only [q2] at e5; cases e5
              | some j =>
                simp only [q2] at e5
                cases q3 : xs.cps.toList[j]? with
                | none => simp only [q3] at e5; cases e5
                | some c =>
                  simp only [q3] at e5; cases e5
                  refine .inr (.inr ⟨xs, i, c, rfl, rfl, hz, ?_, h.str S'⟩)
                  unfold atI
                  rw [← ixI_eq, q2]; exact q3
            · simp only [q] at e5
              refine .inl (two_known qa qb S p e1 e2 e3 e4 e50 fun x y G' H' S' hx hy h => ?_)
              · cases q2 : dget dx dy with
                | none => simp [q2] at e5
                | some od =>
                  cases od with
                  | none => simp [q2] at e5
                  | some d =>
                    simp only [q2] at e5; cases e5
                    obtain ⟨a, o', rfl, g, k⟩ := dgetR S' hx hy q2
                    rcases k with ⟨k1, _⟩ | ⟨dv, v, k1, k2, rd⟩
                    · cases k1
                    · cases k1; subst k2
                      exact ⟨a, v, rfl, g, h.val S' rd⟩
  · exact .inl (eBin_err qa qb S p fun o r1 o2 r2 e1 e2 => k ⟨o, r1, o2, r2, e1, e2⟩)
/-! ### slices -/
def PPost (X : Cx) (W : WX) (Z : Fr0) (σ : L2.St) (G H : Hp) (r : Ev) (Q : Option Int → Hp → Prop) : POut → Prop
  | .ok i r' => ∀ G' H', RS X.K Z G' H' r' σ → EX σ G H r G' H' r' → Q i H'
  | .err c r' => ∀ C G' H', RS X.K Z G' H' r' σ → EX σ G H r G' H' r' → X.mg c = some (.ref C) → W (.ref C) none σ H'
  | .bad => False
structure DP (X : Cx) (W : WX) (e : Option Expr) (f : P) : Prop where
  ex : ∃ t : L2.TO, PO X e t ∧ ∀ (Z : Fr0) (σ : L2.St) (G H : Hp) (r : Ev) (Q : Option Int → Hp → Prop), RS X.K Z G H r σ → PPost X W Z σ G H r Q (f r) → t σ H Q
theorem dp_no : DP X W none pNo := ⟨_, po_none, fun Z σ G H r Q S p => p G H S .refl⟩
theorem dp_some (h : DE X W e fa) : DP X W (some e) (pSome fa) := by
  obtain ⟨t, p, q⟩ := h.ex
  refine ⟨_, po_some p, fun Z σ G H r Q S hp => q Z σ G H r _ S ?_⟩
  unfold pSome at hp
  cases e1 : fa r with
  | ok o r1 =>
    simp only [e1] at hp
    cases o with
    | fz d =>
      cases d with
      | int i => intro v G1 H1 S1 X1 R1; cases R1; exact ⟨i, rfl, hp G1 H1 S1 X1⟩
      | _ => exact hp.elim
    | _ => exact hp.elim
  | err c r1 => simp only [e1] at hp; exact hp
  | bad => simp only [e1] at hp; exact hp.elim
theorem PPost.pre {Z : Fr0} {σ : L2.St} {G H G1 H1 : Hp} {r r1 : Ev} (x : EX σ G H r G1 H1 r1) {Q : Option Int → Hp → Prop} : ∀ {o : POut}, PPost X W Z σ G H r Q o → PPost X W Z σ G1 H1 r1 Q o
  | .ok _ _, h => fun G' H' S e => h G' H' S (x.trans e)
  | .err _ _, h => fun C G' H' S e m => h C G' H' S (x.trans e) m
  | .bad, h => h
theorem sI_eq (n d : Nat) : ∀ o : Option Int, sI n d o = HT.sIx n d o
  | none => rfl
  | some v => by
    have h := HT.clip_eq v n d
    show (if v < 0 then max (v + (n : Int)) 0 else min v (n : Int)).toNat = _
    rw [h]; simp
theorem cutD_V (vs : List V) (lo hi : Option Int) : cutD vs lo hi = cutV vs lo hi := by
  unfold cutD cutV
  rw [sI_eq, sI_eq]
theorem RDs.cut {K : FG} {G : Hp} {ds : List D} {vs : List V} (h : RDs K G ds vs) (lo hi : Option Int) : RDs K G (cutD ds lo hi) (cutV vs lo hi) := by
  rw [← cutD_V]
  unfold cutD
  rw [h.length]
  exact (h.drop _).take _
theorem de_slice {lo hi : Option Expr} {fl fh : P} {p2 : Pos} (ha : DE X W a fa) (hl : DP X W lo fl) (hh : DP X W hi fh) : DE X W (.Subscript a (.Slice lo hi none p2) pos) (eSlice fa fl fh) := by
  obtain ⟨ta, pa, qa⟩ := ha.ex
  obtain ⟨tl, pl, ql⟩ := hl.ex
  obtain ⟨th, ph, qh⟩ := hh.ex
  refine ⟨_, pe_slice ((sl_list (X := X)).or ((sl_tupA (X := X)).or sl_str)) pa pl ph, fun Z σ G H r Q S p => qa Z σ G H r _ S ?_⟩
  unfold eSlice at p
  cases e1 : fa r with
  | ok o r1 =>
    simp only [e1] at p
    intro x G1 H1 S1 X1 R1
    refine ql Z σ G1 H1 r1 _ S1 ?_
    cases e2 : fl r1 with
    | ok l r2 =>
      simp only [e2] at p
      intro G2 H2 S2 X2
      refine qh Z σ G2 H2 r2 _ S2 ?_
      cases e3 : fh r2 with
      | ok u r3 =>
        simp only [e3] at p
        intro G3 H3 S3 X3
        have R3 := (R1.keep X2).keep X3
        have X13 := (X1.trans X2).trans X3
        cases e4 : rsv r3 o with
        | none => simp only [e4] at p; exact p.elim
        | some d =>
          have rh := R3.rsv S3 e4
          cases e5 : gSlice d l u with
          | none => simp only [e4, e5] at p; exact p.elim
          | some z =>
            simp only [e4, e5] at p
            have res : ResOk X.K Z σ G3 H3 r3 Q z := fun v G4 H4 S4 X4 R4 => p v G4 H4 S4 (X13.trans X4) (R4.base X13.n)
            unfold gSlice at e5
            cases d <;> first | (cases e5; done) | skip
            · cases rh
              dsimp only at e5
              split at e5 <;> cases e5
              rename_i y hz
              refine .inr (.inr ⟨y, rfl, hz, ?_⟩)
              have ec : cutS y l u = ⟨(cutD y.cps.toList l u).toArray⟩ := by
                unfold cutS cutD
                rw [sI_eq, sI_eq, show y.length = y.cps.toList.length from (Array.length_toList).symm]
              rw [ec]
              exact res.str S3
            · rename_i xs
              cases e5
              cases rh with | tup h1 h2 =>
              refine .inr (.inl ⟨_, _, rfl, .inl (.inl (S3.sg _ _ h1)), fun w => ?_, fun _ p hp => res.tup S3 (h2.cut l u) hp⟩)
              have ed : cutD xs l u = xs := by
                unfold cutD
                rw [sI_eq, sI_eq, h2.length, w.1, w.2]
                simp [← h2.length]
              rw [ed] at res
              exact res.val S3 (.tup h1 h2)
            · cases e5
              obtain ⟨a, vs, rfl, h1, h2⟩ := rh
              exact .inl ⟨a, vs, rfl, .of h1, fun p hp => res.lst S3 (h2.cut l u) hp⟩
            · cases e5
              cases rh with | kls h1 h2 =>
              exact .inl ⟨_, _, rfl, S3.sg.seq h1, fun p hp => res.lst S3 (h2.cut l u) hp⟩
      | err c r3 =>
        simp only [e3] at p
        exact fun C G' H' S' x m => p C G' H' S' ((X1.trans X2).trans x) m
      | bad => simp only [e3] at p; exact p.elim
    | err c r2 =>
      simp only [e2] at p
      exact fun C G' H' S' x m => p C G' H' S' (X1.trans x) m
    | bad => simp only [e2] at p; exact p.elim
  | err c r1 => simp only [e1] at p; exact p
  | bad => simp only [e1] at p; exact p.elim
/-! ### isinstance -/
def tyS : D → String
  | .non => "NoneType"
  | .bl _ => "bool"
  | .int _ => "int"
  | .str _ => "str"
  | .tup _ => "tuple"
  | .ktp _ => "tuple"
  | .lst _ => "list"
  | .kls _ => "list"
  | .dct _ => "dict"
  | .dtt _ => "dict"
def tnS : TyN → String
  | .bool => "bool"
  | .int => "int"
  | .str => "str"
  | .list => "list"
  | .tuple => "tuple"
  | .dict => "dict"
theorem kitD (t : TyN) (d : D) : kitB (tyS d) (tnS t) = some (isD t d) := by
  cases t <;> cases d <;> (simp only [tyS, tnS, isD]; decide +kernel)
theorem tyX {Z : Fr0} {σ : L2.St} {G H : Hp} {r : Ev} (S : RS X.K Z G H r σ) {d : D} {v : V} (h : RH X.K G H d v) : TyX X.K H v (.type (tyS d)) := by
  cases d with
  | non => cases h; exact .base .non
  | bl b => cases h; exact .base (.bl b)
  | int i => cases h; exact .base (.int i)
  | str x => cases h; exact .base (.str x)
  | tup ds => cases h with | tup h1 h2 => exact .base (.tup (S.sg _ _ h1))
  | lst ds => obtain ⟨a, vs, rfl, h1, h2⟩ := h; exact .base (.lst h1)
  | dct ds =>
    obtain ⟨a, vs, rfl, h1, h2⟩ := h
    rcases h1 with h1 | ⟨o, h1⟩
    · exact .base (.dK h1)
    · exact .fDict h1
  | dtt ds => obtain ⟨a, vs, rfl, h1, h2⟩ := h; exact .base (.dT h1)
  | ktp ds =>
    cases h with | ktp h1 h2 =>
    rcases Same.seqT S.sg h1 with (k | ⟨o, k⟩) | ⟨o, its, n, k, kc, _⟩
    · exact .base (.tup k)
    · exact .fTuple k
    · exact .kTuple k kc
  | kls ds =>
    cases h with | kls h1 h2 =>
    rcases S.sg.seq h1 with (k | ⟨o, k⟩) | ⟨o, its, n, k, kc, _⟩
    · exact .base (.lst k)
    · exact .base (.frz k)
    · exact .kList k kc
theorem de_isi {t : TyN} {x ty : Str} {p p2 : Pos} (hg : Gl X x) (hm : X.mg x = none) (hv : bootBuiltins x = some (.builtin "isinstance")) (hg2 : Gl X ty) (hm2 : X.mg ty = none) (hv2 : bootBuiltins ty = some (.type (tnS t))) (ha : DE X W a fa)
    (hn : x ≠ "__name__" := by decide) (hdb : (x == ("__debug__" : Str)) = false := by decide) (hn2 : ty ≠ "__name__" := by decide) (hdb2 : (ty == ("__debug__" : Str)) = false := by decide)
    (he : starEach [a, .Name ty p2] X.env = (false, eval a X.env) :: starEach [.Name ty p2] X.env := by rfl) (he2 : starEach [.Name ty p2] X.env = (false, eval (.Name ty p2) X.env) :: starEach [] X.env := by rfl)
    (hpl : (backTo pos (starEach [.Name ty p2] X.env)).any (·.1) = false := by rfl) : DE X W (.Call (.Name x p) [a, .Name ty p2] [] pos) (eIsi t fa) := by
  obtain ⟨ta, pa, qa⟩ := ha.ex
  have pt : PE X (.Name ty p2) (tC (.ty (tnS t))) := pe_bltn hg2 hm2 hv2 rfl hn2 hdb2
  refine ⟨_, pe_callB call_isi hg hm hv (pa_cons pa (pa_cons pt pa_nil he2) he) hn hdb he hpl, fun Z σ G H r Q S hp => ?_⟩
  refine one_op (X := X) (W := W) (fa := fa) (g := fun d => some (.fz (.bl (isD t d)))) (rr := fun x H1 Q => rIsi X.K [x, .ty (tnS t)] H1 Q) qa (fun Z σ G H r x dx o Q S hx e h => ?_) S hp
  cases e
  exact ⟨x, .ty (tnS t), _, _, isD t dx, rfl, .ty _, tyX S hx, kit_ty (kitD t dx), h.bl S⟩
end
end DL
end

section
set_option Elab.async false
set_option linter.all false
set_option maxRecDepth 100000
set_option autoImplicit false
/-! DL8: a def's promise over data; its call. -/
namespace DL
open PySem PySem.Spec PyProof.Rows L2
/-- the arguments as a def receives them -/
inductive ArgsR (K : FG) (G H : Hp) : List Bool → List D → List V → Prop
  | nil : ArgsR K G H [] [] []
  | va {m : List Bool} {d : D} {v : V} {ds : List D} {vs : List V} : RD K G d v → ArgsR K G H m ds vs → ArgsR K G H (false :: m) (d :: ds) (v :: vs)
  | io {m : List Bool} {d : D} {a : Addr} {ds : List D} {vs : List V} : G a = none → RM K G H a d → ArgsR K G H m ds vs → ArgsR K G H (true :: m) (d :: ds) (.ref a :: vs)
/-- where the changed parameters stand -/
def ioA : List Bool → List V → List Addr
  | true :: m, .ref a :: vs => a :: ioA m vs
  | _ :: m, _ :: vs => ioA m vs
  | _, _ => []
inductive IosR (K : FG) (G H : Hp) : List Addr → List D → Prop
  | nil : IosR K G H [] []
  | cons {a : Addr} {d : D} {as : List Addr} {ds : List D} : G a = none → RM K G H a d → IosR K G H as ds → IosR K G H (a :: as) (d :: ds)
/-- a call's effect -/
structure CE (ia : List Addr) (G H G' H' : Hp) : Prop where
  g : Same G G'
  sg : Same G' H'
  h : ∀ a u, H a = some u → a ∉ ia → H' a = some u
  n : ∀ a, H' a = none → H a = none
  f : ∀ a u, G' a = some u → G a = some u ∨ H a = none
def FRes (K : FG) (H G' H' : Hp) : Op → V → Prop
  | .fz d, v => RD K G' d v
  | .tm d, v => ∃ a, v = .ref a ∧ G' a = none ∧ H a = none ∧ RM K G' H' a d
  | .br _, _ => False
def FPost (mg : Str → Option Value) (K : FG) (ia : List Addr) (G H : Hp) (Q : VK) (E : XK) : FOut → Prop
  | .ok o ios => ∀ v G' H', CE ia G H G' H' → IosR K G' H' ia ios → FRes K H G' H' o v → Q v H'
  | .err c ios => ∀ C G' H', CE ia G H G' H' → IosR K G' H' ia ios → mg c = some (.ref C) → E (.ref C) none H'
  | .bad => False
def spD (mg : Str → Option Value) (K : FG) (m : List Bool) (F : FD) : Sp := fun vs H Q E => ∃ G ds, Same G H ∧ ArgsR K G H m ds vs ∧ (ioA m vs).Nodup ∧ FPost mg K (ioA m vs) G H Q E (F ds)
theorem ArgsR.length {K : FG} {G H : Hp} : ∀ {m : List Bool} {ds : List D} {vs : List V}, ArgsR K G H m ds vs → vs.length = m.length ∧ ds.length = m.length
  | _, _, _, .nil => ⟨rfl, rfl⟩
  | _, _, _, .va _ t => ⟨congrArg (· + 1) t.length.1, congrArg (· + 1) t.length.2⟩
  | _, _, _, .io _ _ t => ⟨congrArg (· + 1) t.length.1, congrArg (· + 1) t.length.2⟩
/-- the arguments as they stand in the caller -/
inductive AR (K : FG) (G : Hp) (σ : L2.St) (r : Ev) : List Bool → List Op → List D → List V → Prop
  | nil : AR K G σ r [] [] [] []
  | va {m : List Bool} {o : Op} {os : List Op} {d : D} {v : V} {ds : List D} {vs : List V} : RD K G d v → AR K G σ r m os ds vs → AR K G σ r (false :: m) (o :: os) (d :: ds) (v :: vs)
  | io {m : List Bool} {i : Nat} {b : Bool} {os : List Op} {d : D} {v : V} {ds : List D} {vs : List V} : σ[i]? = some (some v) → r[i]? = some (.ow b d) → AR K G σ r m os ds vs → AR K G σ r (true :: m) (.br i :: os) (d :: ds) (v :: vs)
theorem fzo_ow {r r' : Ev} {o : Op} {d : D} (e : fzo r o = some (d, r')) {j : Nat} (h : isOw r'[j]? = true) : r'[j]? = r[j]? := by
  cases o with
  | fz _ => cases e; rfl
  | tm _ => cases e; rfl
  | br i =>
    unfold fzo at e
    cases q : r[i]? with
    | none => simp [q] at e
    | some s =>
      cases s with
      | no => simp [q] at e
      | va d' => simp only [q] at e; cases e; rfl
      | ow b d' =>
        cases b with
        | true => simp [q] at e
        | false =>
          simp only [q] at e; cases e
          exact List.getElem?_set_ne fun z => (isOw_set h).2 z.symm
theorem argsOf_ow : ∀ {m : List Bool} {os : List Op} {ds : List D} {r r' : Ev}, argsOf m os r = some (ds, r') → ∀ {j : Nat}, isOw r'[j]? = true → r'[j]? = r[j]?
  | [], [], _, _, _, e, _, _ => by cases e; rfl
  | false :: m, o :: os, ds, r, r', e, j, h => by
    unfold argsOf at e
    cases q : fzo r o with
    | none => simp [q] at e
    | some p =>
      obtain ⟨d, r1⟩ := p
      cases q2 : argsOf m os r1 with
      | none => simp [q, q2] at e
      | some p2 =>
        obtain ⟨ds2, r2⟩ := p2
        simp only [q, q2] at e; cases e
        have h1 := argsOf_ow q2 h
        rw [h1] at h
        exact h1.trans (fzo_ow q h)
  | true :: m, .br i :: os, ds, r, r', e, j, h => by
    unfold argsOf at e
    split at e
    · cases q2 : argsOf m os r with
      | none => simp [q2] at e
      | some p2 =>
        obtain ⟨ds2, r2⟩ := p2
        simp only [q2] at e; cases e
        exact argsOf_ow q2 h
    · cases e
  | true :: m, .fz _ :: os, _, _, _, e, _, _ => by cases e
  | true :: m, .tm _ :: os, _, _, _, e, _, _ => by cases e
  | [], _ :: _, _, _, _, e, _, _ => by cases e
  | false :: _, [], _, _, _, e, _, _ => by cases e
  | true :: _, [], _, _, _, e, _, _ => by cases e
theorem AR.mono {K : FG} {G G' : Hp} {σ : L2.St} {r : Ev} (sm : Same G G') : ∀ {m : List Bool} {os : List Op} {ds : List D} {vs : List V}, AR K G σ r m os ds vs → AR K G' σ r m os ds vs
  | _, _, _, _, .nil => .nil
  | _, _, _, _, .va a t => .va (a.mono sm) (AR.mono sm t)
  | _, _, _, _, .io a b t => .io a b (AR.mono sm t)
theorem argsOf_R {K : FG} {Z : Fr0} {σ : L2.St} {B H : Hp} : ∀ {m : List Bool} {os : List Op} {ds : List D} {vs : List V} {G : Hp} {r r' : Ev}, RS K Z G H r σ → RFs K Z σ B G H r os vs → argsOf m os r = some (ds, r') → (∀ i ∈ iosOf m os, isOw r'[i]? = true) →
    ∃ G', RS K Z G' H r' σ ∧ FZ Z σ B G r G' r' ∧ AR K G' σ r' m os ds vs
  | [], [], _, _, G, r, r', S, .nil, e, _ => by cases e; exact ⟨G, S, .refl, .nil⟩
  | false :: m, o :: os, ds, _, G, r, r', S, .cons a t, e, ho => by
    unfold argsOf at e
    cases q : fzo r o with
    | none => simp [q] at e
    | some p =>
      obtain ⟨d, r1⟩ := p
      cases q2 : argsOf m os r1 with
      | none => simp [q, q2] at e
      | some p2 =>
        obtain ⟨ds2, r2⟩ := p2
        simp only [q, q2] at e; cases e
        obtain ⟨G1, S1, rd, z1, k1⟩ := RF.fzo S a q
        obtain ⟨G2, S2, z2, ar⟩ := argsOf_R S1 (t.imp k1) q2 (fun i hi => ho i (by unfold iosOf; exact hi))
        exact ⟨G2, S2, z1.trans z2, .va (rd.mono z2.g) ar⟩
  | true :: m, .br i :: os, ds, _, G, r, r', S, .cons a t, e, ho => by
    unfold argsOf at e
    split at e
    · rename_i b d hb
      cases q2 : argsOf m os r with
      | none => simp [q2] at e
      | some p2 =>
        obtain ⟨ds2, r2⟩ := p2
        simp only [q2] at e; cases e
        obtain ⟨G2, S2, z2, ar⟩ := argsOf_R S t q2 (fun j hj => ho j (by unfold iosOf; exact List.mem_cons_of_mem _ hj))
        have hi := ho i (by unfold iosOf; exact List.mem_cons_self)
        have hs : σ[i]? = some (some _) := a.elim (fun a => a) fun ⟨_, z, _⟩ => nomatch z
        exact ⟨G2, S2, z2, .io hs ((argsOf_ow q2 hi).trans hb) ar⟩
    · cases e
  | true :: m, .fz _ :: os, _, _, _, _, _, _, _, e, _ => by cases e
  | true :: m, .tm _ :: os, _, _, _, _, _, _, _, e, _ => by cases e
  | [], _ :: _, _, _, _, _, _, _, _, e, _ => by cases e
  | false :: _, [], _, _, _, _, _, _, _, e, _ => by cases e
  | true :: _, [], _, _, _, _, _, _, _, e, _ => by cases e
section
variable {K : FG} {Z : Fr0} {σ : L2.St} {G H G' H' : Hp} {r : Ev}
theorem AR.args (S : RS K Z G H r σ) : ∀ {m : List Bool} {os : List Op} {ds : List D} {vs : List V}, AR K G σ r m os ds vs → ArgsR K G H m ds vs
  | _, _, _, _, .nil => .nil
  | _, _, _, _, .va a t => .va a (AR.args S t)
  | _, _, _, _, .io (i := i) a b t => by
    obtain ⟨p, e1, e2, e3, _⟩ := S.ow i _ _ b
    rw [a] at e1; cases e1
    exact .io e2 e3 (AR.args S t)
theorem AR.mem (S : RS K Z G H r σ) : ∀ {m : List Bool} {os : List Op} {ds : List D} {vs : List V}, AR K G σ r m os ds vs → ∀ a ∈ ioA m vs, ∃ i ∈ iosOf m os, σ[i]? = some (some (V.ref a)) ∧ isOw r[i]? = true
  | _, _, _, _, .nil, a, h => by cases h
  | _, _, _, _, .va _ t, a, h => by
    unfold ioA at h
    obtain ⟨i, h1, h2⟩ := AR.mem S t a h
    exact ⟨i, by unfold iosOf; exact h1, h2⟩
  | _, _, _, _, .io (i := i) hs hb t, a, h => by
    obtain ⟨p, e1, _⟩ := S.ow i _ _ hb
    rw [hs] at e1; cases e1
    unfold ioA at h
    rcases List.mem_cons.mp h with e | h
    · subst e
      exact ⟨i, by unfold iosOf; exact List.mem_cons_self, hs, by rw [hb]; rfl⟩
    · obtain ⟨j, h1, h2⟩ := AR.mem S t a h
      exact ⟨j, by unfold iosOf; exact List.mem_cons_of_mem _ h1, h2⟩
theorem AR.slot (S : RS K Z G H r σ) : ∀ {m : List Bool} {os : List Op} {ds : List D} {vs : List V}, AR K G σ r m os ds vs → ∀ i ∈ iosOf m os, ∃ b d, r[i]? = some (.ow b d)
  | _, _, _, _, .nil, i, h => by cases h
  | _, _, _, _, .va _ t, i, h => AR.slot S t i (by unfold iosOf at h; exact h)
  | _, _, _, _, .io hs hb t, i, h => by
    unfold iosOf at h
    rcases List.mem_cons.mp h with e | h
    · subst e; exact ⟨_, _, hb⟩
    · exact AR.slot S t i h
theorem AR.nodup (S : RS K Z G H r σ) : ∀ {m : List Bool} {os : List Op} {ds : List D} {vs : List V}, AR K G σ r m os ds vs → (iosOf m os).Nodup → (ioA m vs).Nodup
  | _, _, _, _, .nil, _ => .nil
  | _, _, _, _, .va _ t, h => by unfold iosOf at h; unfold ioA; exact AR.nodup S t h
  | _, _, _, _, .io (i := i) hs hb t, h => by
    obtain ⟨p, e1, _⟩ := S.ow i _ _ hb
    rw [hs] at e1; cases e1
    unfold iosOf at h
    rw [List.nodup_cons] at h
    unfold ioA
    refine List.nodup_cons.mpr ⟨fun k => ?_, AR.nodup S t h.2⟩
    obtain ⟨j, h1, h2, h3⟩ := AR.mem S t p k
    have : i = j := S.inj i j p (by rw [hb]; rfl) h3 hs h2
    subst this
    exact h.1 h1
/-- the slots behind a call: where a changed parameter stands, the new data -/
inductive PutR (K : FG) (G' H' : Hp) (σ : L2.St) (r : Ev) : List Nat → List D → List Addr → Prop
  | nil : PutR K G' H' σ r [] [] []
  | cons {i : Nat} {d : D} {a : Addr} {is : List Nat} {ds : List D} {as : List Addr} : σ[i]? = some (some (V.ref a)) → isOw r[i]? = true → G' a = none → RM K G' H' a d → PutR K G' H' σ r is ds as → PutR K G' H' σ r (i :: is) (d :: ds) (a :: as)
theorem AR.put (S : RS K Z G H r σ) : ∀ {m : List Bool} {os : List Op} {ds : List D} {vs : List V} {ios : List D}, AR K G σ r m os ds vs → IosR K G' H' (ioA m vs) ios → PutR K G' H' σ r (iosOf m os) ios (ioA m vs)
  | _, _, _, _, _, .nil, .nil => .nil
  | _, _, _, _, _, .va _ t, h => by unfold iosOf; unfold ioA at h ⊢; exact AR.put S t h
  | _, _, _, _, ios, .io (i := i) hs hb t, h => by
    obtain ⟨p, e1, _⟩ := S.ow i _ _ hb
    rw [hs] at e1; cases e1
    unfold iosOf
    unfold ioA at h ⊢
    cases h with
    | cons h1 h2 h3 => exact .cons hs (by rw [hb]; rfl) h1 h2 (AR.put S t h3)
theorem isOw_setow {r : Ev} {i j : Nat} {b : Bool} {d d0 : D} (h : r[i]? = some (.ow b d0)) : isOw (r.set i (.ow b d))[j]? = isOw r[j]? := by
  by_cases e : i = j
  · subst e
    have hl : i < r.length := (List.getElem?_eq_some_iff.mp h).1
    rw [List.getElem?_set_self hl, h]; rfl
  · rw [List.getElem?_set_ne e]
/-- one changed object: the slot is told anew -/
theorem put_ok {S0 : L2.St} {is : List Nat} {ds : List D} {as : List Addr} : ∀ {r : Ev}, is.Nodup → PutR K G' H' S0 r is ds as →
    (putIos is ds r).length = r.length ∧ (∀ j : Nat, isOw (putIos is ds r)[j]? = isOw r[j]?) ∧ (∀ j : Nat, j ∉ is → (putIos is ds r)[j]? = r[j]?) ∧ (∀ j ∈ is, ∃ b d a d0, r[j]? = some (.ow b d0) ∧ (putIos is ds r)[j]? = some (.ow b d) ∧ S0[j]? = some (some (V.ref a)) ∧ G' a = none ∧ RM K G' H' a d) := by
  induction is generalizing ds as with
  | nil => intro r _ h; cases h; exact ⟨rfl, fun _ => rfl, fun _ _ => rfl, fun _ h => nomatch h⟩
  | cons i is ih =>
    intro r nd h
    cases h with
    | @cons _ d a _ ds as h1 h2 h3 h4 h5 =>
    rw [List.nodup_cons] at nd
    obtain ⟨b, d0, hb⟩ := isOw_some h2
    have e : putIos (i :: is) (d :: ds) r = putIos is ds (r.set i (.ow b d)) := by
      conv => lhs; unfold putIos
      rw [hb]
    have h5' : PutR K G' H' S0 (r.set i (.ow b d)) is ds as := by
      clear ih e nd
      induction h5 with
      | nil => exact .nil
      | cons p1 p2 p3 p4 p5 ih => exact .cons p1 (by rw [isOw_setow hb]; exact p2) p3 p4 ih
    obtain ⟨q1, q2, q3, q4⟩ := ih nd.2 h5'
    rw [e]
    refine ⟨by rw [q1, List.length_set], fun j => by rw [q2, isOw_setow hb], fun j hj => ?_, fun j hj => ?_⟩
    · rw [List.mem_cons, not_or] at hj
      rw [q3 j hj.2, List.getElem?_set_ne (fun z => hj.1 z.symm)]
    · by_cases hji : j = i
      · subst hji
        have hl : j < r.length := (List.getElem?_eq_some_iff.mp hb).1
        exact ⟨b, d, a, d0, hb, by rw [q3 j nd.1, List.getElem?_set_self hl], h1, h3, h4⟩
      · obtain ⟨b', d', a', d0', p1, p2, p3⟩ := q4 j ((List.mem_cons.mp hj).resolve_left hji)
        rw [List.getElem?_set_ne (fun z => hji z.symm)] at p1
        exact ⟨b', d', a', d0', p1, p2, p3⟩
/-- the state behind a call -/
theorem RS.called (S : RS K Z G H r σ) {is : List Nat} {ds : List D} {ia : List Addr} (nd : is.Nodup) (c : CE ia G H G' H') (hia : ∀ a ∈ ia, ∃ i ∈ is, σ[i]? = some (some (V.ref a)) ∧ isOw r[i]? = true) (hp : PutR K G' H' σ r is ds ia) :
    RS K Z G' H' (putIos is ds r) σ ∧ EX σ G H r G' H' (putIos is ds r) := by
  obtain ⟨q1, q2, q3, q4⟩ := put_ok nd hp
  have own_ia : ∀ a ∈ ia, ownAt r σ a := fun a ha => let ⟨i, _, h1, h2⟩ := hia a ha; ⟨i, h2, h1⟩
  have gnone : ∀ a u, H a = some u → G a = none → G' a = none := fun a u h g => by
    cases q : G' a with
    | none => rfl
    | some w =>
      rcases c.f a w q with k | k
      · rw [g] at k; cases k
      · rw [h] at k; cases k
  refine ⟨⟨q1.trans S.len, c.sg, S.g0.trans c.g, fun a u h n => ?_, fun a h => S.dm a (c.n a h), fun a u h => ?_, fun i d h => ?_, fun i b d h => ?_, fun i j a hi hj => ?_⟩, ⟨c.g, fun a u h n => c.h a u h fun k => n (own_ia a k), c.n, fun a u h => (c.f a u h).elim .inl fun k => .inr (.inl k), fun a ⟨i, h1, h2⟩ => ⟨i, by rw [← q2]; exact h1, h2⟩⟩⟩
  · refine c.h a u (S.h0 a u h n) fun k => ?_
    obtain ⟨i, h1, h2⟩ := own_ia a k
    obtain ⟨b, d, h3⟩ := isOw_some h1
    obtain ⟨a', e1, _, _, e4⟩ := S.ow i b d h3
    rw [h2] at e1; cases e1
    cases b with
    | true => exact n e4
    | false =>
      have e4' : Z.H0 a = none := e4
      rw [h] at e4'; cases e4'
  · rcases c.f a u h with k | k
    · exact S.fr a u k
    · exact .inr (S.dm a k)
  · by_cases hi : i ∈ is
    · obtain ⟨b, d', a, d0, _, p2, _⟩ := q4 i hi
      rw [h] at p2; cases p2
    · rw [q3 i hi] at h
      obtain ⟨v, e1, e2⟩ := S.va i d h
      exact ⟨v, e1, e2.mono c.g⟩
  · by_cases hi : i ∈ is
    · obtain ⟨b', d', a, d0, p1, p2, p3, p4, p5⟩ := q4 i hi
      rw [h] at p2; cases p2
      obtain ⟨a', e1, _, _, e4⟩ := S.ow i _ _ p1
      rw [p3] at e1; cases e1
      exact ⟨a, p3, p4, p5, e4⟩
    · rw [q3 i hi] at h
      obtain ⟨a, e1, e2, e3, e4⟩ := S.ow i b d h
      obtain ⟨u, hu⟩ := e3.there
      have na : a ∉ ia := fun k => by
        obtain ⟨j, hj, h1, h2⟩ := hia a k
        exact hi (S.inj i j a (by rw [h]; rfl) h2 e1 h1 ▸ hj)
      exact ⟨a, e1, gnone a u hu e2, e3.at c.g ((c.h a u hu na).trans hu.symm), e4⟩
  · rw [q2] at hi hj
    exact S.inj i j a hi hj
end
section
variable {X : Cx} {W : WX} {e : Expr} {es : List Expr} {pos : Pos} {f : A}
theorem de_call {k : Nat} {fA : Addr} {fd : FuncData} {ps : List Str} {m : List Bool} {F : FD} {x : Str} {p : Pos} (FO : FnOk X.prog X.w X.K X.mg X.base (L2.CX X.prog X.w) k fA fd ps (spD X.mg X.K m F)) (hr : Room k X.A) (tk : Takes X W) (hg : Gl X x) (hm : X.mg x = some (.ref fA))
    (hk : PySem.W.keepIn X.K (.ref fA) = true) (hb : Binds X.K fd ps []) (ha : DA X W (e :: es) f) (hdb : (x == ("__debug__" : Str)) = false := by decide) (he : starEach (e :: es) X.env = (false, eval e X.env) :: starEach es X.env := by rfl)
    (hpl : (backTo pos (starEach es X.env)).any (·.1) = false := by rfl) : DE X W (.Call (.Name x p) (e :: es) [] pos) (eCall m F f) := by
  obtain ⟨t, pt, qt⟩ := ha.ex
  refine ⟨_, pe_callS (E := WE W) FO hr hg hm hk hb (passAt tk) pt hdb he hpl, fun Z σ G H r Q S hp => qt Z σ G H r _ S ?_⟩
  unfold eCall at hp
  cases e1 : f r with
  | ok os r1 =>
    simp only [e1] at hp
    intro vs G1 H1 S1 X1 R1
    cases e2 : argsOf m os r1 with
    | none => simp only [e2] at hp; exact hp.elim
    | some p2 =>
      obtain ⟨ds, r2⟩ := p2
      simp only [e2] at hp
      split at hp
      · rename_i hnd
        obtain ⟨G2, S2, z2, ar⟩ := argsOf_R S1 (ROs.rf R1) e2 hnd.2
        have X2 := z2.ex X1
        refine ⟨G2, ds, S2.sg, ar.args S2, ar.nodup S2 hnd.1, ?_⟩
        cases e3 : F ds with
        | ok o ios =>
          simp only [e3] at hp
          intro v G' H' c ir fr
          obtain ⟨S3, X3⟩ := S2.called hnd.1 c (ar.mem S2) (ar.put S2 ir)
          refine hp v G' H' S3 (X2.trans X3) ?_
          cases o with
          | fz d => exact fr
          | br i => exact fr.elim
          | tm d =>
            obtain ⟨a, ea, g0, h1, rm⟩ := fr
            refine ⟨a, ea, g0, ⟨S2.dm a h1, X2.n a h1⟩, fun k => ?_, rm⟩
            obtain ⟨i, k1, k2⟩ := X3.o a k
            obtain ⟨b, d', k3⟩ := isOw_some k1
            obtain ⟨a', w1, _, w3, _⟩ := S2.ow i b d' k3
            rw [k2] at w1; cases w1
            obtain ⟨u, hu⟩ := w3.there
            rw [h1] at hu; cases hu
        | err c ios =>
          simp only [e3] at hp
          intro C G' H' ce ir hC
          obtain ⟨S3, X3⟩ := S2.called hnd.1 ce (ar.mem S2) (ar.put S2 ir)
          exact hp C G' H' S3 (X2.trans X3) hC
        | bad => simp only [e3] at hp; exact hp.elim
      · exact hp.elim
  | err c r1 => simp only [e1] at hp; exact hp
  | bad => simp only [e1] at hp; exact hp.elim
end
end DL
end

section
set_option Elab.async false
set_option linter.all false
set_option maxRecDepth 100000
set_option autoImplicit false
/-! DL9: statements over data. -/
namespace DL
open PySem PySem.Spec PyProof.Rows L2
def RetR (K : FG) (Z : Fr0) (σ : L2.St) (G H : Hp) (r : Ev) : Op → V → Prop
  | .fz d, v => RD K G d v
  | .tm d, v => ∃ a, v = .ref a ∧ G a = none ∧ Z.H0 a = none ∧ ¬ ownAt r σ a ∧ RM K G H a d
  | .br _, _ => False
def SPost (X : Cx) (W : WX) (Z : Fr0) (D : Ends) : SOut → Prop
  | .nx r => ∀ σ G H, RS X.K Z G H r σ → D.nx σ H
  | .brk r => ∀ σ G H, RS X.K Z G H r σ → D.bk σ H
  | .cnt r => ∀ σ G H, RS X.K Z G H r σ → D.ct σ H
  | .ret o r => ∀ v σ G H, RS X.K Z G H r σ → RetR X.K Z σ G H r o v → D.rt v H
  | .err c r => ∀ C σ G H, RS X.K Z G H r σ → X.mg c = some (.ref C) → W (.ref C) none σ H
  | .bad => False
structure DS (X : Cx) (W : WX) (s : Stmt) (f : S) : Prop where
  ex : ∃ t : L2.TS, PS X s t ∧ ∀ (Z : Fr0) (σ : L2.St) (G H : Hp) (r : Ev) (D : Ends), RS X.K Z G H r σ → SPost X W Z D (f r) → t D σ H
structure DB (X : Cx) (W : WX) (s : List Stmt) (f : S) : Prop where
  ex : ∃ t : L2.TS, PSs X s t ∧ ∀ (Z : Fr0) (σ : L2.St) (G H : Hp) (r : Ev) (D : Ends), RS X.K Z G H r σ → SPost X W Z D (f r) → t D σ H
section
variable {K : FG} {Z : Fr0} {σ : L2.St} {B G H : Hp} {r r' : Ev}
theorem RS.setVa (S : RS K Z G H r σ) {i : Nat} {d : D} {v : V} (rd : RD K G d v) : RS K Z G H (r.set i (.va d)) (σ.set i (some v)) := by
  have L := S.len
  refine ⟨by simp [L], S.sg, S.g0, S.h0, S.dm, S.fr, fun j d' q => ?_, fun j b d' q => ?_, fun j k a p q e1 e2 => ?_⟩
  · by_cases e : i = j
    · subst e
      have hl : i < r.length := by simpa using (List.getElem?_eq_some_iff.mp q).1
      rw [List.getElem?_set_self hl] at q; cases q
      exact ⟨v, by rw [List.getElem?_set_self (by rw [← L]; exact hl)], rd⟩
    · rw [List.getElem?_set_ne e] at q ⊢
      exact S.va j d' q
  · by_cases e : i = j
    · subst e
      have hl : i < r.length := by simpa using (List.getElem?_eq_some_iff.mp q).1
      rw [List.getElem?_set_self hl] at q; cases q
    · rw [List.getElem?_set_ne e] at q ⊢
      exact S.ow j b d' q
  · obtain ⟨p, np⟩ := isOw_set p
    obtain ⟨q, nq⟩ := isOw_set q
    rw [List.getElem?_set_ne (Ne.symm np)] at e1
    rw [List.getElem?_set_ne (Ne.symm nq)] at e2
    exact S.inj j k a p q e1 e2
theorem isOw_set2 {i j : Nat} {s : Sl} (h : isOw (r.set i s)[j]? = true) : j = i ∨ isOw r[j]? = true := by
  by_cases e : i = j
  · exact .inl e.symm
  · rw [List.getElem?_set_ne e] at h; exact .inr h
theorem RS.setOw (S : RS K Z G H r σ) {i : Nat} {d : D} {a : Addr} (g0 : G a = none) (h0 : Z.H0 a = none) (no : ¬ ownAt r σ a) (rm : RM K G H a d) : RS K Z G H (r.set i (.ow false d)) (σ.set i (some (.ref a))) := by
  have L := S.len
  refine ⟨by simp [L], S.sg, S.g0, S.h0, S.dm, S.fr, fun j d' q => ?_, fun j b d' q => ?_, fun j k b p q e1 e2 => ?_⟩
  · by_cases e : i = j
    · subst e
      have hl : i < r.length := by simpa using (List.getElem?_eq_some_iff.mp q).1
      rw [List.getElem?_set_self hl] at q; cases q
    · rw [List.getElem?_set_ne e] at q ⊢
      exact S.va j d' q
  · by_cases e : i = j
    · subst e
      have hl : i < r.length := by simpa using (List.getElem?_eq_some_iff.mp q).1
      rw [List.getElem?_set_self hl] at q; cases q
      exact ⟨a, by rw [List.getElem?_set_self (by rw [← L]; exact hl)], g0, rm, h0⟩
    · rw [List.getElem?_set_ne e] at q ⊢
      exact S.ow j b d' q
  · have old : ∀ j, isOw (r.set i (.ow false d))[j]? = true → (σ.set i (some (V.ref a)))[j]? = some (some (V.ref b)) → j ≠ i → isOw r[j]? = true ∧ σ[j]? = some (some (V.ref b)) := fun j h1 h2 n => by
      rw [List.getElem?_set_ne (Ne.symm n)] at h1 h2; exact ⟨h1, h2⟩
    have new : ∀ j, isOw (r.set i (.ow false d))[j]? = true → (σ.set i (some (V.ref a)))[j]? = some (some (V.ref b)) → j = i → b = a := fun j h1 h2 n => by
      subst n
      by_cases hl : j < r.length
      · rw [List.getElem?_set_self (by rw [← L]; exact hl)] at h2; cases h2; rfl
      · rw [List.getElem?_eq_none (by simpa using hl)] at h1; cases h1
    by_cases hj : j = i
    · by_cases hk : k = i
      · rw [hj, hk]
      · obtain ⟨o1, o2⟩ := old k q e2 hk
        have := new j p e1 hj
        subst this
        exact absurd ⟨k, o1, o2⟩ no
    · obtain ⟨o1, o2⟩ := old j p e1 hj
      by_cases hk : k = i
      · have := new k q e2 hk
        subst this
        exact absurd ⟨j, o1, o2⟩ no
      · obtain ⟨p1, p2⟩ := old k q e2 hk
        exact S.inj j k b o1 p1 o2 p2
/-- a value is kept in slot i -/
theorem RS.keep (S : RS K Z G H r σ) {i : Nat} {o : Op} {v : V} (h : RO K Z σ B G H r o v) (e : keep i o r = some r') : ∃ G', RS K Z G' H r' (σ.set i (some v)) := by
  cases o with
  | fz d => cases e; exact ⟨G, S.setVa h⟩
  | tm d =>
    cases e
    obtain ⟨a, ea, g0, h0, no, rm⟩ := h
    subst ea
    exact ⟨G, S.setOw g0 h0.1 no rm⟩
  | br j =>
    unfold DL.keep at e
    cases q : DL.fzo r (.br j) with
    | none => simp [q] at e
    | some p =>
      obtain ⟨d, r1⟩ := p
      simp only [q] at e; cases e
      obtain ⟨G', S', rd, _⟩ := RO.fzo S h q
      exact ⟨G', S'.setVa rd⟩
/-- the object in slot i is changed -/
theorem RS.mutate (S : RS K Z G H r σ) {i : Nat} {b : Bool} {d d' : D} {a : Addr} {u : HO} (hr : r[i]? = some (.ow b d)) (hs : σ[i]? = some (some (.ref a))) (rm : RM K G (upd H a u) a d') :
    RS K Z G (upd H a u) (r.set i (.ow b d')) σ ∧ EX σ G H r G (upd H a u) (r.set i (.ow b d')) := by
  obtain ⟨a', e1, g0, m0, e4⟩ := S.ow i b d hr
  rw [hs] at e1; cases e1
  obtain ⟨u0, hu0⟩ := m0.there
  have hi : i < r.length := (List.getElem?_eq_some_iff.mp hr).1
  have iso : ∀ j, isOw (r.set i (.ow b d'))[j]? = isOw r[j]? := fun j => isOw_setow hr
  have oth : ∀ c, c ≠ a → upd H a u c = H c := fun c h => upd_ne h
  refine ⟨⟨by rw [List.length_set]; exact S.len, fun c o h => ?_, S.g0, fun c o h n => ?_, fun c h => ?_, S.fr, fun j e q => ?_, fun j b' e q => ?_, fun j k c p q => S.inj j k c (by rw [← iso]; exact p) (by rw [← iso]; exact q)⟩, ⟨Same.refl _, fun c o h n => ?_, fun c h => ?_, fun _ _ h => .inl h, fun c ⟨j, p, q⟩ => ⟨j, by rw [← iso]; exact p, q⟩⟩⟩
  · rw [oth c fun z => by subst z; rw [g0] at h; cases h]; exact S.sg c o h
  · rw [oth c fun z => ?_]
    · exact S.h0 c o h n
    · subst z
      cases b with
      | true => exact n e4
      | false =>
        have e4' : Z.H0 c = none := e4
        rw [h] at e4'; cases e4'
  · by_cases z : c = a
    · subst z; rw [upd_same] at h; cases h
    · rw [oth c z] at h; exact S.dm c h
  · have hj : i ≠ j := fun z => by subst z; rw [List.getElem?_set_self hi] at q; cases q
    rw [List.getElem?_set_ne hj] at q
    exact S.va j e q
  · by_cases hj : i = j
    · subst hj
      rw [List.getElem?_set_self hi] at q; cases q
      exact ⟨a, hs, g0, rm, e4⟩
    · rw [List.getElem?_set_ne hj] at q
      obtain ⟨c, p1, p2, p3, p4⟩ := S.ow j b' e q
      have nc : c ≠ a := fun z => hj (S.inj i j a (by rw [hr]; rfl) (by rw [q]; rfl) hs (by rw [← z]; exact p1))
      exact ⟨c, p1, p2, p3.at (Same.refl _) (oth c nc), p4⟩
  · rw [oth c fun z => n ⟨i, by rw [hr]; rfl, by rw [z]; exact hs⟩]; exact h
  · by_cases z : c = a
    · subst z; rw [upd_same] at h; cases h
    · rw [oth c z] at h; exact h
end
section
variable {X : Cx} {W : WX} {e : Expr} {st : Stmt} {rest : List Stmt} {f g : S} {fa fb : E} {pos : Pos}
theorem db_nil : DB X W [] sNext := ⟨_, pss_nil, fun Z σ G H r D S p => p σ G H S⟩
theorem db_cons (h : DS X W st f) (k : DB X W rest g) : DB X W (st :: rest) (sSeq f g) := by
  obtain ⟨t, p, q⟩ := h.ex
  obtain ⟨t2, p2, q2⟩ := k.ex
  refine ⟨_, pss_cons p p2, fun Z σ G H r D S hp => q Z σ G H r _ S ?_⟩
  unfold sSeq at hp
  cases e1 : f r with
  | nx r1 => simp only [e1] at hp; exact fun σ1 G1 H1 S1 => q2 Z σ1 G1 H1 r1 D S1 hp
  | _ => simp only [e1] at hp; exact hp
theorem db_one (h : DS X W st f) : DB X W [st] f := by
  obtain ⟨t, p, q⟩ := h.ex
  exact ⟨_, pss_one p, q⟩
theorem ds_pass : DS X W (.Pass pos) sNext := ⟨_, ps_pass, fun Z σ G H r D S p => p σ G H S⟩
theorem ds_break : DS X W (.Break pos) sBreak := ⟨_, ps_break, fun Z σ G H r D S p => p σ G H S⟩
theorem ds_cont : DS X W (.Continue pos) sCont := ⟨_, ps_continue, fun Z σ G H r D S p => p σ G H S⟩
theorem ds_expr (he : DE X W e fa) (hs : swapsWith e none pos.line X.env = pure false := by rfl) : DS X W (.Expr e pos) (sExpr fa) := by
  obtain ⟨t, p, q⟩ := he.ex
  refine ⟨_, ps_expr p hs, fun Z σ G H r D S hp => q Z σ G H r _ S ?_⟩
  unfold sExpr at hp
  cases e1 : fa r with
  | ok o r1 => simp only [e1] at hp; exact fun v G1 H1 S1 X1 R1 => hp σ G1 H1 S1
  | err c r1 => simp only [e1] at hp; exact fun C G1 H1 S1 X1 m => hp C σ G1 H1 S1 m
  | bad => simp only [e1] at hp; exact hp.elim
theorem ds_set {i : Nat} {x : Str} {pos' : Pos} (hN : X.N.Nodup) (hi : X.N[i]? = some x) (hx : Loc X.env.scope x) (he : DE X W e fa) (hs : swapsWith e (some (.Name x pos')) pos.line X.env = pure false := by rfl)
    (hf : X.fn x = true ∨ X.env.scope.names.lookup x = some .local := by first | exact .inl rfl | exact .inr rfl | assumption) : DS X W (.Assign [.Name x pos'] e pos) (sSet i fa) := by
  obtain ⟨t, p, q⟩ := he.ex
  refine ⟨_, ps_set hN hi hx p hs hf, fun Z σ G H r D S hp => q Z σ G H r _ S ?_⟩
  unfold sSet at hp
  cases e1 : fa r with
  | ok o r1 =>
    simp only [e1] at hp
    intro v G1 H1 S1 X1 R1
    cases e2 : keep i o r1 with
    | none => simp only [e2] at hp; exact hp.elim
    | some r2 =>
      simp only [e2] at hp
      obtain ⟨G2, S2⟩ := S1.keep R1 e2
      exact hp _ G2 H1 S2
  | err c r1 => simp only [e1] at hp; exact fun C G1 H1 S1 X1 m => hp C σ G1 H1 S1 m
  | bad => simp only [e1] at hp; exact hp.elim
theorem ds_ret (he : DE X W e fa) : DS X W (.Return (some e) pos) (sRet fa) := by
  obtain ⟨t, p, q⟩ := he.ex
  refine ⟨_, ps_ret p, fun Z σ G H r D S hp => q Z σ G H r _ S ?_⟩
  unfold sRet at hp
  cases e1 : fa r with
  | ok o r1 =>
    simp only [e1] at hp
    intro v G1 H1 S1 X1 R1
    cases o with
    | fz d => exact hp v σ G1 H1 S1 R1
    | tm d =>
      obtain ⟨a, ea, g0, h0, no, rm⟩ := R1
      exact hp v σ G1 H1 S1 ⟨a, ea, g0, h0.1, no, rm⟩
    | br i =>
      have R1' : σ[i]? = some (some v) := R1
      dsimp only at hp
      cases q : r1[i]? with
      | none => simp only [q] at hp; exact hp.elim
      | some s =>
        cases s with
        | no => simp only [q] at hp; exact hp.elim
        | va d =>
          simp only [q] at hp
          obtain ⟨v', w1, w2⟩ := S1.va i d q
          rw [R1'] at w1; cases w1
          exact hp v σ G1 H1 S1 w2
        | ow b d =>
          cases b with
          | true => simp only [q] at hp; exact hp.elim
          | false =>
            simp only [q] at hp
            obtain ⟨a, w1, w2, w3, w4⟩ := S1.ow i _ d q
            rw [R1'] at w1; cases w1
            have iso : ∀ j, isOw (r1.set i .no)[j]? = true → isOw r1[j]? = true ∧ j ≠ i := fun j h => by
              by_cases z : i = j
              · subst z
                rw [List.getElem?_set_self (List.getElem?_eq_some_iff.mp q).1] at h; cases h
              · rw [List.getElem?_set_ne z] at h; exact ⟨h, fun k => z k.symm⟩
            refine hp _ σ G1 H1 ⟨by rw [List.length_set]; exact S1.len, S1.sg, S1.g0, S1.h0, S1.dm, S1.fr, fun j d' k => ?_, fun j b d' k => ?_, fun j k b p p2 => S1.inj j k b (iso j p).1 (iso k p2).1⟩ ⟨a, rfl, w2, w4, fun ⟨j, k1, k2⟩ => ?_, w3⟩
            · have z : i ≠ j := fun z => by subst z; rw [List.getElem?_set_self (List.getElem?_eq_some_iff.mp q).1] at k; cases k
              rw [List.getElem?_set_ne z] at k; exact S1.va j d' k
            · have z : i ≠ j := fun z => by subst z; rw [List.getElem?_set_self (List.getElem?_eq_some_iff.mp q).1] at k; cases k
              rw [List.getElem?_set_ne z] at k; exact S1.ow j b d' k
            · obtain ⟨k1, n⟩ := iso j k1
              exact n (S1.inj j i a k1 (by rw [q]; rfl) k2 R1')
  | err c r1 => simp only [e1] at hp; exact fun C G1 H1 S1 X1 m => hp C σ G1 H1 S1 m
  | bad => simp only [e1] at hp; exact hp.elim
theorem ds_retN : DS X W (.Return none pos) sRetN := ⟨_, ps_retN, fun Z σ G H r D S p => p _ σ G H S .non⟩
theorem ds_if {c : Expr} {a b : List Stmt} {t : T} (hc : DT X W c t) (ha : DB X W a f) (hb : DB X W b g) : DS X W (.If c a b pos) (sIf t f g) := by
  obtain ⟨t1, p1, q1⟩ := hc.ex
  obtain ⟨t2, p2, q2⟩ := ha.ex
  obtain ⟨t3, p3, q3⟩ := hb.ex
  refine ⟨_, ps_if p1 p2 p3, fun Z σ G H r D S hp => q1 Z σ G H r _ S ?_⟩
  unfold sIf at hp
  cases e1 : t r with
  | ok k r1 =>
    cases k with
    | true => simp only [e1] at hp; exact fun G1 H1 S1 X1 => iteT (q2 Z σ G1 H1 r1 D S1 hp)
    | false => simp only [e1] at hp; exact fun G1 H1 S1 X1 => iteF (q3 Z σ G1 H1 r1 D S1 hp)
  | err c r1 => simp only [e1] at hp; exact fun C G1 H1 S1 X1 m => hp C σ G1 H1 S1 m
  | bad => simp only [e1] at hp; exact hp.elim
theorem ds_aug {i : Nat} {x : Str} {pos' : Pos} {op : Operator} {gg : D → D → Option Op} (hN : X.N.Nodup) (hi : X.N[i]? = some x) (hx : Loc X.env.scope x) (ho : OpD X (inplaceOp op) gg) (he : DE X W e fa)
    (hf : X.fn x = true ∨ X.env.scope.names.lookup x = some .local := by first | exact .inl rfl | exact .inr rfl | assumption) : DS X W (.AugAssign (.Name x pos') op e pos) (sAug i gg fa) := by
  obtain ⟨t, p, q⟩ := he.ex
  obtain ⟨rr, po, qo⟩ := ho
  refine ⟨_, ps_aug hN hi hx p po hf, fun Z σ G H r D S hp => ?_⟩
  unfold sAug at hp
  cases e0 : r[i]? with
  | none => simp only [e0] at hp; exact hp.elim
  | some s =>
    cases s with
    | no => simp only [e0] at hp; exact hp.elim
    | ow b d => simp only [e0] at hp; exact hp.elim
    | va d =>
      simp only [e0] at hp
      obtain ⟨v, w1, w2⟩ := S.va i d e0
      refine ⟨v, w1, q Z σ G H r _ S ?_⟩
      cases e1 : fa r with
      | ok o r1 =>
        simp only [e1] at hp
        intro y G1 H1 S1 X1 R1
        cases e2 : rsv r1 o with
        | none => simp only [e2] at hp; exact hp.elim
        | some dy =>
          cases e3 : gg d dy with
          | none => simp only [e2, e3] at hp; exact hp.elim
          | some z =>
            simp only [e2, e3] at hp
            cases z with
            | fz dz =>
              refine qo Z σ G1 H1 r1 v y d dy (.fz dz) _ S1 ((w2.mono X1.g).rh S1.sg) (R1.rsv S1 e2) e3 fun v2 G2 H2 S2 X2 R2 => ?_
              exact hp _ G2 H2 (S2.setVa R2)
            | _ => exact hp.elim
      | err c r1 => simp only [e1] at hp; exact fun C G1 H1 S1 X1 m => hp C σ G1 H1 S1 m
      | bad => simp only [e1] at hp; exact hp.elim
/-! ### targets -/
def Tg.slots : Tg → List Nat
  | .one i => [i]
  | .many is => is
structure DG (X : Cx) (target : Expr) (t : Tg) : Prop where
  ex : ∃ g : L2.TG, PG X target g ∧ ∀ (Z : Fr0) (σ : L2.St) (G H : Hp) (r r' : Ev) (d : D) (v : V) (Q : L2.St → Hp → Prop), RS X.K Z G H r σ → RD X.K G d v → t.put d r = some r' →
    (∀ σ', RS X.K Z G H r' σ' → (σ'.length = σ.length ∧ ∀ i, i ∉ t.slots → σ'[i]? = σ[i]?) → Q σ' H) → g v σ H Q
theorem dg_one {i : Nat} {x : Str} (h : PG X (.Name x pos) (gName i)) : DG X (.Name x pos) (.one i) := by
  refine ⟨_, h, fun Z σ G H r r' d v Q S rd e k => ?_⟩
  cases e
  refine k _ (S.setVa rd) ⟨List.length_set, fun j hj => ?_⟩
  exact List.getElem?_set_ne fun z => hj (by subst z; exact List.mem_cons_self)
structure DGs (X : Cx) (es : List Expr) (is : List Nat) : Prop where
  ex : ∃ g : TGs, PGs X es g ∧ ∀ (Z : Fr0) (σ : L2.St) (G H : Hp) (r r' : Ev) (ds : List D) (vs : List V) (Q : L2.St → Hp → Prop), RS X.K Z G H r σ → RDs X.K G ds vs → setAll is ds r = some r' →
    (∀ σ', RS X.K Z G H r' σ' → (σ'.length = σ.length ∧ ∀ i, i ∉ is → σ'[i]? = σ[i]?) → Q σ' H) → g vs σ H Q
theorem dgs_nil : DGs X [] [] := by
  refine ⟨_, pgs_nil, fun Z σ G H r r' ds vs Q S rd e k => ?_⟩
  cases ds with
  | nil => cases rd; cases e; exact ⟨rfl, k σ S ⟨rfl, fun _ _ => rfl⟩⟩
  | cons _ _ => cases e
theorem dgs_cons {i : Nat} {is : List Nat} {x : Str} {es : List Expr} (h : PG X (.Name x pos) (gName i)) (k : DGs X es is) (hs : (assignEach (.Name x pos :: es) X.env).map (·.2) = assign (.Name x pos) X.env :: (assignEach es X.env).map (·.2) := by rfl) : DGs X (.Name x pos :: es) (i :: is) := by
  obtain ⟨g, p, q⟩ := k.ex
  refine ⟨_, pgs_cons h p hs, fun Z σ G H r r' ds vs Q S rd e k => ?_⟩
  cases ds with
  | nil => cases e
  | cons d ds =>
    cases rd with
    | @cons _ v _ vs r1 r2 =>
    refine ⟨v, vs, rfl, q Z _ G H _ r' ds vs Q (S.setVa r1) r2 e fun σ' S' ⟨l, o⟩ => k σ' S' ⟨l.trans List.length_set, fun j hj => ?_⟩⟩
    rw [List.mem_cons, not_or] at hj
    rw [o j hj.2, List.getElem?_set_ne fun z => hj.1 z.symm]
theorem setAll_len : ∀ {is : List Nat} {ds : List D} {r r' : Ev}, setAll is ds r = some r' → ds.length = is.length
  | [], [], _, _, _ => rfl
  | _ :: is, _ :: ds, _, _, e => congrArg (· + 1) (setAll_len (is := is) (ds := ds) e)
  | [], _ :: _, _, _, e => by cases e
  | _ :: _, [], _, _, e => by cases e
theorem dg_many {es : List Expr} {is : List Nat} {k : Nat} {n : Nat} (hc : X.calm = true) (h : DGs X es is) (hl : is.length = n := by rfl)
    (hn : (assignEach es X.env).length = n := by rfl) (hst : (assignEach es X.env).findIdx? (·.1) = none := by rfl) : DG X (.Tuple es k pos) (.many is) := by
  obtain ⟨g, p, q⟩ := h.ex
  refine ⟨_, pg_tup hc p hn hst, fun Z σ G H r r' d v Q S rd e k => ?_⟩
  cases d <;> first | (cases e; done) | skip
  · cases rd with | tup h1 h2 =>
    exact ⟨_, _, rfl, .inl (.inl (S.sg _ _ h1)), by rw [← h2.length, setAll_len e, hl], q Z σ G H r r' _ _ Q S h2 e k⟩
  · cases rd with | ktp h1 h2 =>
    exact ⟨_, _, rfl, Same.seqT S.sg h1, by rw [← h2.length, setAll_len e, hl], q Z σ G H r r' _ _ Q S h2 e k⟩
theorem ds_unp {tg : Expr} {t : Tg} (hg : DG X tg t) (he : DE X W e fa) (hs : swapsWithSole [tg] e pos.line X.env = pure false := by rfl) (hw : swappedStores [tg] e X.env = pure none := by rfl)
    (h1 : (assignEach [tg] X.env).map (·.2) = [assign tg X.env] := by rfl) : DS X W (.Assign [tg] e pos) (sUnp t fa) := by
  obtain ⟨te, p, q⟩ := he.ex
  obtain ⟨g, pg, qg⟩ := hg.ex
  refine ⟨_, ps_asg p pg hs hw h1, fun Z σ G H r D S hp => q Z σ G H r _ S ?_⟩
  unfold sUnp at hp
  cases e1 : fa r with
  | ok o r1 =>
    simp only [e1] at hp
    intro v G1 H1 S1 X1 R1
    cases e2 : fzo r1 o with
    | none => simp only [e2] at hp; exact hp.elim
    | some p2 =>
      obtain ⟨d, r2⟩ := p2
      simp only [e2] at hp
      obtain ⟨G2, S2, rd, _⟩ := RO.fzo S1 R1 e2
      cases e3 : t.put d r2 with
      | none => simp only [e3] at hp; exact hp.elim
      | some r3 =>
        simp only [e3] at hp
        exact qg Z σ G2 H1 r2 r3 d v _ S2 rd e3 fun σ' S' _ => hp σ' G2 H1 S'
  | err c r1 => simp only [e1] at hp; exact fun C G1 H1 S1 X1 m => hp C σ G1 H1 S1 m
  | bad => simp only [e1] at hp; exact hp.elim
end
end DL
end

section
set_option Elab.async false
set_option linter.all false
set_option maxRecDepth 100000
set_option autoImplicit false
/-! DL10: lists and dicts changed, loops, raise over data. -/
namespace DL
open PySem PySem.Spec PyProof.Rows L2
section
variable {X : Cx} {W : WX} {e o : Expr} {es : List Expr} {st : Stmt} {f g : S} {fa fb fk fv : E} {fas : A} {pos : Pos}
/-! ### a list's methods -/
def MutD (X : Cx) (id : String) (gg : D → List D → Option (D × Op)) : Prop :=
  ∃ rr : V → List V → Hp → VK → Prop, MtR X id rr ∧ ∀ (G H : Hp) (a : Addr) (d d' : D) (ds : List D) (vs : List V) (z : Op) (Q : VK), Same G H → RM X.K G H a d → RDs X.K G ds vs → gg d ds = some (d', z) →
    (∀ u v, RM X.K G (upd H a u) a d' → (∃ dz, z = .fz dz ∧ RD X.K G dz v) → Q v (upd H a u)) → rr (.ref a) vs H Q
theorem mut_core {id : String} {gg : D → List D → Option (D × Op)} {rr : V → List V → Hp → VK → Prop} {i : Nat} {t : L2.TA} {Z : Fr0} {σ : L2.St} {G H : Hp} {r : Ev} {Q : VK}
    (q : ∀ (Z : Fr0) (σ : L2.St) (G H : Hp) (r : Ev) (Q : List V → Hp → Prop), RS X.K Z G H r σ → APost X W Z σ G H r Q (fas r) → t σ H Q)
    (hr : ∀ (G H : Hp) (a : Addr) (d d' : D) (ds : List D) (vs : List V) (z : Op) (Q : VK), Same G H → RM X.K G H a d → RDs X.K G ds vs → gg d ds = some (d', z) →
      (∀ u v, RM X.K G (upd H a u) a d' → (∃ dz, z = .fz dz ∧ RD X.K G dz v) → Q v (upd H a u)) → rr (.ref a) vs H Q)
    (S : RS X.K Z G H r σ) (hp : EPost X W Z σ G H r Q (eMut i gg fas r)) : ∃ v, σ[i]? = some (some v) ∧ tyV X.K "list" v H ∧ t σ H fun xs H2 => rr v xs H2 Q := by
  unfold eMut at hp
  split at hp
  · rename_i hl
    obtain ⟨b0, xs0, e0⟩ : ∃ b xs, r[i]? = some (.ow b (.lst xs)) := by
      cases q0 : r[i]? with
      | none => rw [q0] at hl; cases hl
      | some s =>
        rw [q0] at hl
        cases s with
        | ow b d => cases d <;> first | (cases hl; done) | exact ⟨_, _, rfl⟩
        | _ => cases hl
    obtain ⟨a, w1, w2, w3, w4⟩ := S.ow i _ _ e0
    obtain ⟨vs0, k1, k2⟩ := w3
    refine ⟨_, w1, .inl ⟨rfl, vs0, .of k1⟩, q Z σ G H r _ S ?_⟩
    cases e1 : fas r with
    | ok os r1 =>
      simp only [e1] at hp
      intro vs G1 H1 S1 X1 R1
      cases e2 : fzos os r1 with
      | none => simp only [e2] at hp; exact hp.elim
      | some p2 =>
        obtain ⟨ds, r2⟩ := p2
        simp only [e2] at hp
        obtain ⟨G2, S2, rd, z2, _⟩ := RFs.fzos S1 (ROs.rf R1) e2
        have X2 := z2.ex X1
        cases e3 : r2[i]? with
        | none => simp only [e3] at hp; exact hp.elim
        | some s =>
          cases s with
          | no => simp only [e3] at hp; exact hp.elim
          | va d => simp only [e3] at hp; exact hp.elim
          | ow b d =>
            simp only [e3] at hp
            cases e4 : gg d ds with
            | none => simp only [e4] at hp; exact hp.elim
            | some p4 =>
              obtain ⟨d', z⟩ := p4
              simp only [e4] at hp
              obtain ⟨a', y1, y2, y3, y4⟩ := S2.ow i _ _ e3
              rw [w1] at y1; cases y1
              refine hr G2 H1 a d d' ds vs z Q S2.sg y3 rd e4 fun u v rm ⟨dz, ez, rz⟩ => ?_
              obtain ⟨S3, X3⟩ := S2.mutate e3 w1 rm
              subst ez
              exact hp v G2 _ S3 (X2.trans X3) rz
    | err c r1 => simp only [e1] at hp; exact hp
    | bad => simp only [e1] at hp; exact hp.elim
  · exact hp.elim
theorem de_mut {id : String} {name : Str} {x : Str} {i : Nat} {gg : D → List D → Option (D × Op)} {apos p : Pos} (slot : Slot "list" name id) (hty : typeOf (.builtin id) = pure (.type "method_descriptor")) (hm : MutD X id gg) (ho : PE X (.Name x p) (tVar i)) (ha : DA X W (e :: es) fas)
    (hbase : attributeBase (.Name x p) name X.env (eval (.Name x p) X.env) = eval (.Name x p) X.env := by rfl)
    (hfew : ((backTo pos (starEach (e :: es) X.env)).all (fun x => !x.1) && (backToKw pos (keywordEach [] X.env)).all (fun x => x.1.isSome)
      && decide ((e :: es).length + ([] : List Keyword).length + (if ([] : List Keyword).isEmpty then 0 else 1) < 30)) = true := by rfl)
    (hline : (apos.endLine == pos.line) = true := by rfl) (hs : starEach (e :: es) X.env = (false, eval e X.env) :: starEach es X.env := by rfl) (hplain : (backTo pos (starEach es X.env)).any (·.1) = false := by rfl) :
    DE X W (.Call (.Attribute (.Name x p) name apos) (e :: es) [] pos) (eMut i gg fas) := by
  obtain ⟨rr, hr, kr⟩ := hm
  obtain ⟨t, pt, qt⟩ := ha.ex
  refine ⟨_, pe_bm PySem.F.plainAttrs_list slot hty hr ho pt hbase hfew hline hs hplain, fun Z σ G H r Q S hp => ?_⟩
  obtain ⟨v, h1, h2, h3⟩ := mut_core (id := id) qt kr S hp
  exact ⟨v, h1, h2, h3⟩
theorem de_mut0 {id : String} {name : Str} {x : Str} {i : Nat} {gg : D → List D → Option (D × Op)} {apos p : Pos} (slot : Slot "list" name id) (hty : typeOf (.builtin id) = pure (.type "method_descriptor")) (hm : MutD X id gg) (ho : PE X (.Name x p) (tVar i))
    (hbase : attributeBase (.Name x p) name X.env (eval (.Name x p) X.env) = eval (.Name x p) X.env := by rfl) (hline : (apos.endLine == pos.line) = true := by rfl) :
    DE X W (.Call (.Attribute (.Name x p) name apos) [] [] pos) (eMut i gg aNil) := by
  obtain ⟨rr, hr, kr⟩ := hm
  refine ⟨_, pe_bm0 PySem.F.plainAttrs_list slot hty hr ho hbase hline, fun Z σ G H r Q S hp => ?_⟩
  obtain ⟨v, h1, h2, h3⟩ := mut_core (id := id) (t := L2.tNil) (fas := aNil) (fun Z σ G H r Q S p => p [] G H S .refl .nil) kr S hp
  exact ⟨v, h1, h2, h3⟩
theorem MtM.r {id : String} {rr : V → List V → Hp → VK → Prop} (h : MtR X id rr) : MtR X id rr := h
theorem md_append : MutD X "list.append" gAppend := by
  refine ⟨_, mt_append, ?_⟩
  intro G H a d d' ds vs z Q sg rm rd e h
  unfold gAppend at e
  split at e
  · split at e <;> cases e
    rename_i hz
    obtain ⟨ws, k1, k2⟩ := rm
    cases rd with | cons r1 r2 =>
    cases r2
    exact ⟨a, ws, _, rfl, rfl, k1, by rw [← k2.length]; exact hz, h _ _ ⟨_, upd_same, k2.append (.one r1)⟩ ⟨.non, rfl, .non⟩⟩
  · cases e
theorem md_pop : MutD X "list.pop" gPop := by
  refine ⟨_, mt_pop, ?_⟩
  intro G H a d d' ds vs z Q sg rm rd e h
  unfold gPop at e
  split at e
  · rename_i xs
    cases q : xs[xs.length - 1]? with
    | none => simp [q] at e
    | some y =>
      simp only [q] at e; cases e
      obtain ⟨ws, k1, k2⟩ := rm
      cases rd
      obtain ⟨v, w1, w2⟩ := k2.get q
      have dl : RDs X.K G xs.dropLast ws.dropLast := by
        rw [List.dropLast_eq_take, List.dropLast_eq_take, ← k2.length]; exact k2.take _
      exact ⟨a, ws, v, rfl, rfl, k1, by rw [← k2.length]; exact w1, h _ _ ⟨_, upd_same, dl⟩ ⟨y, rfl, w2⟩⟩
  · cases e
theorem md_popAt : MutD X "list.pop" gPopAt := by
  refine ⟨_, mt_popAt, ?_⟩
  intro G H a d d' ds vs z Q sg rm rd e h
  unfold gPopAt at e
  split at e
  · rename_i xs i
    split at e <;> first | (cases e; done) | skip
    rename_i hi
    cases q : xs[i.toNat]? with
    | none => simp [q] at e
    | some y =>
      simp only [q] at e; cases e
      obtain ⟨ws, k1, k2⟩ := rm
      cases rd with | cons r1 r2 =>
      cases r2; cases r1
      obtain ⟨v, w1, w2⟩ := k2.get q
      have hl := (List.getElem?_eq_some_iff.mp w1).1
      have sx : seqIndex? i ws.length = some i.toNat := seqIndex_of hi.1 (by omega)
      exact ⟨a, ws, i, i.toNat, v, rfl, rfl, k1, by omega, by omega, sx, w1, h _ _ ⟨_, upd_same, k2.eraseIdx _⟩ ⟨y, rfl, w2⟩⟩
  · cases e
theorem md_extend : MutD X "list.extend" gExtend := by
  refine ⟨_, mt_extend, ?_⟩
  intro G H a d d' ds vs z Q sg rm rd e h
  unfold gExtend at e
  split at e
  · split at e <;> cases e
    rename_i hz
    obtain ⟨ws, k1, k2⟩ := rm
    cases rd with | cons r1 r2 =>
    cases r2
    cases r1 with | lst p1 p2 =>
    rw [k2.length, p2.length] at hz
    exact ⟨a, _, ws, _, rfl, rfl, k1, sg _ _ p1, hz, h _ _ ⟨_, upd_same, k2.append p2⟩ ⟨.non, rfl, .non⟩⟩
  · cases e
/-! ### x[k] = v -/
theorem putV_cons {κ : Type} [DecidableEq κ] (p : κ × V) (r : List (κ × V)) (x : κ) (v : V) : putK (p :: r) x v = if p.1 = x then (p.1, v) :: r.map (fun q => if q.1 = x then (q.1, v) else q) else p :: putK r x v := by
  unfold putK
  by_cases e : p.1 = x
  · simp [e]
  · simp only [List.any_cons, decide_eq_false e, Bool.false_or, List.map_cons, if_neg e]
    split <;> simp
theorem putR {κ : Type} [DecidableEq κ] {K : FG} {G : Hp} (x : κ) {d : D} {v : V} (rd : RD K G d v) : ∀ {kvs : List (κ × D)} {ws : List (κ × V)}, ws.map (·.1) = kvs.map (·.1) → RDs K G (kvs.map (·.2)) (ws.map (·.2)) →
    (putK ws x v).map (·.1) = (putD kvs x d).map (·.1) ∧ RDs K G ((putD kvs x d).map (·.2)) ((putK ws x v).map (·.2))
  | [], [], _, _ => ⟨rfl, .one rd⟩
  | [], _ :: _, h, _ => by simp at h
  | _ :: _, [], h, _ => by simp at h
  | (k, e) :: kvs, (k', w) :: ws, h, r => by
    simp only [List.map_cons, List.cons.injEq] at h
    obtain ⟨h1, h2⟩ := h
    subst h1
    cases r with
    | cons r1 r2 =>
      rw [putV_cons]
      unfold putD
      by_cases z : k' = x
      · rw [if_pos z, if_pos z]
        have all : ∀ {kvs : List (κ × D)} {ws : List (κ × V)}, ws.map (·.1) = kvs.map (·.1) → RDs K G (kvs.map (·.2)) (ws.map (·.2)) →
            (ws.map fun q => if q.1 = x then (q.1, v) else q).map (·.1) = (setD kvs x d).map (·.1) ∧ RDs K G ((setD kvs x d).map (·.2)) ((ws.map fun q => if q.1 = x then (q.1, v) else q).map (·.2)) := by
          intro kvs
          induction kvs with
          | nil => intro ws h r; cases ws with | nil => exact ⟨rfl, .nil⟩ | cons _ _ => simp at h
          | cons p kvs ih =>
            intro ws h r
            cases ws with
            | nil => simp at h
            | cons q ws =>
              simp only [List.map_cons, List.cons.injEq] at h
              cases r with
              | cons r1 r2 =>
                obtain ⟨i1, i2⟩ := ih h.2 r2
                unfold setD at i1 i2 ⊢
                simp only [List.map_cons]
                rw [h.1]
                by_cases z2 : p.1 = x
                · rw [if_pos z2, if_pos z2]; exact ⟨by rw [i1], .cons rd i2⟩
                · rw [if_neg z2, if_neg z2]; exact ⟨by rw [i1, h.1], .cons r1 i2⟩
        obtain ⟨i1, i2⟩ := all h2 r2
        simp only [List.map_cons]
        exact ⟨by rw [i1], .cons rd i2⟩
      · rw [if_neg z, if_neg z]
        obtain ⟨i1, i2⟩ := putR x rd h2 r2
        simp only [List.map_cons]
        exact ⟨by rw [i1], .cons r1 i2⟩
def rSetD : V → V → V → Hp → (Hp → Prop) → Prop := fun o i v H Q => ∃ a H', o = .ref a ∧ DPut H a i v H' ∧ Q H'
theorem set_dict (hu : X.A.units + 1 < cLine) : PSet X rSetD := by
  intro pins s σ H o i v ov iv u Q I ro ri rv ⟨a, H', eo, g, q⟩
  subst eo; cases ro
  exact d_setItem hu I g ri rv fun s' I' => ⟨H', I', q⟩
theorem PSet.or {t t' : TSet} (h : PSet X t) (k : PSet X t') : PSet X (fun o i v H Q => t o i v H Q ∨ t' o i v H Q) := by
  intro pins s σ H o i v ov iv u Q I ro ri rv q
  rcases q with q | q
  · exact h pins s σ H o i v ov iv u Q I ro ri rv q
  · exact k pins s σ H o i v ov iv u Q I ro ri rv q
/-- what a store at a key makes of an object -/
theorem gSet_R {K : FG} {Z : Fr0} {σ : L2.St} {G H : Hp} {r : Ev} {i : Nat} {b : Bool} {d d' dk dv : D} {k v : V} {a : Addr} (S : RS K Z G H r σ) (hr : r[i]? = some (.ow b d)) (hs : σ[i]? = some (some (.ref a))) (hk : RH K G H dk k) (hv : RD K G dv v) (e : gSet d dk dv = some d') :
    (∃ xs n j, k = .int n ∧ H a = some (.lst xs) ∧ ixN xs.length n = some j ∧ RM K G (upd H a (.lst (xs.set j v))) a d') ∨
    ∃ H', DPut H a k v H' ∧ ∃ u, H' = upd H a u ∧ RM K G H' a d' := by
  obtain ⟨a', e1, g0, rm, e4⟩ := S.ow i b d hr
  rw [hs] at e1; cases e1
  unfold gSet at e
  split at e
  · rename_i xs n
    obtain ⟨vs, k1, k2⟩ := rm
    cases hk
    cases q : ixI xs.length n with
    | none => simp [q] at e
    | some j =>
      simp only [q] at e; cases e
      exact .inl ⟨vs, n, j, rfl, k1, by rw [← k2.length, ← ixI_eq]; exact q, ⟨_, upd_same, k2.set j hv⟩⟩
  · rename_i kvs
    obtain ⟨ws, k1, k2, k3⟩ := rm
    cases q : keyD dk with
    | none => simp [q] at e
    | some kk =>
      simp only [q] at e
      split at e <;> cases e
      rename_i hz
      have ek : k = kV kk := by
        cases dk <;> first | (cases q; done) | exact keyV hk q
      subst ek
      have hl : ws.length = kvs.length := by simpa using congrArg List.length k2
      obtain ⟨p1, p2⟩ := putR kk hv k2 k3
      exact .inr ⟨_, .k k1 (by rw [hl]; exact hz), _, rfl, ⟨_, upd_same, p1, p2⟩⟩
  · rename_i kvs ks
    obtain ⟨ws, k1, k2, k3⟩ := rm
    cases hk with | tup t1 t2 =>
    cases q : keysD ks with
    | none => simp [q] at e
    | some kk =>
      simp only [q] at e
      split at e <;> cases e
      rename_i hz
      have ek := keysV t2 q
      subst ek
      have hl : ws.length = kvs.length := by simpa using congrArg List.length k2
      obtain ⟨p1, p2⟩ := putR kk hv k2 k3
      exact .inr ⟨_, .t k1 (S.sg _ _ t1) (by rw [hl]; exact hz), _, rfl, ⟨_, upd_same, p1, p2⟩⟩
  · cases e
theorem ds_sub {x : Str} {i : Nat} {k v : Expr} {p pos' : Pos} (hu : X.A.units + 1 < cLine) (ho : PE X (.Name x p) (tVar i)) (hk : DE X W k fk) (hv : DE X W v fv)
    (ha : ∀ v, assign (.Subscript (.Name x p) k pos') X.env v = (do
      let ov ← holding [v] (eval (.Name x p) X.env)
      let iv ← holding [v, ov] (eval k X.env)
      standAt pos'
      holding [v, ov, iv] (setItem ov iv v)
      release [v, ov, iv] []) := by intro _; rfl)
    (hss : swapsWithSole [.Subscript (.Name x p) k pos'] v pos.line X.env = pure false := by rfl) (hw : swappedStores [.Subscript (.Name x p) k pos'] v X.env = pure none := by rfl)
    (h1 : (assignEach [.Subscript (.Name x p) k pos'] X.env).map (·.2) = [assign (.Subscript (.Name x p) k pos') X.env] := by rfl) :
    DS X W (.Assign [.Subscript (.Name x p) k pos'] v pos) (sSub i gSet fk fv) := by
  obtain ⟨tk, pk, qk⟩ := hk.ex
  obtain ⟨tv, pv', qv⟩ := hv.ex
  refine ⟨_, ps_asg pv' (pg_sub ho pk (PSet.or (set_list (X := X)) (set_dict hu)) ha) hss hw h1, fun Z σ G H r D S hp => qv Z σ G H r _ S ?_⟩
  unfold sSub at hp
  cases e1 : fv r with
  | ok o1 r1 =>
    simp only [e1] at hp
    intro v G1 H1 S1 X1 Rv
    split at hp
    · rename_i how
      obtain ⟨b0, d0, e0⟩ := isOw_some how
      obtain ⟨a, w1, _⟩ := S1.ow i b0 d0 e0
      refine ⟨_, w1, qk Z σ G1 H1 r1 _ S1 ?_⟩
      cases e2 : fk r1 with
      | ok o2 r2 =>
        simp only [e2] at hp
        intro k G2 H2 S2 X2 Rk
        cases e3 : fzo r2 o1 with
        | none => simp only [e3] at hp; exact hp.elim
        | some p3 =>
          obtain ⟨dv, r3⟩ := p3
          simp only [e3] at hp
          obtain ⟨G3, S3, rd, z3, k3⟩ := RO.fzo S2 (Rv.keep X2) e3
          cases e4 : rsv r3 o2 with
          | none => simp only [e4] at hp; exact hp.elim
          | some dk =>
            simp only [e4] at hp
            have rhk : RH X.K G3 H2 dk k := by
              rcases k3 _ _ (.inl (Rk.base X1.n)) with R' | ⟨d2, e2', rd2⟩
              · exact R'.rsv S3 e4
              · subst e2'; cases e4; exact rd2.rh S3.sg
            cases e5 : r3[i]? with
            | none => simp only [e5] at hp; exact hp.elim
            | some s =>
              cases s with
              | no => simp only [e5] at hp; exact hp.elim
              | va d => simp only [e5] at hp; exact hp.elim
              | ow b d =>
                simp only [e5] at hp
                cases e6 : gSet d dk dv with
                | none => simp only [e6] at hp; exact hp.elim
                | some d' =>
                  simp only [e6] at hp
                  rcases gSet_R S3 e5 w1 rhk rd e6 with ⟨xs, n, j, q1, q2, q3, q4⟩ | ⟨H4, g, u, q1, q2⟩
                  · exact .inl ⟨a, xs, n, j, rfl, q1, q2, q3, hp σ G3 _ (S3.mutate e5 w1 q4).1⟩
                  · subst q1
                    exact .inr ⟨a, _, rfl, g, hp σ G3 _ (S3.mutate e5 w1 q2).1⟩
      | err c r2 => simp only [e2] at hp; exact fun C G' H' S' _ m => hp C σ G' H' S' m
      | bad => simp only [e2] at hp; exact hp.elim
    · exact hp.elim
  | err c r1 => simp only [e1] at hp; exact fun C G' H' S' _ m => hp C σ G' H' S' m
  | bad => simp only [e1] at hp; exact hp.elim
end
end DL
end

section
set_option Elab.async false
set_option linter.all false
set_option maxRecDepth 100000
set_option autoImplicit false
/-! DL11: what is walked; for, while over data. -/
namespace DL
open PySem PySem.Spec PyProof.Rows L2
/-- a walk gives the rows of ds -/
def ItR (K : FG) (Z : Fr0) (Gs : Hp) (J : L2.It) (ds : List D) : Prop := ∀ (i : Nat) (σ : L2.St) (r : Ev) (G H : Hp), RS K Z G H r σ → Same Gs G →
  (ds.length ≤ i → J.stop i H) ∧ ∀ d, ds[i]? = some d → J.go i H ∧ ∀ x H', J.yld i H x H' → ∃ G', RS K Z G' H' r σ ∧ EX σ G H r G' H' r ∧ RD K G' d x
def IPost (X : Cx) (W : WX) (Z : Fr0) (σ : L2.St) (G H : Hp) (r : Ev) (R : L2.It → Hp → Prop) : IOut → Prop
  | .ok ds r' => ∀ J G' H', RS X.K Z G' H' r' σ → EX σ G H r G' H' r' → (∀ Z' : Fr0, ItR X.K Z' G' J ds) → R J H'
  | .err c r' => ∀ C G' H', RS X.K Z G' H' r' σ → EX σ G H r G' H' r' → X.mg c = some (.ref C) → W (.ref C) none σ H'
  | .bad => False
structure DI (X : Cx) (W : WX) (tg iter : Expr) (f : I) : Prop where
  ex : ∃ w : L2.TI, PI X tg iter w ∧ ∀ (Z : Fr0) (σ : L2.St) (G H : Hp) (r : Ev) (R : L2.It → Hp → Prop), RS X.K Z G H r σ → IPost X W Z σ G H r R (f r) → w σ H R
theorem PI.or {X : Cx} {tg it : Expr} {w w' : L2.TI} (h : PI X tg it w) (k : PI X tg it w') : PI X tg it (fun σ H R => w σ H R ∨ w' σ H R) :=
  ⟨fun pins s σ H R I q => q.elim (h.run pins s σ H R I) (k.run pins s σ H R I)⟩
section
variable {K : FG} {Z : Fr0} {G : Hp}
theorem itr_list {a : Addr} {vs : List V} {ds : List D} (h : SqL K G a vs) (rd : RDs K G ds vs) : ItR K Z G (Itl K a) ds := by
  intro i σ r G1 H S sm
  have hq : SqL K H a vs := S.sg.seq (sm.seq h)
  refine ⟨fun hl => ⟨vs, hq, by rw [← rd.length]; exact hl⟩, fun d hd => ?_⟩
  obtain ⟨v, e1, e2⟩ := rd.get hd
  refine ⟨⟨vs, v, hq, e1⟩, fun x H' ⟨e, y⟩ => ?_⟩
  subst e
  have ex := y vs hq
  rw [e1] at ex; cases ex
  exact ⟨G1, S, .refl, e2.mono sm⟩
theorem itr_tup {a : Addr} {vs : List V} {ds : List D} (h : SqT K G a vs) (rd : RDs K G ds vs) : ItR K Z G (Itt K a) ds := by
  intro i σ r G1 H S sm
  have hq : SqT K H a vs := Same.seqT S.sg (Same.seqT sm h)
  refine ⟨fun hl => ⟨vs, hq, by rw [← rd.length]; exact hl⟩, fun d hd => ?_⟩
  obtain ⟨v, e1, e2⟩ := rd.get hd
  refine ⟨⟨vs, v, hq, e1⟩, fun x H' ⟨e, y⟩ => ?_⟩
  subst e
  have ex := y vs hq
  rw [e1] at ex; cases ex
  exact ⟨G1, S, .refl, e2.mono sm⟩
theorem upFrom_len : ∀ (n : Nat) (lo : Int), (upFrom lo n).length = n
  | 0, _ => rfl
  | n + 1, lo => congrArg (· + 1) (upFrom_len n (lo + 1))
theorem upFrom_get : ∀ (n : Nat) (lo : Int) (i : Nat) (d : D), (upFrom lo n)[i]? = some d → i < n ∧ d = .int (lo + i)
  | 0, _, _, _, h => by simp [upFrom] at h
  | n + 1, lo, 0, d, h => by
    have e : some (D.int lo) = some d := h
    cases e; exact ⟨by omega, by simp⟩
  | n + 1, lo, i + 1, d, h => by
    have h' : (upFrom (lo + 1) n)[i]? = some d := h
    obtain ⟨a, b⟩ := upFrom_get n (lo + 1) i d h'
    exact ⟨by omega, by rw [b]; congr 1; omega⟩
theorem itr_range {lo : Int} {n : Nat} : ItR K Z G (Itr lo n) (upFrom lo n) := by
  intro i σ r G1 H S sm
  refine ⟨fun hl => by rw [upFrom_len] at hl; exact hl, fun d hd => ?_⟩
  obtain ⟨a, b⟩ := upFrom_get n lo i d hd
  subst b
  refine ⟨a, fun x H' ⟨e, y⟩ => ?_⟩
  subst e y
  exact ⟨G1, S, .refl, .int _⟩
end
section
variable {X : Cx} {W : WX} {tg a b e : Expr} {fa fb : E} {pos : Pos}
theorem di_seq (h : DE X W e fa) : DI X W tg e (iSeq fa) := by
  obtain ⟨t, p, q⟩ := h.ex
  refine ⟨_, PI.or (pi_list p) (pi_tup p), fun Z σ G H r R S hp => ?_⟩
  unfold iSeq at hp
  cases e1 : fa r with
  | ok o r1 =>
    simp only [e1] at hp
    cases e2 : fzo r1 o with
    | none => simp only [e2] at hp; exact hp.elim
    | some p2 =>
      obtain ⟨d, r2⟩ := p2
      simp only [e2] at hp
      cases d <;> first | (exact hp.elim) | skip
      · refine .inr (q Z σ G H r _ S ?_)
        rw [e1]
        intro v G1 H1 S1 X1 R1
        obtain ⟨G2, S2, rd, z2, _⟩ := RO.fzo S1 R1 e2
        cases rd with | tup h1 h2 =>
        exact ⟨_, rfl, ⟨_, .inl (.inl (S2.sg _ _ h1))⟩, hp _ G2 H1 S2 (z2.ex X1) fun Z' => itr_tup (.inl (.inl h1)) h2⟩
      · refine .inl (q Z σ G H r _ S ?_)
        rw [e1]
        intro v G1 H1 S1 X1 R1
        obtain ⟨G2, S2, rd, z2, _⟩ := RO.fzo S1 R1 e2
        cases rd with | lst h1 h2 =>
        exact ⟨_, rfl, ⟨_, .of (S2.sg _ _ h1)⟩, hp _ G2 H1 S2 (z2.ex X1) fun Z' => itr_list (.of h1) h2⟩
      · refine .inr (q Z σ G H r _ S ?_)
        rw [e1]
        intro v G1 H1 S1 X1 R1
        obtain ⟨G2, S2, rd, z2, _⟩ := RO.fzo S1 R1 e2
        cases rd with | ktp h1 h2 =>
        exact ⟨_, rfl, ⟨_, Same.seqT S2.sg h1⟩, hp _ G2 H1 S2 (z2.ex X1) fun Z' => itr_tup h1 h2⟩
      · refine .inl (q Z σ G H r _ S ?_)
        rw [e1]
        intro v G1 H1 S1 X1 R1
        obtain ⟨G2, S2, rd, z2, _⟩ := RO.fzo S1 R1 e2
        cases rd with | kls h1 h2 =>
        exact ⟨_, rfl, ⟨_, S2.sg.seq h1⟩, hp _ G2 H1 S2 (z2.ex X1) fun Z' => itr_list h1 h2⟩
  | err c r1 =>
    simp only [e1] at hp
    refine .inl (q Z σ G H r _ S ?_)
    rw [e1]; exact hp
  | bad => simp only [e1] at hp; exact hp.elim
theorem di_rng1 {p : Pos} (hg : Gl X "range") (hm : X.mg "range" = none) (ha : DE X W a fa) (hs : starEach [a] X.env = [(false, eval a X.env)] := by rfl) : DI X W tg (.Call (.Name "range" p) [a] [] pos) (iRng1 fa) := by
  obtain ⟨t, pt, q⟩ := ha.ex
  refine ⟨_, pi_range1 hg hm (pa_cons pt pa_nil hs) hs, fun Z σ G H r R S hp => q Z σ G H r _ S ?_⟩
  unfold DL.iRng1 at hp
  cases e1 : fa r with
  | ok o r1 =>
    simp only [e1] at hp
    cases o <;> first | (exact hp.elim) | skip
    rename_i d
    cases d <;> first | (exact hp.elim) | skip
    rename_i j
    intro v G1 H1 S1 X1 R1
    cases R1
    dsimp only at hp
    split at hp
    · rename_i hj
      exact ⟨j, rfl, hj.1, hj.2, hp _ G1 H1 S1 X1 fun Z' => itr_range⟩
    · exact hp.elim
  | err c r1 => simp only [e1] at hp; exact hp
  | bad => simp only [e1] at hp; exact hp.elim
theorem di_rng2 {p : Pos} (hg : Gl X "range") (hm : X.mg "range" = none) (ha : DE X W a fa) (hb : DE X W b fb) (hs : starEach [a, b] X.env = [(false, eval a X.env), (false, eval b X.env)] := by rfl) (hs2 : starEach [b] X.env = [(false, eval b X.env)] := by rfl) : DI X W tg (.Call (.Name "range" p) [a, b] [] pos) (iRng2 fa fb) := by
  obtain ⟨t, pt, q⟩ := ha.ex
  obtain ⟨t2, pt2, q2⟩ := hb.ex
  refine ⟨_, pi_range2 hg hm (pa_cons pt (pa_cons pt2 pa_nil hs2) (by rw [hs, hs2])) hs hs2, fun Z σ G H r R S hp => q Z σ G H r _ S ?_⟩
  unfold DL.iRng2 at hp
  cases e1 : fa r with
  | ok o r1 =>
    simp only [e1] at hp
    cases o <;> first | (exact hp.elim) | skip
    rename_i d
    cases d <;> first | (exact hp.elim) | skip
    rename_i i
    intro v G1 H1 S1 X1 R1
    cases R1
    dsimp only at hp
    refine q2 Z σ G1 H1 r1 _ S1 ?_
    cases e2 : fb r1 with
    | ok o2 r2 =>
      simp only [e2] at hp
      cases o2 <;> first | (exact hp.elim) | skip
      rename_i d
      cases d <;> first | (exact hp.elim) | skip
      rename_i j
      intro v2 G2 H2 S2 X2 R2
      cases R2
      dsimp only at hp
      split at hp
      · rename_i hj
        exact ⟨i, j, rfl, ⟨hj.1.1, hj.1.2, hj.2.1, hj.2.2⟩, hp _ G2 H2 S2 (X1.trans X2) fun Z' => itr_range⟩
      · exact hp.elim
    | err c r2 => simp only [e2] at hp; exact fun C G' H' S' x m => hp C G' H' S' (X1.trans x) m
    | bad => simp only [e2] at hp; exact hp.elim
  | err c r1 => simp only [e1] at hp; exact hp
  | bad => simp only [e1] at hp; exact hp.elim
end
/-! ### the entry seen anew at a loop's start -/
section
variable {X : Cx} {W : WX} {Z : Fr0} {Gs : Hp}
abbrev Fr0.at (Z : Fr0) (Gs : Hp) : Fr0 := ⟨Gs, Z.H0, Z.io⟩
theorem RS.fwd {K : FG} {G H : Hp} {r : Ev} {σ : L2.St} (sm : Same Z.G0 Gs) (S : RS K Z G H r σ) (g : Same Gs G) : RS K (Z.at Gs) G H r σ :=
  ⟨S.len, S.sg, g, S.h0, S.dm, fun a o h => (S.fr a o h).elim (fun k => .inl (sm a o k)) .inr, S.va, S.ow, S.inj⟩
theorem RS.bwd {K : FG} {G H : Hp} {r : Ev} {σ : L2.St} (sm : Same Z.G0 Gs) (fr : ∀ a o, Gs a = some o → Z.G0 a = some o ∨ Z.H0 a = none) (S : RS K (Z.at Gs) G H r σ) : RS K Z G H r σ :=
  ⟨S.len, S.sg, sm.trans S.g0, S.h0, S.dm, fun a o h => (S.fr a o h).elim (fr a o) .inr, S.va, S.ow, S.inj⟩
theorem RetR.bwd {K : FG} {G H : Hp} {r : Ev} {σ : L2.St} : ∀ {o : Op} {v : V}, RetR K (Z.at Gs) σ G H r o v → RetR K Z σ G H r o v
  | .fz _, _, h => h
  | .tm _, _, h => h
  | .br _, _, h => h
theorem SPost.at {D : Ends} (sm : Same Z.G0 Gs) (fr : ∀ a o, Gs a = some o → Z.G0 a = some o ∨ Z.H0 a = none) : ∀ {s : SOut}, SPost X W Z D s → SPost X W (Z.at Gs) D s
  | .nx _, h => fun σ G H S => h σ G H (S.bwd sm fr)
  | .brk _, h => fun σ G H S => h σ G H (S.bwd sm fr)
  | .cnt _, h => fun σ G H S => h σ G H (S.bwd sm fr)
  | .ret _ _, h => fun v σ G H S k => h v σ G H (S.bwd sm fr) k.bwd
  | .err _ _, h => fun C σ G H S m => h C σ G H (S.bwd sm fr) m
  | .bad, h => h
end
section
variable {X : Cx} {W : WX} {tg iter : Expr} {body : List Stmt} {t : Tg} {fi : I} {fb : S} {pos : Pos}
theorem ds_for (hp : PassesOwn (model X.prog X.w) X.A X.env X.xe) (hc : X.calm = true) (hi : DI X W tg iter fi) (hg : DG X tg t) (hb : DB X W body fb) (hs : ∀ x, foldedSetIterable iter X.env x = pure x := by intro _; rfl) : DS X W (.For tg iter body [] pos) (sFor t fi fb) := by
  obtain ⟨wi, p1, q1⟩ := hi.ex
  obtain ⟨g, p2, q2⟩ := hg.ex
  obtain ⟨tb, p3, q3⟩ := hb.ex
  refine ⟨_, ps_for hp hc p1 p2 p3 hs, fun Z σ G H r D S hp => q1 Z σ G H r _ S ?_⟩
  unfold sFor at hp
  cases e1 : fi r with
  | ok ds r1 =>
    simp only [e1] at hp
    intro J G1 H1 S1 X1 it
    have hp1 : SPost X W (Z.at G1) D (forGo t fb ds r1) := hp.at S1.g0 S1.fr
    have it1 := it (Z.at G1)
    refine ⟨fun i m σ H => i + m = ds.length ∧ ∃ G r, RS X.K (Z.at G1) G H r σ ∧ SPost X W (Z.at G1) D (forGo t fb (ds.drop i) r), ⟨ds.length, by omega, G1, r1, S1.fwd S1.g0 (Same.refl _), by simpa using hp1⟩, fun i m σ H hW => ?_⟩
    obtain ⟨hm, G, r, S, p⟩ := hW
    obtain ⟨j1, j2⟩ := it1 i σ r G H S S.g0
    cases hd : ds[i]? with
    | none =>
      have hl : ds.length ≤ i := List.getElem?_eq_none_iff.mp hd
      refine .inl ⟨j1 hl, ?_⟩
      rw [List.drop_eq_nil_of_le hl] at p
      exact p σ G H S
    | some d =>
      obtain ⟨k1, k2⟩ := j2 d hd
      have hil : i < ds.length := (List.getElem?_eq_some_iff.mp hd).1
      have hdr : ds.drop i = d :: ds.drop (i + 1) := by
        rw [List.drop_eq_getElem_cons hil, (List.getElem?_eq_some_iff.mp hd).2]
      rw [hdr] at p
      unfold forGo at p
      refine .inr ⟨k1, fun σ' H' => ∃ G' r', RS X.K (Z.at G1) G' H' r' σ' ∧ SPost X W (Z.at G1) D (forGo t fb (ds.drop (i + 1)) r'), fun σ' H' ⟨G', r', S', p'⟩ => ⟨m - 1, by omega, by omega, G', r', S', p'⟩, fun x H' y => ?_⟩
      obtain ⟨G2, S2, X2, rd⟩ := k2 x H' y
      cases e2 : t.put d r with
      | none => simp only [e2] at p; exact p.elim
      | some r2 =>
        simp only [e2] at p
        refine q2 (Z.at G1) σ G2 H' r r2 d x _ S2 rd e2 fun σ3 S3 _ => q3 (Z.at G1) σ3 G2 H' r2 _ S3 ?_
        cases e3 : fb r2 with
        | nx r3 => simp only [e3] at p; exact fun σ4 G4 H4 S4 => ⟨G4, r3, S4, p⟩
        | cnt r3 => simp only [e3] at p; exact fun σ4 G4 H4 S4 => ⟨G4, r3, S4, p⟩
        | brk r3 => simp only [e3] at p; exact p
        | ret o r3 => simp only [e3] at p; exact p
        | err c r3 => simp only [e3] at p; exact p
        | bad => simp only [e3] at p; exact p.elim
  | err c r1 => simp only [e1] at hp; exact fun C G' H' S' _ m => hp C σ G' H' S' m
  | bad => simp only [e1] at hp; exact hp.elim
theorem ds_while {c : Expr} {fc : T} (hp : PassesOwn (model X.prog X.w) X.A X.env X.xe) (hc : DT X W c fc) (hb : DB X W body fb) : DS X W (.While c body [] pos) (sWhile fc fb) := by
  obtain ⟨tc, p2, q2⟩ := hc.ex
  obtain ⟨tb, p3, q3⟩ := hb.ex
  refine ⟨_, ps_while hp p2 p3, fun Z σ G H r D S hp => ?_⟩
  unfold sWhile at hp
  split at hp
  · rename_i ex
    refine ⟨fun m σ H => ∃ G r, RS X.K Z G H r σ ∧ SPost X W Z D (whN fc fb m r), ⟨_, G, r, S, hp⟩, fun m σ H hW => ?_⟩
    obtain ⟨G, r, S, p⟩ := hW
    cases m with
    | zero => exact p.elim
    | succ m =>
      unfold whN at p
      refine q2 Z σ G H r _ S ?_
      cases e1 : fc r with
      | ok k r1 =>
        cases k with
        | true =>
          simp only [e1] at p
          intro G1 H1 S1 X1
          refine iteT ⟨fun σ' H' => ∃ G' r', RS X.K Z G' H' r' σ' ∧ SPost X W Z D (whN fc fb m r'), fun σ' H' ⟨G', r', S', p'⟩ => ⟨m, Nat.lt_succ_self _, G', r', S', p'⟩, q3 Z σ G1 H1 r1 _ S1 ?_⟩
          cases e3 : fb r1 with
          | nx r3 => simp only [e3] at p; exact fun σ4 G4 H4 S4 => ⟨G4, r3, S4, p⟩
          | cnt r3 => simp only [e3] at p; exact fun σ4 G4 H4 S4 => ⟨G4, r3, S4, p⟩
          | brk r3 => simp only [e3] at p; exact p
          | ret o r3 => simp only [e3] at p; exact p
          | err c r3 => simp only [e3] at p; exact p
          | bad => simp only [e3] at p; exact p.elim
        | false => simp only [e1] at p; exact fun G1 H1 S1 X1 => iteF (p σ G1 H1 S1)
      | err c r1 => simp only [e1] at p; exact fun C G' H' S' _ m => p C σ G' H' S' m
      | bad => simp only [e1] at p; exact p.elim
  · exact hp.elim
end
end DL
end

section
set_option Elab.async false
set_option linter.all false
set_option maxRecDepth 100000
set_option autoImplicit false
/-! DL12: a def of the text keeps its promise over data. -/
namespace DL
open PySem PySem.Spec PyProof.Rows L2
section
variable {K : FG} {G H : Hp}
theorem argSl_len : ∀ {m : List Bool} {ds : List D}, ds.length = m.length → (argSl m ds).length = m.length
  | [], [], _ => rfl
  | false :: m, _ :: ds, h => congrArg (· + 1) (argSl_len (m := m) (by simpa using h))
  | true :: m, _ :: ds, h => congrArg (· + 1) (argSl_len (m := m) (by simpa using h))
  | [], _ :: _, h => by simp at h
  | _ :: _, [], h => by simp at h
theorem ArgsR.va_at : ∀ {m : List Bool} {ds : List D} {vs : List V}, ArgsR K G H m ds vs → ∀ (i : Nat) (d : D), (argSl m ds)[i]? = some (.va d) → ∃ v, vs[i]? = some v ∧ RD K G d v
  | _, _, _, .nil, i, d, h => by simp [argSl] at h
  | _, _, _, .va a t, 0, d, h => by
    have h' := Option.some.inj h
    cases h'; exact ⟨_, rfl, a⟩
  | _, _, _, .va a t, i + 1, d, h => ArgsR.va_at t i d h
  | _, _, _, .io a b t, 0, d, h => by cases (Option.some.inj h)
  | _, _, _, .io a b t, i + 1, d, h => ArgsR.va_at t i d h
theorem ArgsR.ow_at : ∀ {m : List Bool} {ds : List D} {vs : List V}, ArgsR K G H m ds vs → ∀ (i : Nat) (b : Bool) (d : D), (argSl m ds)[i]? = some (.ow b d) → b = true ∧ ∃ a, vs[i]? = some (.ref a) ∧ G a = none ∧ RM K G H a d ∧ a ∈ ioA m vs
  | _, _, _, .nil, i, b, d, h => by simp [argSl] at h
  | _, _, _, .va a t, 0, b, d, h => by cases (Option.some.inj h)
  | _, _, _, .va a t, i + 1, b, d, h => by
    obtain ⟨e, p, h1, h2, h3, h4⟩ := ArgsR.ow_at t i b d h
    exact ⟨e, p, h1, h2, h3, by unfold ioA; exact h4⟩
  | _, _, _, .io a b t, 0, _, d, h => by
    have h' := Option.some.inj h
    cases h'; exact ⟨rfl, _, rfl, a, b, by unfold ioA; exact List.mem_cons_self⟩
  | _, _, _, .io a b t, i + 1, _, d, h => by
    obtain ⟨e, p, h1, h2, h3, h4⟩ := ArgsR.ow_at t i _ d h
    exact ⟨e, p, h1, h2, h3, by unfold ioA; exact List.mem_cons_of_mem _ h4⟩
theorem ArgsR.inj_at : ∀ {m : List Bool} {ds : List D} {vs : List V}, ArgsR K G H m ds vs → (ioA m vs).Nodup → ∀ (i j : Nat) (a : Addr), isOw (argSl m ds)[i]? = true → isOw (argSl m ds)[j]? = true → vs[i]? = some (V.ref a) → vs[j]? = some (V.ref a) → i = j
  | _, _, _, .nil, _, i, j, a, h, _, _, _ => by simp [argSl, isOw] at h
  | _, _, _, .va _ t, _, 0, _, _, h, _, _, _ => by cases h
  | _, _, _, .va _ t, _, _, 0, _, _, h, _, _ => by cases h
  | _, _, _, .va _ t, nd, i + 1, j + 1, a, h1, h2, h3, h4 => congrArg (· + 1) (ArgsR.inj_at t (by unfold ioA at nd; exact nd) i j a h1 h2 h3 h4)
  | _, _, _, .io _ _ t, _, 0, 0, _, _, _, _, _ => rfl
  | _, _, _, .io (a := p) _ _ t, nd, 0, j + 1, a, _, h2, h3, h4 => by
    have e : p = a := V.ref.inj (Option.some.inj h3)
    subst e
    obtain ⟨b, d, k⟩ := isOw_some h2
    obtain ⟨_, a', w1, _, _, w4⟩ := ArgsR.ow_at t j b d k
    have h4' : _ = some (V.ref p) := h4
    simp only [List.getElem?_cons_succ] at h4'
    rw [w1] at h4'; cases h4'
    unfold ioA at nd
    exact absurd w4 (List.nodup_cons.mp nd).1
  | _, _, _, .io (a := p) _ _ t, nd, i + 1, 0, a, h1, _, h3, h4 => by
    have e : p = a := V.ref.inj (Option.some.inj h4)
    subst e
    obtain ⟨b, d, k⟩ := isOw_some h1
    obtain ⟨_, a', w1, _, _, w4⟩ := ArgsR.ow_at t i b d k
    have h3' : _ = some (V.ref p) := h3
    simp only [List.getElem?_cons_succ] at h3'
    rw [w1] at h3'; cases h3'
    unfold ioA at nd
    exact absurd w4 (List.nodup_cons.mp nd).1
  | _, _, _, .io _ _ t, nd, i + 1, j + 1, a, h1, h2, h3, h4 => congrArg (· + 1) (ArgsR.inj_at t (by unfold ioA at nd; exact (List.nodup_cons.mp nd).2) i j a h1 h2 h3 h4)
theorem ArgsR.ia_le : ∀ {m : List Bool} {ds : List D} {vs : List V}, ArgsR K G H m ds vs → (ioA m vs).length = m.count true
  | _, _, _, .nil => rfl
  | _, _, _, .va _ t => by unfold ioA; rw [ArgsR.ia_le t]; simp
  | _, _, _, .io _ _ t => by unfold ioA; rw [List.length_cons, ArgsR.ia_le t]; simp
/-- a def's state at its entry -/
theorem RS.entry {N : List Str} {m : List Bool} {ds : List D} {vs : List V} (sg : Same G H) (a : ArgsR K G H m ds vs) (nd : (ioA m vs).Nodup) (hl : m.length ≤ N.length) :
    RS K ⟨G, H, ioA m vs⟩ G H (argSl m ds ++ List.replicate (N.length - m.length) .no) (L2.start N vs) := by
  obtain ⟨l1, l2⟩ := a.length
  have la := argSl_len l2
  have atL : ∀ {i : Nat} {s : Sl}, (argSl m ds ++ List.replicate (N.length - m.length) .no)[i]? = some s → s ≠ .no → (argSl m ds)[i]? = some s ∧ (L2.start N vs)[i]? = (vs.map some)[i]? := fun {i s} h n => by
    by_cases hi : i < (argSl m ds).length
    · rw [List.getElem?_append_left hi] at h
      refine ⟨h, ?_⟩
      unfold L2.start
      exact List.getElem?_append_left (by rw [List.length_map, l1, ← la]; exact hi)
    · rw [List.getElem?_append_right (by omega)] at h
      exfalso
      obtain ⟨_, e⟩ := List.getElem?_eq_some_iff.mp h
      rw [List.getElem_replicate] at e
      exact n e.symm
  have atV : ∀ {i : Nat} {v : V}, vs[i]? = some v → (vs.map some)[i]? = some (some v) := fun {i v} h => by rw [List.getElem?_map, h]; rfl
  have ofV : ∀ {i : Nat} {v : V}, (vs.map some)[i]? = some (some v) → vs[i]? = some v := fun {i v} h => by
    rw [List.getElem?_map] at h
    cases q : vs[i]? with
    | none => rw [q] at h; cases h
    | some w => rw [q] at h; cases h; rfl
  refine ⟨by unfold L2.start; simp [la, l1], sg, Same.refl _, fun _ _ h _ => h, fun _ h => h, fun _ _ h => .inl h, fun i d h => ?_, fun i b d h => ?_, fun i j p hi hj e1 e2 => ?_⟩
  · obtain ⟨h1, h2⟩ := atL h (by intro z; cases z)
    obtain ⟨v, w1, w2⟩ := a.va_at i d h1
    exact ⟨v, by rw [h2]; exact atV w1, w2⟩
  · obtain ⟨h1, h2⟩ := atL h (by intro z; cases z)
    obtain ⟨eb, p, w1, w2, w3, w4⟩ := a.ow_at i b d h1
    subst eb
    exact ⟨p, by rw [h2]; exact atV w1, w2, w3, w4⟩
  · obtain ⟨b, d, k1⟩ := isOw_some hi
    obtain ⟨b', d', k2⟩ := isOw_some hj
    obtain ⟨h1, h2⟩ := atL k1 (by intro z; cases z)
    obtain ⟨h3, h4⟩ := atL k2 (by intro z; cases z)
    rw [h2] at e1
    rw [h4] at e2
    exact a.inj_at nd i j p (by rw [h1]; rfl) (by rw [h3]; rfl) (ofV e1) (ofV e2)
/-- what the changed parameters hold at the end -/
theorem iosAt_R {Z : Fr0} {σ : L2.St} {r : Ev} (S : RS K Z G H r σ) : ∀ {m : List Bool} {k : Nat} {ios : List D} {ia : List Addr}, iosAt m k r = some ios → ia.length = m.count true → (∀ a ∈ Z.io, a ∈ ia) → ia.length ≤ 1 → IosR K G H ia ios
  | [], _, ios, ia, h, hl, _, _ => by
    cases h
    cases ia with
    | nil => exact .nil
    | cons _ _ => simp at hl
  | false :: m, k, ios, ia, h, hl, hz, h1 => by
    unfold iosAt at h
    exact iosAt_R S (m := m) h (by simpa using hl) hz h1
  | true :: m, k, ios, ia, h, hl, hz, h1 => by
    unfold iosAt at h
    cases q : r[k]? with
    | none => simp [q] at h
    | some s =>
      cases s with
      | no => simp [q] at h
      | va d => simp [q] at h
      | ow b d =>
        cases b with
        | false => simp [q] at h
        | true =>
          cases q2 : iosAt m (k + 1) r with
          | none => simp [q, q2] at h
          | some ds =>
            simp only [q, q2] at h; cases h
            obtain ⟨a, w1, w2, w3, w4⟩ := S.ow k true d q
            have w4' : a ∈ Z.io := w4
            have ha := hz a w4'
            cases ia with
            | nil => cases ha
            | cons p ps =>
              cases ps with
              | cons _ _ => simp at h1
              | nil =>
                have e : a = p := by simpa using ha
                subst e
                have hc : m.count true = 0 := by simpa using hl.symm
                refine .cons w2 w3 ?_
                have no : ∀ {m : List Bool} {k : Nat} {ds : List D}, m.count true = 0 → iosAt m k r = some ds → ds = [] := by
                  intro m
                  induction m with
                  | nil => intro k ds _ h; cases h; rfl
                  | cons b m ih =>
                    intro k ds hc h
                    cases b with
                    | true => simp at hc
                    | false => unfold iosAt at h; exact ih (by simpa using hc) h
                rw [no hc q2]
                exact .nil
end
section
variable {P : Program} {w : World} {K : PySem.W.Frag} {mg : Str → Option Value} {base : Heap}
/-- what an exception that leaves a def is wished to do -/
abbrev wE (E : XK) : WX := fun cls d _ H => E cls d H
theorem fn_ok {x qual : Str} {st : Stmt} {f : Addr} {fd : FuncData} {N ps : List Str} {k : Nat} {m : List Bool} {fb : S} (F : Fun K x qual st f fd) (Sc : FnScope N ps (defScope st)) (hm : m.length = ps.length) (hc : m.count true ≤ 1) (hN : ps.length ≤ N.length)
    (hb : ∀ (cdv : Value) (A : Around) (outer : List Env) (s : Shared) (H : Hp) (E : XK), Room k (A.deeper (envOfC qual (defScope st) s.heap.objs.size f cdv)) →
      DB (cxOf (L2.CX P w) P w K mg base N qual (defScope st) f cdv A outer s H E) (wE E) (defBody st) fb) :
    FnOk P w K mg base (L2.CX P w) (k + 1) f fd ps (spD mg K m (fnD N.length m fb)) := by
  refine Fun.okX F Sc (fun vs H Q E ⟨G, ds, _, a, _⟩ => by rw [a.length.1]; exact hm) fun cdv A outer s H vs Q E hr ⟨G, ds, sg, a, nd, post⟩ => ?_
  obtain ⟨t, p, q⟩ := (hb cdv A outer s H E hr).ex
  refine ⟨t, p, q ⟨G, H, ioA m vs⟩ (L2.start N vs) G H _ _ (RS.entry sg a nd (by rw [hm]; exact hN)) ?_⟩
  unfold fnD at post
  rw [if_pos a.length.2] at post
  have ce : ∀ {G' H' : Hp} {r : Ev} {σ : L2.St}, RS K ⟨G, H, ioA m vs⟩ G' H' r σ → CE (ioA m vs) G H G' H' := fun S => ⟨S.g0, S.sg, S.h0, S.dm, S.fr⟩
  have il := a.ia_le
  have i1 : (ioA m vs).length ≤ 1 := by rw [il]; exact hc
  cases e1 : fb (argSl m ds ++ List.replicate (N.length - m.length) .no) with
  | ret o r =>
    simp only [e1] at post
    cases e2 : iosAt m 0 r with
    | none => simp only [e2] at post; exact post.elim
    | some ios =>
      simp only [e2] at post
      intro v σ G' H' S R
      refine post v G' H' (ce S) (iosAt_R S e2 il (fun _ h => h) i1) ?_
      cases o with
      | fz d => exact R
      | br i => exact R.elim
      | tm d => obtain ⟨b, eb, g0, h0, _, rm⟩ := R; exact ⟨b, eb, g0, h0, rm⟩
  | nx r =>
    simp only [e1] at post
    cases e2 : iosAt m 0 r with
    | none => simp only [e2] at post; exact post.elim
    | some ios =>
      simp only [e2] at post
      intro σ G' H' S
      exact post .non G' H' (ce S) (iosAt_R S e2 il (fun _ h => h) i1) .non
  | err c r =>
    simp only [e1] at post
    cases e2 : iosAt m 0 r with
    | none => simp only [e2] at post; exact post.elim
    | some ios =>
      simp only [e2] at post
      intro C σ G' H' S m'
      exact post C G' H' (ce S) (iosAt_R S e2 il (fun _ h => h) i1) m'
  | brk r => simp only [e1] at post; exact post.elim
  | cnt r => simp only [e1] at post; exact post.elim
  | bad => simp only [e1] at post; exact post.elim
end
end DL
end

section
set_option Elab.async false
set_option linter.all false
set_option maxRecDepth 100000
set_option autoImplicit false
/-! DL13: comprehensions over data. -/
namespace DL
open PySem PySem.Spec PyProof.Rows L2
abbrev W0 : WX := fun _ _ _ _ => False
section
variable {K : FG} {Z : Fr0} {σ σ' : L2.St} {G H : Hp} {r : Ev}
theorem wipeE_len : ∀ vs : List Nat, (wipeE r vs).length = r.length
  | [] => rfl
  | v :: vs => by unfold wipeE; rw [List.length_set, wipeE_len vs]
theorem wipeE_out {i : Nat} : ∀ {vs : List Nat}, i ∉ vs → (wipeE r vs)[i]? = r[i]?
  | [], _ => rfl
  | v :: vs, h => by
    rw [List.mem_cons, not_or] at h
    unfold wipeE
    rw [List.getElem?_set_ne fun z => h.1 z.symm]
    exact wipeE_out h.2
theorem wipeE_in {i : Nat} {s : Sl} : ∀ {vs : List Nat}, i ∈ vs → (wipeE r vs)[i]? = some s → s = .no
  | [], h, _ => by cases h
  | v :: vs, h, e => by
    unfold wipeE at e
    by_cases hv : v = i
    · subst hv
      by_cases hl : v < (wipeE r vs).length
      · rw [List.getElem?_set_self hl] at e; cases e; rfl
      · rw [List.getElem?_eq_none (by simpa using hl)] at e; cases e
    · rw [List.getElem?_set_ne hv] at e
      exact wipeE_in ((List.mem_cons.mp h).resolve_left fun z => hv z.symm) e
theorem backE_len {r0 : Ev} : ∀ vs : List Nat, (backE r0 r vs).length = r.length
  | [] => rfl
  | v :: vs => by unfold backE; rw [List.length_set, backE_len vs]
theorem backE_out {r0 : Ev} {i : Nat} : ∀ {vs : List Nat}, i ∉ vs → (backE r0 r vs)[i]? = r[i]?
  | [], _ => rfl
  | v :: vs, h => by
    rw [List.mem_cons, not_or] at h
    unfold backE
    rw [List.getElem?_set_ne fun z => h.1 z.symm]
    exact backE_out h.2
theorem backE_in {r0 : Ev} {i : Nat} {s : Sl} : ∀ {vs : List Nat}, i ∈ vs → (backE r0 r vs)[i]? = some s → s = r0.getD i .no
  | [], h, _ => by cases h
  | v :: vs, h, e => by
    unfold backE at e
    by_cases hv : v = i
    · subst hv
      by_cases hl : v < (backE r0 r vs).length
      · rw [List.getElem?_set_self hl] at e; cases e; rfl
      · rw [List.getElem?_eq_none (by simpa using hl)] at e; cases e
    · rw [List.getElem?_set_ne hv] at e
      exact backE_in ((List.mem_cons.mp h).resolve_left fun z => hv z.symm) e
theorem wipe_ext {vs : List Nat} (hl : σ'.length = σ.length) (h : ∀ i, i ∉ vs → σ'[i]? = σ[i]?) : wipe σ' vs = wipe σ vs := by
  apply List.ext_getElem?
  intro i
  by_cases hi : i ∈ vs
  · have key : ∀ {τ : L2.St} {vs : List Nat}, i ∈ vs → (wipe τ vs)[i]? = if i < τ.length then some none else none := by
      intro τ vs
      induction vs with
      | nil => intro h; cases h
      | cons v vs ih =>
        intro h
        unfold wipe
        by_cases hv : v = i
        · subst hv
          by_cases hl : v < τ.length
          · rw [List.getElem?_set_self (by rw [wipe_length]; exact hl), if_pos hl]
          · rw [List.getElem?_eq_none (by rw [List.length_set, wipe_length]; omega), if_neg hl]
        · rw [List.getElem?_set_ne hv]
          exact ih ((List.mem_cons.mp h).resolve_left fun z => hv z.symm)
    rw [key hi, key hi, hl]
  · rw [wipe_out hi, wipe_out hi, h i hi]
theorem RS.wipe (S : RS K Z G H r σ) (vs : List Nat) : RS K Z G H (wipeE r vs) (L2.wipe σ vs) := by
  have out : ∀ {i : Nat} {s : Sl}, (wipeE r vs)[i]? = some s → s ≠ .no → i ∉ vs ∧ r[i]? = some s := fun {i s} h n => by
    have hi : i ∉ vs := fun k => n (wipeE_in k h)
    exact ⟨hi, by rw [← wipeE_out hi]; exact h⟩
  refine ⟨by rw [wipeE_len, wipe_length]; exact S.len, S.sg, S.g0, S.h0, S.dm, S.fr, fun i d h => ?_, fun i b d h => ?_, fun i j a hi hj e1 e2 => ?_⟩
  · obtain ⟨h1, h2⟩ := out h (by intro z; cases z)
    rw [wipe_out h1]; exact S.va i d h2
  · obtain ⟨h1, h2⟩ := out h (by intro z; cases z)
    rw [wipe_out h1]; exact S.ow i b d h2
  · obtain ⟨b, d, k1⟩ := isOw_some hi
    obtain ⟨b', d', k2⟩ := isOw_some hj
    obtain ⟨h1, h2⟩ := out k1 (by intro z; cases z)
    obtain ⟨h3, h4⟩ := out k2 (by intro z; cases z)
    rw [wipe_out h1] at e1
    rw [wipe_out h3] at e2
    exact S.inj i j a (by rw [h2]; rfl) (by rw [h4]; rfl) e1 e2
/-- behind the walk the outer names are as they were -/
theorem RS.back {Gs Hs : Hp} {rs : Ev} {vs : List Nat} (Ss : RS K Z Gs Hs rs σ) (S : RS K Z G H (wipeE r vs) (L2.wipe σ vs)) (hl : r.length = rs.length) (hv : ∀ v ∈ vs, isOw rs[v]? = false) (sm : Same Gs G) : RS K Z G H (backE rs r vs) σ := by
  have out : ∀ {i : Nat} {s : Sl}, i ∉ vs → (backE rs r vs)[i]? = some s → (wipeE r vs)[i]? = some s := fun {i s} h e => by
    rw [backE_out h] at e; rw [wipeE_out h]; exact e
  have inn : ∀ {i : Nat} {s : Sl}, i ∈ vs → (backE rs r vs)[i]? = some s → s ≠ .no → rs[i]? = some s := fun {i s} h e n => by
    have := backE_in h e
    rw [List.getD_eq_getElem?_getD] at this
    cases q : rs[i]? with
    | none => rw [q] at this; exact absurd this n
    | some x => rw [q] at this; rw [this]; rfl
  have ow_out : ∀ {i : Nat}, isOw (backE rs r vs)[i]? = true → i ∉ vs := fun {i} h k => by
    obtain ⟨b, d, e⟩ := isOw_some h
    have := inn k e (by intro z; cases z)
    have h2 := hv i k
    rw [this] at h2; cases h2
  refine ⟨by rw [backE_len, hl]; exact Ss.len, S.sg, S.g0, S.h0, S.dm, S.fr, fun i d h => ?_, fun i b d h => ?_, fun i j a hi hj e1 e2 => ?_⟩
  · by_cases hi : i ∈ vs
    · obtain ⟨v, w1, w2⟩ := Ss.va i d (inn hi h (by intro z; cases z))
      exact ⟨v, w1, w2.mono sm⟩
    · obtain ⟨v, w1, w2⟩ := S.va i d (out hi h)
      rw [wipe_out hi] at w1
      exact ⟨v, w1, w2⟩
  · have hi : i ∉ vs := ow_out (by rw [h]; rfl)
    obtain ⟨a, w1, w2⟩ := S.ow i b d (out hi h)
    rw [wipe_out hi] at w1
    exact ⟨a, w1, w2⟩
  · have h1 := ow_out hi
    have h2 := ow_out hj
    rw [backE_out h1] at hi
    rw [backE_out h2] at hj
    exact S.inj i j a (by rw [wipeE_out h1]; exact hi) (by rw [wipeE_out h2]; exact hj) (by rw [wipe_out h1]; exact e1) (by rw [wipe_out h2]; exact e2)
/-- an object that no slot holds is changed -/
theorem RS.other (S : RS K Z G H r σ) {a : Addr} {o u : HO} (h : H a = some o) (g0 : G a = none) (h0 : Z.H0 a = none) (no : ¬ ownAt r σ a) : RS K Z G (upd H a u) r σ := by
  have oth : ∀ c, c ≠ a → upd H a u c = H c := fun c h => upd_ne h
  refine ⟨S.len, fun c o k => ?_, S.g0, fun c o k n => ?_, fun c h => ?_, S.fr, S.va, fun j b e q => ?_, S.inj⟩
  · rw [oth c fun z => by subst z; rw [g0] at k; cases k]; exact S.sg c o k
  · rw [oth c fun z => by subst z; rw [h0] at k; cases k]; exact S.h0 c o k n
  · by_cases z : c = a
    · subst z; rw [upd_same] at h; cases h
    · rw [oth c z] at h; exact S.dm c h
  · obtain ⟨c, p1, p2, p3, p4⟩ := S.ow j b e q
    have nc : c ≠ a := fun z => no ⟨j, by rw [q]; rfl, by rw [← z]; exact p1⟩
    exact ⟨c, p1, p2, p3.at (Same.refl _) (oth c nc), p4⟩
end
/-! ### the readings that hang on K and mg alone -/
section
variable {X : Cx} {W : WX} {e tg : Expr} {f : E} {t : Tg}
def tD (X : Cx) (W : WX) (f : E) : L2.TE := fun σ H Q => ∃ Z G r, RS X.K Z G H r σ ∧ EPost X W Z σ G H r Q (f r)
def tDT (X : Cx) (W : WX) (f : T) : L2.TT := fun σ H Q => ∃ Z G r, RS X.K Z G H r σ ∧ TPost X W Z σ G H r Q (f r)
def tDG (X : Cx) (t : Tg) : L2.TG := fun v σ H Q => ∃ Z G r r' d, RS X.K Z G H r σ ∧ RD X.K G d v ∧ t.put d r = some r' ∧ ∀ σ', RS X.K Z G H r' σ' → (σ'.length = σ.length ∧ ∀ i, i ∉ t.slots → σ'[i]? = σ[i]?) → Q σ' H
theorem DE.canon (h : DE X W e f) : PE X e (tD X W f) := ⟨fun pins s σ H Q I ⟨Z, G, r, S, p⟩ => h.run I S p⟩
theorem DG.canon (h : DG X tg t) : PG X tg (tDG X t) := by
  obtain ⟨g, p, q⟩ := h.ex
  exact ⟨fun pins s σ H v u Q I rv ⟨Z, G, r, r', d, S, rd, e, k⟩ => p.run pins s σ H v u Q I rv (q Z σ G H r r' d v Q S rd e k)⟩
structure DIf (X : Cx) (W : WX) (ifs : List Expr) (f : T) : Prop where
  ex : ∃ t : L2.TT, PTs X ifs t ∧ ∀ (Z : Fr0) (σ : L2.St) (G H : Hp) (r : Ev) (Q : Bool → Hp → Prop), RS X.K Z G H r σ → TPost X W Z σ G H r Q (f r) → t σ H Q
theorem dif_nil : DIf X W [] DL.tYes := ⟨_, pts_nil, fun Z σ G H r Q S p => p G H S .refl⟩
theorem dif_one {c : Expr} {fc : T} (h : DT X W c fc) : DIf X W [c] fc := by
  obtain ⟨t, p, q⟩ := h.ex
  exact ⟨_, pts_one p, q⟩
theorem DIf.canon {ifs : List Expr} {fc : T} (h : DIf X W ifs fc) : PTs X ifs (tDT X W fc) := by
  obtain ⟨t, p, q⟩ := h.ex
  exact ⟨fun pins s σ H Q I ⟨Z, G, r, S, hp⟩ => p.run pins s σ H Q I (q Z σ G H r Q S hp)⟩
end
/-! ### the walk -/
/-- at a turn's start: the state, what stands since the beginning, the new list -/
structure LcI (K : FG) (Z : Fr0) (σ : L2.St) (vs : List Nat) (Gs Hs : Hp) (rs : Ev) (G H : Hp) (r : Ev) (p : Addr) (acc : List D) : Prop where
  S : RS K (Z.at Gs) G H (wipeE r vs) (L2.wipe σ vs)
  h : ∀ a o, Hs a = some o → ¬ ownAt rs σ a → H a = some o
  n : ∀ a, H a = none → Hs a = none
  f : ∀ a o, G a = some o → Gs a = some o ∨ Hs a = none ∨ ownAt rs σ a
  o : ∀ a, ownAt (wipeE r vs) (L2.wipe σ vs) a → ownAt rs σ a
  l : r.length = rs.length
  d : ∃ ws, H p = some (.lst ws) ∧ RDs K G acc ws
  g0 : G p = none
  h0 : Hs p = none
theorem own_wipe {σ σ' : L2.St} {vs : List Nat} {r : Ev} {a : Addr} (e : L2.wipe σ' vs = L2.wipe σ vs) (hr : ∀ i ∈ vs, isOw r[i]? = false) (h : ownAt r σ' a) : ownAt (wipeE r vs) (L2.wipe σ vs) a := by
  obtain ⟨i, h1, h2⟩ := h
  have hi : i ∉ vs := fun k => by rw [hr i k] at h1; cases h1
  exact ⟨i, by rw [wipeE_out hi]; exact h1, by rw [← e, wipe_out hi]; exact h2⟩
section
variable {X : Cx} {W : WX} {tg : Expr} {t : Tg} {fi : I} {fc : T} {fe : E} {vs : List Nat}
/-- the slots that are no objects stay none -/
theorem isOw_put {d : D} {r r' : Ev} (e : t.put d r = some r') {i : Nat} (h : isOw r'[i]? = true) : isOw r[i]? = true := by
  have all : ∀ {is : List Nat} {ds : List D} {r r' : Ev}, setAll is ds r = some r' → isOw r'[i]? = true → isOw r[i]? = true := by
    intro is
    induction is with
    | nil => intro ds r r' e h; cases ds with | nil => cases e; exact h | cons _ _ => cases e
    | cons j is ih =>
      intro ds r r' e h
      cases ds with
      | nil => cases e
      | cons d ds => exact (isOw_set (ih (ds := ds) e h)).1
  cases t with
  | one j => cases e; exact (isOw_set h).1
  | many is => cases d <;> first | (cases e; done) | exact all e h
theorem lc_post {wi : L2.TI} (hts : ∀ i ∈ t.slots, i ∈ vs) {Z : Fr0} {σ : L2.St} {G H : Hp} {r : Ev} {Q : VK} (qi : ∀ (R : L2.It → Hp → Prop), IPost X W Z σ G H r R (fi r) → wi σ H R) (S : RS X.K Z G H r σ) (hp : EPost X W Z σ G H r Q (eLc vs t fi fc fe r)) : tLc wi (tDG X t) (tDT X W0 fc) (tD X W0 fe) vs σ H Q := by
  refine qi _ ?_
  unfold eLc at hp
  cases e1 : fi r with
  | ok ds rs =>
    simp only [e1] at hp
    split at hp
    · rename_i hvs
      have hv : ∀ v ∈ vs, isOw rs[v]? = false := fun v k => by
        have := List.all_eq_true.mp hvs v k
        cases q : isOw rs[v]? with
        | false => rfl
        | true => rw [q] at this; cases this
      intro J Gs Hs Ss Xs it p hpn
      have it1 := it (Z.at Gs)
      obtain ⟨gp, h0p, nop⟩ := Ss.fresh hpn
      have ow_w : ∀ {a : Addr}, ownAt (wipeE rs vs) (L2.wipe σ vs) a → ownAt rs σ a := fun {a} ⟨i, k1, k2⟩ => by
        have hi : i ∉ vs := fun k => by
          obtain ⟨b, d, e⟩ := isOw_some k1
          have := wipeE_in k e
          cases this
        exact ⟨i, by rw [← wipeE_out hi]; exact k1, by rw [← wipe_out hi]; exact k2⟩
      have S0 : RS X.K (Z.at Gs) Gs (upd Hs p (.lst [])) rs σ := ((Ss.newH (o := .lst []) hpn).1).fwd Ss.g0 (Same.refl _)
      have start : LcI X.K Z σ vs Gs Hs rs Gs (upd Hs p (.lst [])) rs p [] :=
        ⟨S0.wipe vs, fun a o h n => same_new hpn a o h, fun a h => by
          by_cases z : a = p
          · subst z; exact hpn
          · rw [upd_ne z] at h; exact h, fun a o h => .inl h, fun a h => ow_w h, rfl, ⟨[], upd_same, .nil⟩, gp, hpn⟩
      refine ⟨fun i m H => i + m = ds.length ∧ ∃ G r acc, LcI X.K Z σ vs Gs Hs rs G H r p acc ∧ EPost X W Z σ Gs Hs rs Q (lcGo vs t fc fe rs (ds.drop i) acc r), ⟨ds.length, by omega, Gs, rs, [], start, EPost.pre Xs (by simpa using hp)⟩, fun i m H hW => ?_⟩
      obtain ⟨hm, G, r, acc, L, pp⟩ := hW
      obtain ⟨j1, j2⟩ := it1 i (L2.wipe σ vs) (wipeE r vs) G H L.S L.S.g0
      cases hd : ds[i]? with
      | none =>
        have hl : ds.length ≤ i := List.getElem?_eq_none_iff.mp hd
        refine .inl ⟨j1 hl, ?_⟩
        rw [List.drop_eq_nil_of_le hl] at pp
        have Sb : RS X.K (Z.at Gs) G H (backE rs r vs) σ := RS.back (S0) L.S L.l hv L.S.g0
        have ob : ∀ a, ownAt (backE rs r vs) σ a → ownAt rs σ a := fun a ⟨i, k1, k2⟩ => by
          by_cases hi : i ∈ vs
          · obtain ⟨b, d, e⟩ := isOw_some k1
            have := backE_in hi e
            rw [List.getD_eq_getElem?_getD] at this
            have h2 := hv i hi
            cases q : rs[i]? with
            | none => rw [q] at this; cases this
            | some x =>
              rw [q] at this h2
              have : x = .ow b d := this.symm
              subst this; cases h2
          · rw [backE_out hi] at k1
            exact L.o a ⟨i, by rw [wipeE_out hi]; exact k1, by rw [wipe_out hi]; exact k2⟩
        have X2 : EX σ Gs Hs rs G H (backE rs r vs) := ⟨L.S.g0, L.h, L.n, L.f, ob⟩
        refine pp (.ref p) G H (Sb.bwd Ss.g0 Ss.fr) X2 ⟨p, rfl, L.g0, ⟨h0p, hpn⟩, fun k => nop (ob p k), ?_⟩
        obtain ⟨ws, w1, w2⟩ := L.d
        exact ⟨ws, w1, w2⟩
      | some d =>
        obtain ⟨k1, k2⟩ := j2 d hd
        have hil : i < ds.length := (List.getElem?_eq_some_iff.mp hd).1
        have hdr : ds.drop i = d :: ds.drop (i + 1) := by
          rw [List.drop_eq_getElem_cons hil, (List.getElem?_eq_some_iff.mp hd).2]
        rw [hdr] at pp
        unfold lcGo at pp
        refine .inr ⟨k1, fun H' => ∃ G' r' acc', LcI X.K Z σ vs Gs Hs rs G' H' r' p acc' ∧ EPost X W Z σ Gs Hs rs Q (lcGo vs t fc fe rs (ds.drop (i + 1)) acc' r'), fun H' ⟨G', r', acc', L', p'⟩ => ⟨m - 1, by omega, by omega, G', r', acc', L', p'⟩, fun x H2 y => ?_⟩
        obtain ⟨G2, S2, X2, rd⟩ := k2 x H2 y
        cases e2 : t.put d (wipeE r vs) with
        | none => simp only [e2] at pp; exact pp.elim
        | some r1 =>
          simp only [e2] at pp
          refine ⟨Z.at Gs, G2, wipeE r vs, r1, d, S2, rd, e2, fun σ3 S3 ⟨l3, o3⟩ => ?_⟩
          have ew : L2.wipe σ3 vs = L2.wipe σ vs := by
            refine (wipe_ext l3 fun i hi => o3 i fun k => hi (hts i k)).trans ?_
            exact wipe_ext (wipe_length σ vs) fun i hi => wipe_out hi
          refine ⟨ew, Z.at Gs, G2, r1, S3, ?_⟩
          -- what stands through the turn
          have now1 : ∀ a, ownAt r1 σ3 a → ownAt (wipeE r vs) (L2.wipe σ vs) a := fun a ⟨i, h1, h2⟩ => by
            have h1' := isOw_put e2 h1
            have hi : i ∉ vs := fun k => by
              obtain ⟨b, d, e⟩ := isOw_some h1'
              cases wipeE_in k e
            refine ⟨i, h1', ?_⟩
            rw [← o3 i fun k => hi (hts i k)]; exact h2
          -- after more of the block: a state of the same slots
          have go : ∀ {G4 H4 : Hp} {r4 : Ev} {acc' : List D} {u : HO}, RS X.K (Z.at Gs) G4 H4 r4 σ3 → EX σ3 G2 H2 r1 G4 H4 r4 → (u = .lst [] → False) ∨ True → (∃ ws, upd H4 p u p = some (.lst ws) ∧ RDs X.K G4 acc' ws) → LcI X.K Z σ vs Gs Hs rs G4 (upd H4 p u) r4 p acc' := fun {G4 H4 r4 acc' u} S4 X4 _ hd => by
            have hp2 : ∃ ws, H2 p = some (.lst ws) := by
              obtain ⟨ws, w1, _⟩ := L.d
              exact ⟨ws, X2.h p _ w1 fun k => nop (L.o p k)⟩
            have gp2 : G2 p = none := by
              obtain ⟨ws, w1, _⟩ := L.d
              cases q : G2 p with
              | none => rfl
              | some u =>
                rcases X2.f p u q with k | k | k
                · rw [L.g0] at k; cases k
                · rw [w1] at k; cases k
                · exact absurd (L.o p k) nop
            have no1 : ¬ ownAt r1 σ3 p := fun k => nop (L.o p (now1 p k))
            obtain ⟨ws2, hp2⟩ := hp2
            have hp4 : H4 p = some (.lst ws2) := X4.h p _ hp2 no1
            have gp4 : G4 p = none := by
              cases q : G4 p with
              | none => rfl
              | some u =>
                rcases X4.f p u q with k | k | k
                · rw [gp2] at k; cases k
                · rw [hp2] at k; cases k
                · exact absurd k no1
            have no4 : ¬ ownAt r4 σ3 p := fun k => no1 (X4.o p k)
            have own4 : ∀ a, ownAt (wipeE r4 vs) (L2.wipe σ3 vs) a → ownAt rs σ a := fun a ⟨i, h1, h2⟩ => by
              have hi : i ∉ vs := fun k => by
                obtain ⟨b, d, e⟩ := isOw_some h1
                cases wipeE_in k e
              rw [wipeE_out hi] at h1
              rw [wipe_out hi] at h2
              exact L.o a (now1 a (X4.o a ⟨i, h1, h2⟩))
            have S5 := (S4.other (u := u) hp4 gp4 h0p no4).wipe vs
            rw [ew] at S5 own4
            refine ⟨S5, fun a o h n => ?_, fun a h => ?_, fun a o h => ?_, own4, ?_, hd, gp4, hpn⟩
            · have na : a ≠ p := fun z => by subst z; rw [hpn] at h; cases h
              rw [upd_ne na]
              refine X4.h a o (X2.h a o (L.h a o h n) fun k => n (L.o a k)) fun k => n (L.o a (now1 a k))
            · by_cases z : a = p
              · subst z; exact hpn
              · rw [upd_ne z] at h
                exact L.n a (X2.n a (X4.n a h))
            · rcases X4.f a o h with k | k | k
              · rcases X2.f a o k with k | k | k
                · exact L.f a o k
                · exact .inr (.inl (L.n a k))
                · exact .inr (.inr (L.o a k))
              · exact .inr (.inl (L.n a (X2.n a k)))
              · exact .inr (.inr (L.o a (now1 a k)))
            · have := S4.len
              have h3 := l3
              have h4 := wipe_length σ vs
              have h5 := Ss.len
              omega
          have self : ∀ {G4 H4 : Hp} {r4 : Ev}, RS X.K (Z.at Gs) G4 H4 r4 σ3 → EX σ3 G2 H2 r1 G4 H4 r4 → ∃ ws, H4 p = some (.lst ws) ∧ RDs X.K G4 acc ws := fun {G4 H4 r4} S4 X4 => by
            obtain ⟨ws, w1, w2⟩ := L.d
            exact ⟨ws, X4.h p _ (X2.h p _ w1 fun k => nop (L.o p k)) fun k => nop (L.o p (now1 p k)), (w2.mono X2.g).mono X4.g⟩
          cases e3 : fc r1 with
          | ok b r2 =>
            cases b with
            | false =>
              simp only [e3] at pp
              intro G4 H4 S4 X4
              refine iteF ?_
              obtain ⟨ws, w1, w2⟩ := self S4 X4
              have e : upd H4 p (.lst ws) = H4 := by
                funext c
                by_cases z : c = p
                · subst z; rw [upd_same, w1]
                · rw [upd_ne z]
              have L' := go (u := .lst ws) S4 X4 (.inr trivial) ⟨ws, upd_same, w2⟩
              rw [e] at L'
              exact ⟨G4, r2, acc, L', pp⟩
            | true =>
              simp only [e3] at pp
              intro G4 H4 S4 X4
              refine iteT ⟨Z.at Gs, G4, r2, S4, ?_⟩
              cases e4 : fe r2 with
              | ok o r3 =>
                simp only [e4] at pp
                intro v G5 H5 S5 X5 R5
                cases e5 : fzo r3 o with
                | none => simp only [e5] at pp; exact pp.elim
                | some p6 =>
                  obtain ⟨dx, r6⟩ := p6
                  simp only [e5] at pp
                  obtain ⟨G6, S6, rd6, z6, _⟩ := RO.fzo S5 R5 e5
                  have X46 := X4.trans (z6.ex X5)
                  split at pp
                  · rename_i hz
                    obtain ⟨ws, w1, w2⟩ := self S6 X46
                    exact ⟨ws, w1, by rw [← w2.length]; exact hz, G6, r6, acc ++ [dx], go S6 X46 (.inr trivial) ⟨ws ++ [v], upd_same, w2.append (.one rd6)⟩, pp⟩
                  · exact pp.elim
              | err c r3 => simp only [e4] at pp; exact pp.elim
              | bad => simp only [e4] at pp; exact pp.elim
          | err c r2 => simp only [e3] at pp; exact pp.elim
          | bad => simp only [e3] at pp; exact pp.elim
    · exact hp.elim
  | err c r1 => simp only [e1] at hp; exact hp
  | bad => simp only [e1] at hp; exact hp.elim
variable {elt iter : Expr} {ifs : List Expr} {scope : Scope} {own : List (Str × Nat)} {pos : Pos}
theorem de_lc (hc : X.calm = true) (hN : X.N.Nodup) (hi : DI X W tg iter fi) (ok : BlkOk X.N X.env.scope scope own)
    (hg : ∀ (s : Shared) (H : Hp) (C : Addr) (cl : List (Str × Addr)) (fp : List Addr), DG (X.blk s H scope (compEnvC scope cl C X.env) fp) tg t) (ht : ∀ (s : Shared) (H : Hp) (C : Addr) (cl : List (Str × Addr)) (fp : List Addr), DIf (X.blk s H scope (compEnvC scope cl C X.env) fp) W0 ifs fc)
    (he : ∀ (s : Shared) (H : Hp) (C : Addr) (cl : List (Str × Addr)) (fp : List Addr), DE (X.blk s H scope (compEnvC scope cl C X.env) fp) W0 elt fe) (hts : ∀ i ∈ t.slots, i ∈ own.map (·.2)) (hvs : own.map (·.2) = vs) (hs : ∀ x, foldedSetIterable iter X.env x = pure x := by intro _; rfl) :
    DE X W (.ListComp elt [⟨tg, iter, ifs, 0⟩] scope pos) (eLc vs t fi fc fe) := by
  subst hvs
  obtain ⟨wi, p, q⟩ := hi.ex
  exact ⟨_, pe_lc (own := own) (g := tDG X t) (tt := tDT X W0 fc) (te := tD X W0 fe) hc hN p ok (fun s H C cl fp => (hg s H C cl fp).canon) (fun s H C cl fp => (ht s H C cl fp).canon) (fun s H C cl fp => (he s H C cl fp).canon) hs,
    fun Z σ G H r Q S hp => lc_post hts (fun R => q Z σ G H r R S) S hp⟩
theorem ds_setLc {i : Nat} {y : Str} {py spos : Pos} (hc : X.calm = true) (hN : X.N.Nodup) (hy : X.N[i]? = some y) (hyl : X.env.scope.names.lookup y = some .local)
    (hsw : swapsWith (.ListComp elt [⟨tg, iter, ifs, 0⟩] scope pos) (some (.Name y py)) spos.line X.env = pure true) (hi : DI X W tg iter fi) (ok : BlkOk X.N X.env.scope scope own)
    (hg : ∀ (s : Shared) (H : Hp) (C : Addr) (cl : List (Str × Addr)) (fp : List Addr), DG (X.blk s H scope (compEnvC scope cl C X.env) fp) tg t) (ht : ∀ (s : Shared) (H : Hp) (C : Addr) (cl : List (Str × Addr)) (fp : List Addr), DIf (X.blk s H scope (compEnvC scope cl C X.env) fp) W0 ifs fc)
    (he : ∀ (s : Shared) (H : Hp) (C : Addr) (cl : List (Str × Addr)) (fp : List Addr), DE (X.blk s H scope (compEnvC scope cl C X.env) fp) W0 elt fe) (hts : ∀ i ∈ t.slots, i ∈ own.map (·.2)) (hvs : own.map (·.2) = vs) (hs : ∀ x, foldedSetIterable iter X.env x = pure x := by intro _; rfl) :
    DS X W (.Assign [.Name y py] (.ListComp elt [⟨tg, iter, ifs, 0⟩] scope pos) spos) (sSet i (eLc vs t fi fc fe)) := by
  subst hvs
  obtain ⟨wi, p, q⟩ := hi.ex
  refine ⟨_, ps_setLc (own := own) (g := tDG X t) (tt := tDT X W0 fc) (te := tD X W0 fe) hc hN hy hyl hsw p ok (fun s H C cl fp => (hg s H C cl fp).canon) (fun s H C cl fp => (ht s H C cl fp).canon) (fun s H C cl fp => (he s H C cl fp).canon) hs,
    fun Z σ G H r D S hp => lc_post hts (fun R => q Z σ G H r R S) S ?_⟩
  unfold sSet at hp
  cases e1 : eLc (own.map (·.2)) t fi fc fe r with
  | ok o r1 =>
    simp only [e1] at hp
    intro v G1 H1 S1 X1 R1
    cases e2 : keep i o r1 with
    | none => simp only [e2] at hp; exact hp.elim
    | some r2 =>
      simp only [e2] at hp
      obtain ⟨G2, S2⟩ := S1.keep R1 e2
      exact hp _ G2 H1 S2
  | err c r1 => simp only [e1] at hp; exact fun C G1 H1 S1 X1 m => hp C σ G1 H1 S1 m
  | bad => simp only [e1] at hp; exact hp.elim
end
end DL
end

section
set_option Elab.async false
set_option linter.all false
set_option maxRecDepth 100000
set_option autoImplicit false
/-! DL14: operators in place, pairs stored, raise, a law's end. -/
namespace DL
open PySem PySem.Spec PyProof.Rows L2
section
variable {X : Cx} {W : WX} {a b e : Expr} {fa fb : E} {pos : Pos}
theorem opd_iadd : OpD X (inplaceOp .Add) gIAdd := by
  refine ⟨_, (iop_add (X := X)).or iop_add_str, ?_⟩
  intro Z σ G H r x y dx dy o Q S hx hy e h
  unfold gIAdd at e
  cases dx <;> cases dy <;> first | (cases e; done) | skip
  · cases hx; cases hy; cases e
    exact .inl ⟨_, _, rfl, rfl, h.int S⟩
  · cases hx; cases hy
    dsimp only at e; split at e <;> cases e
    rename_i hz
    exact .inr ⟨_, _, rfl, rfl, hz, h.str S⟩
theorem iop_mulI : OpR X (inplaceOp .Mult) (rI mulOk fun i j => .int (i * j)) := opI fun i j _ _ _ _ _ hc q => by
  rcases hc with k | k | k
  · exact imul_int q (.of_left (intBits_le_64 (by omega) (by omega)))
  · exact imul_int q (.of_right (intBits_le_64 (by omega) (by omega)))
  · exact imul_int q (CMulW.ok k)
theorem opd_imul : OpD X (inplaceOp .Mult) gIMul := by
  refine ⟨_, iop_mulI, ?_⟩
  intro Z σ G H r x y dx dy o Q S hx hy e h
  unfold gIMul at e
  cases dx <;> cases dy <;> first | (cases e; done) | skip
  cases hx; cases hy
  dsimp only at e; split at e <;> cases e
  rename_i hz
  exact ⟨_, _, rfl, rfl, hz, h.int S⟩
theorem opd_isub : OpD X (inplaceOp .Sub) gSub := by
  refine ⟨_, iop_sub, ?_⟩
  intro Z σ G H r x y dx dy o Q S hx hy e h
  unfold gSub at e
  cases dx <;> cases dy <;> first | (cases e; done) | skip
  cases hx; cases hy; cases e
  exact ⟨_, _, rfl, rfl, h.int S⟩
theorem iop_fdivI : OpR X (inplaceOp .FloorDiv) (rI (fun _ j => j ≠ 0 ∧ j.natAbs.log2 < 9000) fun i j => .int (i.fdiv j)) := opI fun _ _ _ _ _ _ _ hc q => ifloordiv_int hc.1 q (.inl (PyProof.noPylong_of_log2 hc.2))
theorem opd_ifdiv : OpD X (inplaceOp .FloorDiv) gFdiv := by
  refine ⟨_, iop_fdivI, ?_⟩
  intro Z σ G H r x y dx dy o Q S hx hy e h
  unfold gFdiv at e
  cases dx <;> cases dy <;> first | (cases e; done) | skip
  cases hx; cases hy
  dsimp only at e; split at e <;> cases e
  rename_i hz
  exact ⟨_, _, rfl, rfl, hz, h.int S⟩
theorem own_setVa {r : Ev} {σ : L2.St} {i : Nat} {d : D} {v : V} {a : Addr} (h : ownAt (r.set i (.va d)) (σ.set i (some v)) a) : ownAt r σ a := by
  obtain ⟨j, h1, h2⟩ := h
  obtain ⟨h3, n⟩ := isOw_set h1
  rw [List.getElem?_set_ne (Ne.symm n)] at h2
  exact ⟨j, h3, h2⟩
theorem own_setOw {r : Ev} {σ : L2.St} {i : Nat} {d : D} {a b : Addr} (h : ownAt (r.set i (.ow false d)) (σ.set i (some (.ref a))) b) : b = a ∨ ownAt r σ b := by
  obtain ⟨j, h1, h2⟩ := h
  by_cases e : i = j
  · subst e
    by_cases hl : i < σ.length
    · rw [List.getElem?_set_self hl] at h2; cases h2; exact .inl rfl
    · rw [List.getElem?_eq_none (by simpa using hl)] at h2; cases h2
  · rw [List.getElem?_set_ne e] at h1 h2
    exact .inr ⟨j, h1, h2⟩
/-- a, b = x, y: two local names -/
theorem ds_par {i j : Nat} {x y : Str} {px py pt : Pos} {kt k2 pt2} (hc : X.calm = true) (hN : X.N.Nodup) (hi : X.N[i]? = some x) (hj : X.N[j]? = some y) (hij : i ≠ j)
    (hx : X.env.scope.names.lookup x = some .local) (hy : X.env.scope.names.lookup y = some .local) (ha : DE X W a fa) (hb : DE X W b fb)
    (hw : swappedStores [.Tuple [.Name x px, .Name y py] kt pt] (.Tuple [a, b] k2 pt2) X.env = pure (some [x, y]))
    (hs : swapsWithSole [.Tuple [.Name x px, .Name y py] kt pt] (.Tuple [a, b] k2 pt2) pos.line X.env = pure false := by rfl)
    (hs1 : starEach [a, b] X.env = (false, eval a X.env) :: starEach [b] X.env := by rfl) (hs2 : starEach [b] X.env = (false, eval b X.env) :: starEach [] X.env := by rfl) :
    DS X W (.Assign [.Tuple [.Name x px, .Name y py] kt pt] (.Tuple [a, b] k2 pt2) pos) (sPar i j fa fb) := by
  obtain ⟨ta, pa, qa⟩ := ha.ex
  obtain ⟨tb, pb, qb⟩ := hb.ex
  refine ⟨_, ps_par hc hN hi hj hij hx hy (pa_cons pa (pa_cons pb pa_nil hs2) hs1) hw hs, fun Z σ G H r D S hp => qa Z σ G H r _ S ?_⟩
  unfold sPar at hp
  cases e1 : fa r with
  | ok o r1 =>
    simp only [e1] at hp
    intro v G1 H1 S1 X1 R1
    refine qb Z σ G1 H1 r1 _ S1 ?_
    cases e2 : fb r1 with
    | ok p r2 =>
      simp only [e2] at hp
      intro w G2 H2 S2 X2 R2
      refine ⟨v, w, rfl, ?_⟩
      have R1' := R1.keep X2
      cases o with
      | br l => exact hp.elim
      | fz d =>
        cases p with
        | br l => exact hp.elim
        | fz d2 => exact hp _ G2 H2 ((S2.setVa R1').setVa R2)
        | tm d2 =>
          obtain ⟨q, eq, g0, h0, no, rm⟩ := R2
          subst eq
          exact hp _ G2 H2 ((S2.setVa R1').setOw g0 h0.1 (fun k => no (own_setVa k)) rm)
      | tm d =>
        obtain ⟨q, eq, g0, h0, no, rm⟩ := R1'
        subst eq
        have S3 := S2.setOw (i := i) g0 h0.1 no rm
        cases p with
        | br l => exact hp.elim
        | fz d2 => exact hp _ G2 H2 (S3.setVa R2)
        | tm d2 =>
          obtain ⟨q2, eq2, g02, h02, no2, rm2⟩ := R2
          subst eq2
          obtain ⟨q', eq', _, _, _, rm1⟩ := R1
          cases eq'
          obtain ⟨u, hu⟩ := rm1.there
          refine hp _ G2 H2 (S3.setOw g02 h02.1 (fun k => ?_) rm2)
          rcases own_setOw k with k | k
          · subst k; have := h02.2; rw [hu] at this; cases this
          · exact no2 k
    | err c r2 => simp only [e2] at hp; exact fun C G' H' S' _ m => hp C σ G' H' S' m
    | bad => simp only [e2] at hp; exact hp.elim
  | err c r1 => simp only [e1] at hp; exact fun C G' H' S' _ m => hp C σ G' H' S' m
  | bad => simp only [e1] at hp; exact hp.elim
end
section
variable {P : Program} {w : World} {K : PySem.W.Frag} {mg : Str → Option Value} {base : Heap}
/-- nothing is promised -/
theorem fn_bad {k : Nat} {f : Addr} {fd : FuncData} {ps : List Str} {m : List Bool} (hm : m.length = ps.length) : FnOk P w K mg base (L2.CX P w) k f fd ps (spD mg K m fun _ => .bad) :=
  ⟨fun vs H Q E ⟨_, _, _, a, _⟩ => by rw [a.length.1]; exact hm, fun _ _ _ _ _ _ _ _ _ _ _ _ _ ⟨_, _, _, _, _, z⟩ => z.elim⟩
end
end DL
end

section
set_option Elab.async false
set_option linter.all false
set_option maxRecDepth 100000
set_option autoImplicit false
/-! DL15: gcd, raise, try over data; a law's end. -/
namespace DL
open PySem PySem.Spec PyProof.Rows L2
section
variable {X : Cx} {W : WX} {a b e : Expr} {es : List Expr} {fa fb : E} {f : A} {pos : Pos}
theorem cd_gcd : CallD X (.builtin "math.gcd") gGcd := by
  refine ⟨_, cr_gcd, ?_⟩
  intro Z σ G H r xs ds o Q S hs e h
  unfold gGcd at e
  split at e
  · obtain ⟨v, w, rfl, k1, k2⟩ := rh2 hs
    cases e; cases k1; cases k2
    exact ⟨_, _, rfl, h.int S⟩
  · cases e
theorem de_callM {id : String} {g : List D → Option Op} {x : Str} {p : Pos} (hc : CallD X (.builtin id) g) (hg : Gl X x) (hm : X.mg x = some (.builtin id)) (ha : DA X W (e :: es) f) (hdb : (x == ("__debug__" : Str)) = false := by decide)
    (he : starEach (e :: es) X.env = (false, eval e X.env) :: starEach es X.env := by rfl) (hpl : (backTo pos (starEach es X.env)).any (·.1) = false := by rfl) : DE X W (.Call (.Name x p) (e :: es) [] pos) (ePure g f) := by
  obtain ⟨rr, po, qo⟩ := hc
  obtain ⟨t, p, q⟩ := ha.ex
  exact ⟨_, pe_callBfun po hg hm p hdb he hpl, fun Z σ G H r Q S hp => pure_op q qo S hp⟩
/-- what the text's class of an error must have -/
structure ErrC (K : FG) (C : Addr) : Prop where
  ex : PySem.W.excIn K C [.type "ValueError", .type "Exception", .type "BaseException", .type "object"] "ValueError.__new__" = true
  kp : PySem.W.keepIn K (.ref C) = true
  be : PySem.W.subIn K (.ref C) (.type "BaseException") = some true
  ty : PySem.W.typeIn K (.ref C) = some (.type "type")
  hd : PySem.W.hasDictIn K C = true
theorem ds_raise {x m : Str} {C : Addr} {j : Nat} {p p2 pos pos2 : Pos} (hc : X.calm = true) (tk : Takes X W) (gC : X.mg x = some (.ref C)) (kC : ErrC X.K C) (hg : Gl X x) (hdb : (x == ("__debug__" : Str)) = false := by decide) :
    DS X W (.Raise (some (.Call (.Name x p) [.Constant (.str m) j p2] [] pos)) none pos2) (sRaise x) :=
  ⟨_, ps_raise hc tk (pmk_own PySem.F.excBase_ValueError kC.ex gC kC.kp (raises_own kC.be kC.ty) hg hdb), fun Z σ G H r D S hp => hp C σ G H S gC⟩
def tDB (X : Cx) (W : WX) (f : S) : L2.TS := fun D σ H => ∃ Z G r, RS X.K Z G H r σ ∧ SPost X W Z D (f r)
theorem DB.canon {sts : List Stmt} {f : S} (h : DB X W sts f) : PSs X sts (tDB X W f) := by
  obtain ⟨t, p, q⟩ := h.ex
  exact ⟨fun pins s σ H D I ⟨Z, G, r, S, hp⟩ => p.run pins s σ H D I (q Z σ G H r D S hp)⟩
def tSu (X : Cx) (sub : Str → Option Bool) (h : Str → S) : Addr → Value → Option Addr → L2.TS := fun _ cls d D σ H => ∃ c C, X.mg c = some (.ref C) ∧ cls = .ref C ∧ d = none ∧ sub c = some true ∧ ∃ Z G r, RS X.K Z G H r σ ∧ SPost X (fun _ _ _ _ => False) Z D (h c r)
theorem ds_try {body suite : List Stmt} {b₀ : Stmt} {x : Str} {C0 : Addr} {np pos pos' : Pos} {fb : S} {fs : Str → S} {sub : Str → Option Bool} (hs : X.stack = X.env :: X.outer) (hf : X.env.frame = some X.env.locals) (gC : X.mg x = some (.ref C0)) (kC : ErrC X.K C0) (tk : Takes X W) (hg : Gl X x)
    (hsub : ∀ c C b, sub c = some b → X.mg c = some (.ref C) → PySem.W.subIn X.K (.ref C) (.ref C0) = some b)
    (hb : ∀ (W' : WX) (pn : List (Addr × Obj)) (xe : Value → Shared → Prop), Takes (X.tr pn xe) W' → PassesOwn (model X.prog X.w) X.A X.env xe → DB (X.tr pn xe) W' body fb)
    (hsu : ∀ (c : Str) (C : Addr), sub c = some true → X.mg c = some (.ref C) → ∀ (a : Addr) (oe : Obj) (pn : List (Addr × Obj)), Zc (.ref C) none oe → (∃ vs, oe.data = .fields vs) → DB (X.suite a ((a, oe) :: pn)) (fun _ _ _ _ => False) (b₀ :: suite) (fs c))
    (hdb : (x == ("__debug__" : Str)) = false := by decide) :
    DS X W (.Try body [.ExceptHandler (some (.Name x np)) none (b₀ :: suite) pos'] [] [] pos) (sTry sub fb fs) := by
  refine ⟨_, ps_try_only (tb := fun W' => tDB X W' fb) (ts := tSu X sub fs) (Wout := W) (c := .ref C0) hs hf ⟨hg, hdb, .inl gC⟩ tk (fun W' pn xe tk' po => (hb W' pn xe tk' po).canon) (fun a oe cls d pn hz hv => ⟨fun pins s σ H D I ⟨c, C, h1, h2, h3, h4, Z, G, r, S, hp⟩ => ?_⟩), fun Z σ G H r D S hp => ?_⟩
  · subst h2 h3
    obtain ⟨t, p, q⟩ := (hsu c C h4 h1 a oe pn hz hv).ex
    exact p.run pins s σ H D I (q Z σ G H r D S hp)
  · refine ⟨Z, G, r, S, ?_⟩
    unfold sTry at hp
    cases e1 : fb r with
    | err c r1 =>
      simp only [e1] at hp
      intro C σ1 G1 H1 S1 hC
      cases e2 : sub c with
      | none => simp only [e2] at hp; exact hp.elim
      | some k =>
        refine ⟨k, PySem.W.exm_ref kC.be kC.hd kC.ty (hsub c C k e2 hC), fun hk a ha => ?_, fun hk => ?_⟩
        · subst hk
          simp only [e2] at hp
          refine ⟨c, C, hC, rfl, rfl, e2, Z, G1, r1, S1, ?_⟩
          cases e3 : fs c r1 with
          | err c' r2 => simp only [e3] at hp; exact hp.elim
          | nx _ => simp only [e3] at hp; exact hp
          | brk _ => simp only [e3] at hp; exact hp
          | cnt _ => simp only [e3] at hp; exact hp
          | ret _ _ => simp only [e3] at hp; exact hp
          | bad => simp only [e3] at hp; exact hp.elim
        · subst hk
          simp only [e2] at hp
          exact hp C σ1 G1 H1 S1 hC
    | nx _ => simp only [e1] at hp; exact hp
    | brk _ => simp only [e1] at hp; exact hp
    | cnt _ => simp only [e1] at hp; exact hp
    | ret _ _ => simp only [e1] at hp; exact hp
    | bad => simp only [e1] at hp; exact hp.elim
end
/-! ### a law's end -/
def spEnd (K : FG) : Sp := fun vs H Q _ => ∃ (a : Addr) (ns : List Int), vs = [.ref a] ∧ SqL K H a (ns.map V.int) ∧ ns.length ≤ 63 ∧ ∀ H', Q (.bl true) H'
theorem law_end {P : Program} {w : World} {K : FG} {mg : Str → Option Value} {base : Heap} {k : Nat} {f : Addr} {fd : FuncData} {ps : List Str} {F : FD} (h : FnOk P w K mg base (L2.CX P w) k f fd ps (spD mg K [false] F)) (hF : ∀ ns : List Int, ns.length ≤ 63 → F [.kls (ns.map .int)] = .ok (.fz (.bl true)) []) :
    FnOk P w K mg base (L2.CX P w) k f fd ps (spEnd K) := by
  refine h.imp fun vs H Q E ⟨a, ns, ev, hS, hl, q⟩ => ?_
  subst ev
  refine ⟨H, [.kls (ns.map .int)], Same.refl _, .va (.kls hS (RDs.ints ns)) .nil, by unfold ioA; exact .nil, ?_⟩
  rw [hF ns hl]
  intro v G' H' _ _ R
  cases R
  exact q H'
theorem cx_end {P : Program} {w : World} {H : Hp} {s : Shared} {e : Value} {s' : Shared} (h : L2.CX P w [] H s (fun _ _ _ => False) e s') : False := by
  obtain ⟨_, _, _, _, _, _, _, _, _, _, _, _, z⟩ := h
  exact z
end DL
end

section
set_option Elab.async false
set_option linter.all false
set_option maxRecDepth 100000
set_option autoImplicit false
/-! DL16: dict displays, zip, enumerate, list(range), reversed slices over data. -/
namespace DL
open PySem PySem.Spec PyProof.Rows L2
section
variable {X : Cx} {W : WX} {tg a b c e : Expr} {es : List Expr} {fa fb fc : E} {pos : Pos}
theorem de_newK : DE X W (.Dict [] [] pos) eNewK := by
  refine ⟨_, pe_dnewK, fun Z σ G H r Q S hp p hn => ?_⟩
  obtain ⟨S1, X1⟩ := S.newH (o := .dK []) hn
  obtain ⟨g0, h0, no⟩ := S.fresh hn
  exact hp _ G _ S1 X1 ⟨p, rfl, g0, ⟨h0, hn⟩, no, [], upd_same, rfl, .nil⟩
theorem de_newT : DE X W (.Dict [] [] pos) eNewT := by
  refine ⟨_, pe_dnewT, fun Z σ G H r Q S hp p hn => ?_⟩
  obtain ⟨S1, X1⟩ := S.newH (o := .dT []) hn
  obtain ⟨g0, h0, no⟩ := S.fresh hn
  exact hp _ G _ S1 X1 ⟨p, rfl, g0, ⟨h0, hn⟩, no, [], upd_same, rfl, .nil⟩
theorem cd_dictOf : CallD X (.type "dict") gDictOf := by
  refine ⟨_, call_dictD, ?_⟩
  intro Z σ G H r xs ds o Q S hs e h
  unfold gDictOf at e
  split at e
  · obtain ⟨v, rfl, k⟩ := rh1 hs
    cases e
    obtain ⟨a, ws, rfl, h1, h2, h3⟩ := k
    exact ⟨a, ws, rfl, h1, fun p hp => h.new S hp ⟨ws, upd_same, h2, h3⟩⟩
  · cases e
theorem cd_str : CallD X (.type "str") gStr := by
  refine ⟨_, (call_str_int (X := X)).or SkE.call_str_str, ?_⟩
  intro Z σ G H r xs ds o Q S hs e h
  unfold gStr at e
  split at e
  · obtain ⟨v, rfl, k⟩ := rh1 hs
    cases k
    split at e <;> cases e
    rename_i hz
    exact .inl ⟨_, rfl, hz, h.str S⟩
  · obtain ⟨v, rfl, k⟩ := rh1 hs
    cases k; cases e
    exact .inr ⟨_, rfl, h.str S⟩
  · cases e
theorem de_revL {k : Nat} {p1 p2 p3 : Pos} (ha : DE X W a fa) : DE X W (.Subscript a (.Slice none none (some (.UnaryOp .USub (.Constant (.int 1) k p1) p2)) p3) pos) (eUn gRev fa) := by
  obtain ⟨ta, pa, qa⟩ := ha.ex
  refine ⟨_, pe_revL pa, fun Z σ G H r Q S p => ?_⟩
  refine one_op (X := X) (W := W) (fa := fa) (g := gRev) (rr := fun x H1 Q => ∃ a xs, x = .ref a ∧ SqL X.K H1 a xs ∧ ∀ p, H1 p = none → Q (.ref p) (upd H1 p (.lst xs.reverse))) qa (fun Z σ G H r x dx o Q S hx e h => ?_) S p
  unfold gRev at e
  cases dx <;> first | (cases e; done) | skip
  · cases e
    obtain ⟨a, vs, rfl, h1, h2⟩ := hx
    exact ⟨a, vs, rfl, .of h1, fun p hp => h.lst S h2.reverse hp⟩
  · cases e
    cases hx with | kls h1 h2 =>
    exact ⟨_, _, rfl, S.sg.seq h1, fun p hp => h.lst S h2.reverse hp⟩
theorem rgV_up : ∀ (n : Nat) (lo : Int), (List.range n).map (fun (i : Nat) => V.int (lo + (i : Nat))) = (upFrom lo n).map (fun d => match d with | .int i => V.int i | _ => V.non)
  | 0, _ => rfl
  | n + 1, lo => by
    rw [List.range_succ_eq_map, List.map_cons, List.map_map, upFrom, List.map_cons, ← rgV_up n (lo + 1)]
    congr 1
    · simp
    · apply List.map_congr_left
      intro i _
      simp only [Function.comp]
      congr 1
      omega
theorem RDs.up {K : FG} {G : Hp} : ∀ (n : Nat) (lo : Int), RDs K G (upFrom lo n) ((upFrom lo n).map (fun d => match d with | .int i => V.int i | _ => V.non))
  | 0, _ => .nil
  | n + 1, lo => .cons (.int lo) (RDs.up n (lo + 1))
theorem rgV_R {K : FG} {G : Hp} (i j : Int) : RDs K G (upFrom i (j - i).toNat) (rgV i j) := by
  unfold rgV
  rw [rgV_up]
  exact RDs.up _ _
theorem de_lstR1 {p p2 pos2 : Pos} (hc : X.calm = true) (hg : Gl X "list") (hm : X.mg "list" = none) (hg2 : Gl X "range") (hm2 : X.mg "range" = none) (ha : DE X W a fa) (na : starEach [a] X.env = (false, eval a X.env) :: starEach [] X.env := by rfl)
    (nb : starEach [.Call (.Name "range" p2) [a] [] pos2] X.env = (false, eval (.Call (.Name "range" p2) [a] [] pos2) X.env) :: starEach [] X.env := by rfl) : DE X W (.Call (.Name "list" p) [.Call (.Name "range" p2) [a] [] pos2] [] pos) (eLstR1 fa) := by
  obtain ⟨ta, pa, qa⟩ := ha.ex
  refine ⟨_, pe_listRg hc hg hm (prg_1 hg2 hm2 pa na) nb, fun Z σ G H r Q S hp => qa Z σ G H r _ S ?_⟩
  unfold eLstR1 at hp
  cases e1 : fa r with
  | ok o r1 =>
    simp only [e1] at hp
    cases o <;> first | (exact hp.elim) | skip
    rename_i d
    cases d <;> first | (exact hp.elim) | skip
    rename_i j
    intro v G1 H1 S1 X1 R1
    cases R1
    dsimp only at hp
    split at hp
    · rename_i hj
      refine ⟨j, rfl, ⟨by decide, by decide, hj.1.1, hj.1.2, by rw [Int.sub_zero]; exact hj.2⟩, fun q hq => ?_⟩
      have rd := rgV_R (K := X.K) (G := G1) 0 j
      rw [Int.sub_zero] at rd
      obtain ⟨S2, X2⟩ := S1.newH (o := .lst (rgV 0 j)) hq
      obtain ⟨g0, h0, no⟩ := S1.fresh hq
      exact hp _ G1 _ S2 (X1.trans X2) ⟨q, rfl, g0, ⟨h0, X1.n _ hq⟩, no, _, upd_same, rd⟩
    · exact hp.elim
  | err c r1 => simp only [e1] at hp; exact hp
  | bad => simp only [e1] at hp; exact hp.elim
theorem de_lstR2 {p p2 pos2 : Pos} (hc : X.calm = true) (hg : Gl X "list") (hm : X.mg "list" = none) (hg2 : Gl X "range") (hm2 : X.mg "range" = none) (ha : DE X W a fa) (hb : DE X W b fb)
    (na : starEach [a, b] X.env = (false, eval a X.env) :: starEach [b] X.env := by rfl) (nb : starEach [b] X.env = (false, eval b X.env) :: starEach [] X.env := by rfl) (hpl : (backTo pos2 (starEach [b] X.env)).any (·.1) = false := by rfl)
    (nc : starEach [.Call (.Name "range" p2) [a, b] [] pos2] X.env = (false, eval (.Call (.Name "range" p2) [a, b] [] pos2) X.env) :: starEach [] X.env := by rfl) : DE X W (.Call (.Name "list" p) [.Call (.Name "range" p2) [a, b] [] pos2] [] pos) (eLstR2 fa fb) := by
  obtain ⟨ta, pa, qa⟩ := ha.ex
  obtain ⟨tb, pb, qb⟩ := hb.ex
  refine ⟨_, pe_listRg hc hg hm (prg_2 hg2 hm2 pa pb na nb hpl) nc, fun Z σ G H r Q S hp => qa Z σ G H r _ S ?_⟩
  unfold eLstR2 at hp
  cases e1 : fa r with
  | ok o r1 =>
    simp only [e1] at hp
    cases o <;> first | (exact hp.elim) | skip
    rename_i d
    cases d <;> first | (exact hp.elim) | skip
    rename_i i
    intro v G1 H1 S1 X1 R1
    cases R1
    dsimp only at hp
    refine qb Z σ G1 H1 r1 _ S1 ?_
    cases e2 : fb r1 with
    | ok o2 r2 =>
      simp only [e2] at hp
      cases o2 <;> first | (exact hp.elim) | skip
      rename_i d
      cases d <;> first | (exact hp.elim) | skip
      rename_i j
      intro v2 G2 H2 S2 X2 R2
      cases R2
      dsimp only at hp
      split at hp
      · rename_i hj
        refine ⟨i, j, rfl, rfl, ⟨hj.1.1.1, hj.1.1.2, hj.1.2.1, hj.1.2.2, hj.2⟩, fun q hq => ?_⟩
        have rd := rgV_R (K := X.K) (G := G2) i j
        obtain ⟨S3, X3⟩ := S2.newH (o := .lst (rgV i j)) hq
        obtain ⟨g0, h0, no⟩ := S2.fresh hq
        exact hp _ G2 _ S3 ((X1.trans X2).trans X3) ⟨q, rfl, g0, ⟨h0, X1.n _ (X2.n _ hq)⟩, no, _, upd_same, rd⟩
      · exact hp.elim
    | err c r2 => simp only [e2] at hp; exact fun C G' H' S' x m => hp C G' H' S' (X1.trans x) m
    | bad => simp only [e2] at hp; exact hp.elim
  | err c r1 => simp only [e1] at hp; exact hp
  | bad => simp only [e1] at hp; exact hp.elim
/-! ### zip, enumerate -/
theorem zipD_get : ∀ {xs ys : List D} {i : Nat} {d : D}, (zipD xs ys)[i]? = some d → ∃ x y, xs[i]? = some x ∧ ys[i]? = some y ∧ d = .tup [x, y]
  | [], _, i, d, h => by simp [zipD] at h
  | _ :: _, [], i, d, h => by simp [zipD] at h
  | x :: xs, y :: ys, 0, d, h => by
    have h' : some (D.tup [x, y]) = some d := h
    cases h'; exact ⟨x, y, rfl, rfl, rfl⟩
  | x :: xs, y :: ys, i + 1, d, h => by
    have h' : (zipD xs ys)[i]? = some d := h
    exact zipD_get (xs := xs) (ys := ys) (i := i) h'
theorem zipD_len : ∀ (xs ys : List D), (zipD xs ys).length = min xs.length ys.length
  | [], _ => by simp [zipD]
  | _ :: _, [] => by simp [zipD]
  | x :: xs, y :: ys => by
    show (zipD xs ys).length + 1 = _
    rw [zipD_len]; simp
theorem itr_pair {K : FG} {Z : Fr0} {G1 H : Hp} {σ : L2.St} {r : Ev} {T : Addr} {x y : V} {dx dy : D} (S : RS K Z G1 H r σ) (hT : H T = none) (h1 : RD K G1 dx x) (h2 : RD K G1 dy y) :
    ∃ G', RS K Z G' (upd H T (.tup [x, y])) r σ ∧ EX σ G1 H r G' (upd H T (.tup [x, y])) r ∧ RD K G' (.tup [dx, dy]) (.ref T) := by
  obtain ⟨S1, X1, R1⟩ := S.newT hT (.cons h1 (.cons h2 .nil))
  exact ⟨_, S1, X1, R1⟩
theorem itr_zipL {K : FG} {Z : Fr0} {G : Hp} {a b : Addr} {vs ws : List V} {xs ys : List D} (h : SqL K G a vs) (rd : RDs K G xs vs) (h2 : SqL K G b ws) (rd2 : RDs K G ys ws) : ItR K Z G (Itz K a b) (zipD xs ys) := by
  intro i σ r G1 H S sm
  have hq : SqL K H a vs := S.sg.seq (sm.seq h)
  have hq2 : SqL K H b ws := S.sg.seq (sm.seq h2)
  refine ⟨fun hl => ⟨vs, ws, hq, hq2, ?_⟩, fun d hd => ?_⟩
  · rw [zipD_len] at hl
    rw [← rd.length, ← rd2.length]; omega
  · obtain ⟨x, y, e1, e2, rfl⟩ := zipD_get hd
    obtain ⟨v, p1, p2⟩ := rd.get e1
    obtain ⟨w, q1, q2⟩ := rd2.get e2
    refine ⟨⟨vs, ws, v, w, hq, hq2, p1, q1⟩, fun z H' ⟨T, x', y', ez, hT, eH, k1, k2⟩ => ?_⟩
    have z1 := k1 vs hq
    have z2 := k2 ws hq2
    rw [p1] at z1; cases z1
    rw [q1] at z2; cases z2
    subst ez eH
    exact itr_pair S hT (p2.mono sm) (q2.mono sm)
theorem itr_zipT {K : FG} {Z : Fr0} {G : Hp} {a b : Addr} {vs ws : List V} {xs ys : List D} (h : SqT K G a vs) (rd : RDs K G xs vs) (h2 : SqT K G b ws) (rd2 : RDs K G ys ws) : ItR K Z G (RZ.ItzT K a b) (zipD xs ys) := by
  intro i σ r G1 H S sm
  have hq : SqT K H a vs := Same.seqT S.sg (Same.seqT sm h)
  have hq2 : SqT K H b ws := Same.seqT S.sg (Same.seqT sm h2)
  refine ⟨fun hl => ⟨vs, ws, hq, hq2, ?_⟩, fun d hd => ?_⟩
  · rw [zipD_len] at hl
    rw [← rd.length, ← rd2.length]; omega
  · obtain ⟨x, y, e1, e2, rfl⟩ := zipD_get hd
    obtain ⟨v, p1, p2⟩ := rd.get e1
    obtain ⟨w, q1, q2⟩ := rd2.get e2
    refine ⟨⟨vs, ws, v, w, hq, hq2, p1, q1⟩, fun z H' ⟨T, x', y', ez, hT, eH, k1, k2⟩ => ?_⟩
    have z1 := k1 vs hq
    have z2 := k2 ws hq2
    rw [p1] at z1; cases z1
    rw [q1] at z2; cases z2
    subst ez eH
    exact itr_pair S hT (p2.mono sm) (q2.mono sm)
theorem asL_RD {K : FG} {G H : Hp} {d : D} {v : V} {ds : List D} (rd : RD K G d v) (e : asL d = some ds) : ∃ a vs, v = .ref a ∧ SqL K G a vs ∧ RDs K G ds vs := by
  cases d <;> first | (cases e; done) | skip
  · cases e; cases rd with | lst h1 h2 => exact ⟨_, _, rfl, .of h1, h2⟩
  · cases e; cases rd with | kls h1 h2 => exact ⟨_, _, rfl, h1, h2⟩
theorem asT_RD {K : FG} {G : Hp} {d : D} {v : V} {ds : List D} (rd : RD K G d v) (e : asT d = some ds) : ∃ a vs, v = .ref a ∧ SqT K G a vs ∧ RDs K G ds vs := by
  cases d <;> first | (cases e; done) | skip
  · cases e; cases rd with | tup h1 h2 => exact ⟨_, _, rfl, .inl (.inl h1), h2⟩
  · cases e; cases rd with | ktp h1 h2 => exact ⟨_, _, rfl, h1, h2⟩
theorem di_zip {p tpos : Pos} {elts : List Expr} {kk : Nat} (hg : Gl X "zip") (hm : X.mg "zip" = none) (ha : DE X W a fa) (hb : DE X W b fb) (hs : starEach [a, b] X.env = (false, eval a X.env) :: starEach [b] X.env := by rfl)
    (hs2 : starEach [b] X.env = (false, eval b X.env) :: starEach [] X.env := by rfl) (hpl : (backTo pos (starEach [b] X.env)).any (·.1) = false := by rfl) : DI X W (.Tuple elts kk tpos) (.Call (.Name "zip" p) [a, b] [] pos) (iZip fa fb) := by
  obtain ⟨ta, pa, qa⟩ := ha.ex
  obtain ⟨tb, pb, qb⟩ := hb.ex
  refine ⟨_, RZ.pi_zipA hg hm (pa_cons pa (pa_cons pb pa_nil hs2) hs) hs hpl, fun Z σ G H r R S hp => ?_⟩
  refine qa Z σ G H r _ S ?_
  unfold iZip at hp
  cases e1 : fa r with
  | ok o r1 =>
    simp only [e1] at hp
    intro v G1 H1 S1 X1 R1
    refine qb Z σ G1 H1 r1 _ S1 ?_
    cases e2 : fb r1 with
    | ok o2 r2 =>
      simp only [e2] at hp
      intro w G2 H2 S2 X2 R2
      cases e3 : fzo r2 o with
      | none => simp only [e3] at hp; exact hp.elim
      | some p3 =>
        obtain ⟨x, r3⟩ := p3
        simp only [e3] at hp
        obtain ⟨G3, S3, rd3, z3, k3⟩ := RO.fzo S2 (R1.keep X2) e3
        cases e4 : fzo r3 o2 with
        | none => simp only [e4] at hp; exact hp.elim
        | some p4 =>
          obtain ⟨y, r4⟩ := p4
          simp only [e4] at hp
          obtain ⟨G4, S4, rd4, z4, _⟩ := RF.fzo S3 (k3 _ _ (.inl (R2.base X1.n))) e4
          have X4 := z4.ex (z3.ex (X1.trans X2))
          cases q1 : asL x with
          | some xs =>
            cases q2 : asL y with
            | some ys =>
              simp only [q1, q2] at hp
              obtain ⟨a1, vs, rfl, h1, h2⟩ := asL_RD (H := H2) (rd3.mono z4.g) q1
              obtain ⟨b1, ws, rfl, h3, h4⟩ := asL_RD (H := H2) rd4 q2
              exact ⟨_, _, vs, ws, rfl, .inl ⟨S4.sg.seq h1, S4.sg.seq h3, hp _ G4 H2 S4 X4 fun Z' => itr_zipL h1 h2 h3 h4⟩⟩
            | none =>
              have hx : asT x = none := by cases x <;> first | rfl | (cases q1; done)
              simp only [q1, q2, hx] at hp
              exact hp.elim
          | none =>
            cases q3 : asT x with
            | none => simp only [q1, q3] at hp; exact hp.elim
            | some xs =>
              cases q4 : asT y with
              | none => simp only [q1, q3, q4] at hp; exact hp.elim
              | some ys =>
                simp only [q1, q3, q4] at hp
                obtain ⟨a1, vs, rfl, h1, h2⟩ := asT_RD (rd3.mono z4.g) q3
                obtain ⟨b1, ws, rfl, h3, h4⟩ := asT_RD rd4 q4
                exact ⟨_, _, vs, ws, rfl, .inr ⟨Same.seqT S4.sg h1, Same.seqT S4.sg h3, hp _ G4 H2 S4 X4 fun Z' => itr_zipT h1 h2 h3 h4⟩⟩
    | err c r2 => simp only [e2] at hp; exact fun C G' H' S' x m => hp C G' H' S' (X1.trans x) m
    | bad => simp only [e2] at hp; exact hp.elim
  | err c r1 => simp only [e1] at hp; exact hp
  | bad => simp only [e1] at hp; exact hp.elim
end
end DL
end

section
set_option Elab.async false
set_option linter.all false
set_option maxRecDepth 100000
set_option autoImplicit false
/-! DL17: enumerate, {k: v}, get, insert over data. -/
namespace DL
open PySem PySem.Spec PyProof.Rows L2
section
variable {X : Cx} {W : WX} {tg a b c e : Expr} {es : List Expr} {fa fb fc : E} {pos : Pos}
theorem enumD_get : ∀ {xs : List D} {k : Int} {i : Nat} {d : D}, (enumD k xs)[i]? = some d → ∃ x, xs[i]? = some x ∧ d = .tup [.int (k + i), x]
  | [], k, i, d, h => by simp [enumD] at h
  | x :: xs, k, 0, d, h => by
    have h' : some (D.tup [.int k, x]) = some d := h
    cases h'; exact ⟨x, rfl, by simp⟩
  | x :: xs, k, i + 1, d, h => by
    have h' : (enumD (k + 1) xs)[i]? = some d := h
    obtain ⟨y, e1, e2⟩ := enumD_get (xs := xs) (i := i) h'
    exact ⟨y, e1, by rw [e2]; congr 3; omega⟩
theorem enumD_len : ∀ (xs : List D) (k : Int), (enumD k xs).length = xs.length
  | [], _ => rfl
  | x :: xs, k => congrArg (· + 1) (enumD_len xs (k + 1))
theorem itr_enum {K : FG} {Z : Fr0} {G : Hp} {a : Addr} {vs : List V} {xs : List D} (h : SqL K G a vs) (rd : RDs K G xs vs) : ItR K Z G (Ite K a) (enumD 0 xs) := by
  intro i σ r G1 H S sm
  have hq : SqL K H a vs := S.sg.seq (sm.seq h)
  refine ⟨fun hl => ⟨vs, hq, by rw [enumD_len] at hl; rw [← rd.length]; exact hl⟩, fun d hd => ?_⟩
  obtain ⟨x, e1, rfl⟩ := enumD_get hd
  obtain ⟨v, p1, p2⟩ := rd.get e1
  refine ⟨⟨vs, v, hq, p1⟩, fun z H' ⟨T, x', ez, hT, eH, k1⟩ => ?_⟩
  have z1 := k1 vs hq
  rw [p1] at z1; cases z1
  subst ez eH
  rw [show (0 : Int) + (i : Int) = (i : Int) by omega]
  exact itr_pair S hT (.int _) (p2.mono sm)
theorem di_enum {p tpos : Pos} {elts : List Expr} {kk : Nat} (hg : Gl X "enumerate") (hm : X.mg "enumerate" = none) (ha : DE X W a fa) (hs : starEach [a] X.env = [(false, eval a X.env)] := by rfl) : DI X W (.Tuple elts kk tpos) (.Call (.Name "enumerate" p) [a] [] pos) (DL.iEnum fa) := by
  obtain ⟨ta, pa, qa⟩ := ha.ex
  refine ⟨_, pi_enum hg hm (pa_cons pa pa_nil hs) hs, fun Z σ G H r R S hp => qa Z σ G H r _ S ?_⟩
  unfold DL.iEnum at hp
  cases e1 : fa r with
  | ok o r1 =>
    simp only [e1] at hp
    intro v G1 H1 S1 X1 R1
    cases e3 : fzo r1 o with
    | none => simp only [e3] at hp; exact hp.elim
    | some p3 =>
      obtain ⟨x, r3⟩ := p3
      simp only [e3] at hp
      obtain ⟨G3, S3, rd3, z3, k3⟩ := RO.fzo S1 R1 e3
      cases q1 : asL x with
      | none => simp only [q1] at hp; exact hp.elim
      | some xs =>
        simp only [q1] at hp
        obtain ⟨a1, vs, rfl, h1, h2⟩ := asL_RD (H := H1) rd3 q1
        exact ⟨_, vs, rfl, S3.sg.seq h1, hp _ G3 H1 S3 (z3.ex X1) fun Z' => itr_enum h1 h2⟩
  | err c r1 => simp only [e1] at hp; exact hp
  | bad => simp only [e1] at hp; exact hp.elim
/-! ### {k: v} -/
theorem kV_of {K : FG} {G H : Hp} {d : D} {v : V} {key : DK} (h : RH K G H d v) (e : keyD d = some key) : v = kV key := by
  cases d <;> first | (cases e; done) | skip
  · cases e; cases h; rfl
  · cases e; cases h; rfl
theorem de_disp1 {fk fv : E} {k v : Expr} (hk : DE X W k fk) (hv : DE X W v fv) : DE X W (.Dict [some k] [v] pos) (eDisp1 fk fv) := by
  obtain ⟨tk, pk, qk⟩ := hk.ex
  obtain ⟨tv, pv, qv⟩ := hv.ex
  refine ⟨_, pe_disp (pps_cons pk pv pps_nil) (by rfl) (by rfl) (by exact nofun) (by show 1 ≤ 15; decide), fun Z σ G H r Q S hp p hn => ?_⟩
  obtain ⟨S0, X0⟩ := S.newH (o := .dK []) hn
  obtain ⟨g0, h0, no⟩ := S.fresh hn
  refine qk Z σ G _ r _ S0 ?_
  unfold eDisp1 at hp
  cases e1 : fk r with
  | ok o r1 =>
    simp only [e1] at hp
    intro x G1 H1 S1 X1 R1
    refine qv Z σ G1 H1 r1 _ S1 ?_
    cases e2 : fv r1 with
    | ok o2 r2 =>
      simp only [e2] at hp
      intro y G2 H2 S2 X2 R2
      cases e3 : rsv r2 o with
      | none => simp only [e3] at hp; exact hp.elim
      | some dk =>
        cases e4 : keyD dk with
        | none => simp only [e3, e4] at hp; exact hp.elim
        | some key =>
          cases e5 : fzo r2 o2 with
          | none => simp only [e3, e4, e5] at hp; exact hp.elim
          | some p5 =>
            obtain ⟨dv, r3⟩ := p5
            simp only [e3, e4, e5] at hp
            have ek := kV_of ((R1.keep X2).rsv S2 e3) e4
            obtain ⟨G3, S3, rd3, z3, _⟩ := RO.fzo S2 R2 e5
            have X12 := X1.trans X2
            have hp2 : H2 p = some (.dK []) := X12.h p _ upd_same no
            have X13 := X1.trans (z3.ex X2)
            have gp2 : G2 p = none := by
              cases q : G2 p with
              | none => rfl
              | some u =>
                rcases X12.f p u q with k | k | k
                · rw [g0] at k; cases k
                · rw [upd_same] at k; cases k
                · exact absurd k no
            have no2 : ¬ ownAt r2 σ p := fun k => no (X12.o p k)
            have nb : H1 p ≠ none := by
              rw [X1.h p _ upd_same no]; exact nofun
            have gp3 : G3 p = none := by
              cases q : G3 p with
              | none => rfl
              | some u =>
                rcases z3.f p u q with k | k | k
                · rw [gp2] at k; cases k
                · exact absurd k no2
                · exact absurd k nb
            have no3 : ¬ ownAt r3 σ p := fun k => no2 (z3.o p k)
            refine ⟨hp2, [(key, y)], by rw [ek]; rfl, by show 1 ≤ 15; decide, ?_⟩
            have em : mergeK [] [(key, y)] = [(key, y)] := rfl
            rw [em]
            have S4 := S3.other (u := .dK [(key, y)]) hp2 gp3 h0 no3
            have X4 : EX σ G H r G3 (upd H2 p (.dK [(key, y)])) r3 := by
              have A := X0.trans X13
              refine ⟨A.g, fun a o h n => ?_, fun a h => ?_, A.f, A.o⟩
              · have na : a ≠ p := fun z => by subst z; rw [hn] at h; cases h
                rw [upd_ne na]; exact A.h a o h n
              · by_cases z : a = p
                · subst z; exact hn
                · rw [upd_ne z] at h; exact A.n a h
            exact hp _ G3 _ S4 X4 ⟨p, rfl, gp3, ⟨h0, hn⟩, no3, [(key, y)], upd_same, rfl, .one rd3⟩
    | err c r2 => simp only [e2] at hp; exact fun C G' H' S' x m => hp C G' H' S' (X0.trans (X1.trans x)) m
    | bad => simp only [e2] at hp; exact hp.elim
  | err c r1 => simp only [e1] at hp; exact fun C G' H' S' x m => hp C G' H' S' (X0.trans x) m
  | bad => simp only [e1] at hp; exact hp.elim
/-! ### d.get(k, x); l.insert(i, y) -/
theorem de_get2 {d k x : Expr} {fd fk fx : E} {apos : Pos} (hu : X.A.units + 1 < cLine) (hd : DE X W d fd) (hk : DE X W k fk) (hx : DE X W x fx) (m : M2 X d "get" apos k x pos) : DE X W (.Call (.Attribute d "get" apos) [k, x] [] pos) (eGet2 fd fk fx) := by
  obtain ⟨td, pd, qd⟩ := hd.ex
  obtain ⟨tk, pk, qk⟩ := hk.ex
  obtain ⟨tx, px, qx⟩ := hx.ex
  refine ⟨_, pe_dget2 hu pd pk px m, fun Z σ G H r Q S hp => qd Z σ G H r _ S ?_⟩
  unfold eGet2 at hp
  cases e1 : fd r with
  | ok o r1 =>
    simp only [e1] at hp
    split at hp
    · rename_i hd0
      intro v G1 H1 S1 X1 R1
      obtain ⟨a, ea, ia⟩ : ∃ a, v = .ref a ∧ IsD H1 a := by
        cases e0 : rsv r1 o with
        | none => rw [e0] at hd0; cases hd0
        | some d0 =>
          rw [e0] at hd0
          have rh := R1.rsv S1 e0
          cases d0 <;> first | (cases hd0; done) | skip
          · obtain ⟨a, ws, rfl, h1, _⟩ := rh; exact ⟨a, rfl, .inl ⟨ws, h1⟩⟩
          · obtain ⟨a, ws, rfl, h1, _⟩ := rh; exact ⟨a, rfl, .inr ⟨ws, .inl h1⟩⟩
      refine ⟨a, ea, ia, qk Z σ G1 H1 r1 _ S1 ?_⟩
      cases e2 : fk r1 with
      | ok p r2 =>
        simp only [e2] at hp
        intro y G2 H2 S2 X2 R2
        refine qx Z σ G2 H2 r2 _ S2 ?_
        cases e3 : fx r2 with
        | ok q r3 =>
          simp only [e3] at hp
          cases q <;> first | (exact hp.elim) | skip
          rename_i dx
          intro z G3 H3 S3 X3 R3
          dsimp only at hp
          cases e4 : rsv r3 o with
          | none => simp only [e4] at hp; exact hp.elim
          | some dd =>
            cases e5 : rsv r3 p with
            | none => simp only [e4, e5] at hp; exact hp.elim
            | some dk =>
              simp only [e4, e5] at hp
              have X13 := X1.trans (X2.trans X3)
              have rd := ((R1.keep X2).keep X3).rsv S3 e4
              have rk := (R2.keep X3).rsv S3 e5
              cases e6 : dget dd dk with
              | none => simp only [e6] at hp; exact hp.elim
              | some od =>
                obtain ⟨a', o', ea', g, kk⟩ := dgetR S3 rd rk e6
                rw [ea] at ea'; cases ea'
                rcases kk with ⟨k1, k2⟩ | ⟨dv, w, k1, k2, rw'⟩
                · subst k1 k2
                  simp only [e6] at hp
                  exact ⟨none, g, hp _ G3 H3 S3 X13 R3⟩
                · subst k1 k2
                  simp only [e6] at hp
                  exact ⟨some w, g, hp _ G3 H3 S3 X13 rw'⟩
        | err c r3 => simp only [e3] at hp; exact fun C G' H' S' x m => hp C G' H' S' (X1.trans (X2.trans x)) m
        | bad => simp only [e3] at hp; exact hp.elim
      | err c r2 => simp only [e2] at hp; exact fun C G' H' S' x m => hp C G' H' S' (X1.trans x) m
      | bad => simp only [e2] at hp; exact hp.elim
    · exact hp.elim
  | err c r1 => simp only [e1] at hp; exact hp
  | bad => simp only [e1] at hp; exact hp.elim
theorem md_insert : MutD X "list.insert" gInsert := by
  refine ⟨_, mt_insert, ?_⟩
  intro G H a d d' ds vs z Q sg rm rd e h
  unfold gInsert at e
  split at e
  · split at e <;> cases e
    rename_i hz
    obtain ⟨ws, k1, k2⟩ := rm
    cases rd with | cons r1 r2 =>
    cases r2 with | cons r3 r4 =>
    cases r4; cases r1
    exact ⟨a, ws, _, _, rfl, rfl, k1, by rw [← k2.length]; exact hz.1, hz.2.1, hz.2.2, h _ _ ⟨_, upd_same, ((k2.take _).append (.one r3)).append (k2.drop _)⟩ ⟨.non, rfl, .non⟩⟩
  · cases e
end
end DL
end

section
set_option Elab.async false
set_option linter.all false
set_option maxRecDepth 100000
set_option autoImplicit false
/-! DL18: dict comprehensions over data. -/
namespace DL
open PySem PySem.Spec PyProof.Rows L2
/-- at a turn's start: the state, what stands since the beginning, the new list -/
structure DcI (K : FG) (Z : Fr0) (σ : L2.St) (vs : List Nat) (Gs Hs : Hp) (rs : Ev) (G H : Hp) (r : Ev) (p : Addr) (acc : List (DK × D)) : Prop where
  S : RS K (Z.at Gs) G H (wipeE r vs) (L2.wipe σ vs)
  h : ∀ a o, Hs a = some o → ¬ ownAt rs σ a → H a = some o
  n : ∀ a, H a = none → Hs a = none
  f : ∀ a o, G a = some o → Gs a = some o ∨ Hs a = none ∨ ownAt rs σ a
  o : ∀ a, ownAt (wipeE r vs) (L2.wipe σ vs) a → ownAt rs σ a
  l : r.length = rs.length
  d : ∃ ws, H p = some (.dK ws) ∧ ws.map (·.1) = acc.map (·.1) ∧ RDs K G (acc.map (·.2)) (ws.map (·.2))
  g0 : G p = none
  h0 : Hs p = none
section
variable {X : Cx} {W : WX} {tg : Expr} {t : Tg} {fi : I} {fc : T} {fk fv : E} {vs : List Nat}
theorem dc_post {wi : L2.TI} (hts : ∀ i ∈ t.slots, i ∈ vs) {Z : Fr0} {σ : L2.St} {G H : Hp} {r : Ev} {Q : VK} (qi : ∀ (R : L2.It → Hp → Prop), IPost X W Z σ G H r R (fi r) → wi σ H R) (S : RS X.K Z G H r σ) (hp : EPost X W Z σ G H r Q (eDc vs t fi fc fk fv r)) : tDc wi (tDG X t) (tDT X W0 fc) (tD X W0 fk) (tD X W0 fv) vs σ H Q := by
  refine qi _ ?_
  unfold eDc at hp
  cases e1 : fi r with
  | ok ds rs =>
    simp only [e1] at hp
    split at hp
    · rename_i hvs
      have hv : ∀ v ∈ vs, isOw rs[v]? = false := fun v k => by
        have := List.all_eq_true.mp hvs v k
        cases q : isOw rs[v]? with
        | false => rfl
        | true => rw [q] at this; cases this
      intro J Gs Hs Ss Xs it p hpn
      have it1 := it (Z.at Gs)
      obtain ⟨gp, h0p, nop⟩ := Ss.fresh hpn
      have ow_w : ∀ {a : Addr}, ownAt (wipeE rs vs) (L2.wipe σ vs) a → ownAt rs σ a := fun {a} ⟨i, k1, k2⟩ => by
        have hi : i ∉ vs := fun k => by
          obtain ⟨b, d, e⟩ := isOw_some k1
          have := wipeE_in k e
          cases this
        exact ⟨i, by rw [← wipeE_out hi]; exact k1, by rw [← wipe_out hi]; exact k2⟩
      have S0 : RS X.K (Z.at Gs) Gs (upd Hs p (.dK [])) rs σ := ((Ss.newH (o := .dK []) hpn).1).fwd Ss.g0 (Same.refl _)
      have start : DcI X.K Z σ vs Gs Hs rs Gs (upd Hs p (.dK [])) rs p [] :=
        ⟨S0.wipe vs, fun a o h n => same_new hpn a o h, fun a h => by
          by_cases z : a = p
          · subst z; exact hpn
          · rw [upd_ne z] at h; exact h, fun a o h => .inl h, fun a h => ow_w h, rfl, ⟨[], upd_same, rfl, .nil⟩, gp, hpn⟩
      refine ⟨fun i m H => i + m = ds.length ∧ ∃ G r acc, DcI X.K Z σ vs Gs Hs rs G H r p acc ∧ EPost X W Z σ Gs Hs rs Q (dcGo vs t fc fk fv rs (ds.drop i) acc r), ⟨ds.length, by omega, Gs, rs, [], start, EPost.pre Xs (by simpa using hp)⟩, fun i m H hW => ?_⟩
      obtain ⟨hm, G, r, acc, L, pp⟩ := hW
      obtain ⟨j1, j2⟩ := it1 i (L2.wipe σ vs) (wipeE r vs) G H L.S L.S.g0
      cases hd : ds[i]? with
      | none =>
        have hl : ds.length ≤ i := List.getElem?_eq_none_iff.mp hd
        refine .inl ⟨j1 hl, ?_⟩
        rw [List.drop_eq_nil_of_le hl] at pp
        have Sb : RS X.K (Z.at Gs) G H (backE rs r vs) σ := RS.back (S0) L.S L.l hv L.S.g0
        have ob : ∀ a, ownAt (backE rs r vs) σ a → ownAt rs σ a := fun a ⟨i, k1, k2⟩ => by
          by_cases hi : i ∈ vs
          · obtain ⟨b, d, e⟩ := isOw_some k1
            have := backE_in hi e
            rw [List.getD_eq_getElem?_getD] at this
            have h2 := hv i hi
            cases q : rs[i]? with
            | none => rw [q] at this; cases this
            | some x =>
              rw [q] at this h2
              have : x = .ow b d := this.symm
              subst this; cases h2
          · rw [backE_out hi] at k1
            exact L.o a ⟨i, by rw [wipeE_out hi]; exact k1, by rw [wipe_out hi]; exact k2⟩
        have X2 : EX σ Gs Hs rs G H (backE rs r vs) := ⟨L.S.g0, L.h, L.n, L.f, ob⟩
        refine pp (.ref p) G H (Sb.bwd Ss.g0 Ss.fr) X2 ⟨p, rfl, L.g0, ⟨h0p, hpn⟩, fun k => nop (ob p k), ?_⟩
        obtain ⟨ws, w1, w2, w3⟩ := L.d
        exact ⟨ws, w1, w2, w3⟩
      | some d =>
        obtain ⟨k1, k2⟩ := j2 d hd
        have hil : i < ds.length := (List.getElem?_eq_some_iff.mp hd).1
        have hdr : ds.drop i = d :: ds.drop (i + 1) := by
          rw [List.drop_eq_getElem_cons hil, (List.getElem?_eq_some_iff.mp hd).2]
        rw [hdr] at pp
        unfold dcGo at pp
        refine .inr ⟨k1, fun H' => ∃ G' r' acc', DcI X.K Z σ vs Gs Hs rs G' H' r' p acc' ∧ EPost X W Z σ Gs Hs rs Q (dcGo vs t fc fk fv rs (ds.drop (i + 1)) acc' r'), fun H' ⟨G', r', acc', L', p'⟩ => ⟨m - 1, by omega, by omega, G', r', acc', L', p'⟩, fun x H2 y => ?_⟩
        obtain ⟨G2, S2, X2, rd⟩ := k2 x H2 y
        cases e2 : t.put d (wipeE r vs) with
        | none => simp only [e2] at pp; exact pp.elim
        | some r1 =>
          simp only [e2] at pp
          refine ⟨Z.at Gs, G2, wipeE r vs, r1, d, S2, rd, e2, fun σ3 S3 ⟨l3, o3⟩ => ?_⟩
          have ew : L2.wipe σ3 vs = L2.wipe σ vs := by
            refine (wipe_ext l3 fun i hi => o3 i fun k => hi (hts i k)).trans ?_
            exact wipe_ext (wipe_length σ vs) fun i hi => wipe_out hi
          refine ⟨ew, Z.at Gs, G2, r1, S3, ?_⟩
          -- what stands through the turn
          have now1 : ∀ a, ownAt r1 σ3 a → ownAt (wipeE r vs) (L2.wipe σ vs) a := fun a ⟨i, h1, h2⟩ => by
            have h1' := isOw_put e2 h1
            have hi : i ∉ vs := fun k => by
              obtain ⟨b, d, e⟩ := isOw_some h1'
              cases wipeE_in k e
            refine ⟨i, h1', ?_⟩
            rw [← o3 i fun k => hi (hts i k)]; exact h2
          -- after more of the block: a state of the same slots
          have go : ∀ {G4 H4 : Hp} {r4 : Ev} {acc' : List (DK × D)} {u : HO}, RS X.K (Z.at Gs) G4 H4 r4 σ3 → EX σ3 G2 H2 r1 G4 H4 r4 → (u = .dK [] → False) ∨ True → (∃ ws, upd H4 p u p = some (.dK ws) ∧ ws.map (·.1) = acc'.map (·.1) ∧ RDs X.K G4 (acc'.map (·.2)) (ws.map (·.2))) → DcI X.K Z σ vs Gs Hs rs G4 (upd H4 p u) r4 p acc' := fun {G4 H4 r4 acc' u} S4 X4 _ hd => by
            have hp2 : ∃ ws, H2 p = some (.dK ws) := by
              obtain ⟨ws, w1, _, _⟩ := L.d
              exact ⟨ws, X2.h p _ w1 fun k => nop (L.o p k)⟩
            have gp2 : G2 p = none := by
              obtain ⟨ws, w1, _, _⟩ := L.d
              cases q : G2 p with
              | none => rfl
              | some u =>
                rcases X2.f p u q with k | k | k
                · rw [L.g0] at k; cases k
                · rw [w1] at k; cases k
                · exact absurd (L.o p k) nop
            have no1 : ¬ ownAt r1 σ3 p := fun k => nop (L.o p (now1 p k))
            obtain ⟨ws2, hp2⟩ := hp2
            have hp4 : H4 p = some (.dK ws2) := X4.h p _ hp2 no1
            have gp4 : G4 p = none := by
              cases q : G4 p with
              | none => rfl
              | some u =>
                rcases X4.f p u q with k | k | k
                · rw [gp2] at k; cases k
                · rw [hp2] at k; cases k
                · exact absurd k no1
            have no4 : ¬ ownAt r4 σ3 p := fun k => no1 (X4.o p k)
            have own4 : ∀ a, ownAt (wipeE r4 vs) (L2.wipe σ3 vs) a → ownAt rs σ a := fun a ⟨i, h1, h2⟩ => by
              have hi : i ∉ vs := fun k => by
                obtain ⟨b, d, e⟩ := isOw_some h1
                cases wipeE_in k e
              rw [wipeE_out hi] at h1
              rw [wipe_out hi] at h2
              exact L.o a (now1 a (X4.o a ⟨i, h1, h2⟩))
            have S5 := (S4.other (u := u) hp4 gp4 h0p no4).wipe vs
            rw [ew] at S5 own4
            refine ⟨S5, fun a o h n => ?_, fun a h => ?_, fun a o h => ?_, own4, ?_, hd, gp4, hpn⟩
            · have na : a ≠ p := fun z => by subst z; rw [hpn] at h; cases h
              rw [upd_ne na]
              refine X4.h a o (X2.h a o (L.h a o h n) fun k => n (L.o a k)) fun k => n (L.o a (now1 a k))
            · by_cases z : a = p
              · subst z; exact hpn
              · rw [upd_ne z] at h
                exact L.n a (X2.n a (X4.n a h))
            · rcases X4.f a o h with k | k | k
              · rcases X2.f a o k with k | k | k
                · exact L.f a o k
                · exact .inr (.inl (L.n a k))
                · exact .inr (.inr (L.o a k))
              · exact .inr (.inl (L.n a (X2.n a k)))
              · exact .inr (.inr (L.o a (now1 a k)))
            · have := S4.len
              have h3 := l3
              have h4 := wipe_length σ vs
              have h5 := Ss.len
              omega
          have self : ∀ {G4 H4 : Hp} {r4 : Ev}, RS X.K (Z.at Gs) G4 H4 r4 σ3 → EX σ3 G2 H2 r1 G4 H4 r4 → ∃ ws, H4 p = some (.dK ws) ∧ ws.map (·.1) = acc.map (·.1) ∧ RDs X.K G4 (acc.map (·.2)) (ws.map (·.2)) := fun {G4 H4 r4} S4 X4 => by
            obtain ⟨ws, w1, w2, w3⟩ := L.d
            exact ⟨ws, X4.h p _ (X2.h p _ w1 fun k => nop (L.o p k)) fun k => nop (L.o p (now1 p k)), w2, (w3.mono X2.g).mono X4.g⟩
          cases e3 : fc r1 with
          | ok b r2 =>
            cases b with
            | false =>
              simp only [e3] at pp
              intro G4 H4 S4 X4
              refine iteF ?_
              obtain ⟨ws, w1, w2, w3⟩ := self S4 X4
              have e : upd H4 p (.dK ws) = H4 := by
                funext c
                by_cases z : c = p
                · subst z; rw [upd_same, w1]
                · rw [upd_ne z]
              have L' := go (u := .dK ws) S4 X4 (.inr trivial) ⟨ws, upd_same, w2, w3⟩
              rw [e] at L'
              exact ⟨G4, r2, acc, L', pp⟩
            | true =>
              simp only [e3] at pp
              intro G4 H4 S4 X4
              refine iteT ⟨Z.at Gs, G4, r2, S4, ?_⟩
              cases e4 : fk r2 with
              | ok o r3 =>
                simp only [e4] at pp
                intro y G5 H5 S5 X5 R5
                refine ⟨Z.at Gs, G5, r3, S5, ?_⟩
                cases e6 : fv r3 with
                | ok o2 r4 =>
                  simp only [e6] at pp
                  intro z G6 H6 S6 X6 R6
                  cases e7 : rsv r4 o with
                  | none => simp only [e7] at pp; exact pp.elim
                  | some dk =>
                    cases e8 : keyD dk with
                    | none => simp only [e7, e8] at pp; exact pp.elim
                    | some key =>
                      cases e9 : fzo r4 o2 with
                      | none => simp only [e7, e8, e9] at pp; exact pp.elim
                      | some p9 =>
                        obtain ⟨dv, r5⟩ := p9
                        simp only [e7, e8, e9] at pp
                        have ek := kV_of ((R5.keep X6).rsv S6 e7) e8
                        obtain ⟨G7, S7, rd7, z7, _⟩ := RO.fzo S6 R6 e9
                        have X47 := X4.trans (X5.trans (z7.ex X6))
                        split at pp
                        · rename_i hz
                          obtain ⟨ws, w1, w2, w3⟩ := self S7 X47
                          have hl : ws.length = acc.length := by simpa using congrArg List.length w2
                          obtain ⟨u1, u2⟩ := putR key rd7 w2 w3
                          exact ⟨ws, key, ek, w1, by rw [hl]; exact hz, G7, r5, putD acc key dv, go S7 X47 (.inr trivial) ⟨_, upd_same, u1, u2⟩, pp⟩
                        · exact pp.elim
                | err c r4 => simp only [e6] at pp; exact pp.elim
                | bad => simp only [e6] at pp; exact pp.elim
              | err c r3 => simp only [e4] at pp; exact pp.elim
              | bad => simp only [e4] at pp; exact pp.elim
          | err c r2 => simp only [e3] at pp; exact pp.elim
          | bad => simp only [e3] at pp; exact pp.elim
    · exact hp.elim
  | err c r1 => simp only [e1] at hp; exact hp
  | bad => simp only [e1] at hp; exact hp.elim
variable {kx vx iter : Expr} {ifs : List Expr} {scope : Scope} {own : List (Str × Nat)} {pos : Pos}
theorem de_dc (hc : X.calm = true) (hN : X.N.Nodup) (hi : DI X W tg iter fi) (ok : BlkOk X.N X.env.scope scope own)
    (hg : ∀ (s : Shared) (H : Hp) (C : Addr) (cl : List (Str × Addr)) (fp : List Addr), DG (X.blk s H scope (compEnvC scope cl C X.env) fp) tg t) (ht : ∀ (s : Shared) (H : Hp) (C : Addr) (cl : List (Str × Addr)) (fp : List Addr), DIf (X.blk s H scope (compEnvC scope cl C X.env) fp) W0 ifs fc)
    (hk : ∀ (s : Shared) (H : Hp) (C : Addr) (cl : List (Str × Addr)) (fp : List Addr), DE (X.blk s H scope (compEnvC scope cl C X.env) fp) W0 kx fk) (hv : ∀ (s : Shared) (H : Hp) (C : Addr) (cl : List (Str × Addr)) (fp : List Addr), DE (X.blk s H scope (compEnvC scope cl C X.env) fp) W0 vx fv)
    (hts : ∀ i ∈ t.slots, i ∈ own.map (·.2)) (hvs : own.map (·.2) = vs) (hs : ∀ x, foldedSetIterable iter X.env x = pure x := by intro _; rfl) :
    DE X W (.DictComp kx vx [⟨tg, iter, ifs, 0⟩] scope pos) (eDc vs t fi fc fk fv) := by
  subst hvs
  obtain ⟨wi, p, q⟩ := hi.ex
  exact ⟨_, pe_dc (own := own) (g := tDG X t) (tt := tDT X W0 fc) (tk := tD X W0 fk) (tv := tD X W0 fv) hc hN p ok (fun s H C cl fp => (hg s H C cl fp).canon) (fun s H C cl fp => (ht s H C cl fp).canon) (fun s H C cl fp => (hk s H C cl fp).canon) (fun s H C cl fp => (hv s H C cl fp).canon) hs,
    fun Z σ G H r Q S hp => dc_post hts (fun R => q Z σ G H r R S) S hp⟩
end
end DL
end

section
set_option Elab.async false
set_option linter.all false
set_option maxRecDepth 100000
set_option autoImplicit false
/-! DL19: a dict is locked while it is walked. -/
namespace DL
open PySem PySem.Spec PyProof.Rows L2
section
variable {K : FG} {G : Hp} {p : Addr} {od : Obj} {ks : List (Key × V)}
/-- what stands at p is locked, if anything stands there -/
def lockAt (G : Hp) (p : Addr) (o : HO) : Hp := fun a => if a = p then (match G p with
  | some _ => some o
  | none => none) else G a
theorem lock_rd {w : HO} (hw : ∀ o u, w ≠ .frz o u) (hp : G p = some (.dK ks)) {a : Addr} (h : Rd G a w) : Rd (upd G p (.frz od (.dK ks))) a w := by
  by_cases e : a = p
  · subst e
    rcases h with h | ⟨o, h⟩
    · rw [hp] at h; cases h; exact .inr ⟨od, upd_same⟩
    · rw [hp] at h; cases h
  · rcases h with h | ⟨o, h⟩
    · exact .inl (by rw [upd_ne e]; exact h)
    · exact .inr ⟨o, by rw [upd_ne e]; exact h⟩
theorem lock_eq {w : HO} (hw : ∀ ks, w ≠ .dK ks) (hp : G p = some (.dK ks)) {a : Addr} (h : G a = some w) : upd G p (.frz od (.dK ks)) a = some w := by
  by_cases e : a = p
  · subst e
    rw [hp] at h; cases h; exact absurd rfl (hw _)
  · rw [upd_ne e]; exact h
theorem unlock_rd {w : HO} (hw : ∀ o u, w ≠ .frz o u) (hp : G p = some (.frz od (.dK ks))) {a : Addr} (h : Rd G a w) : Rd (upd G p (.dK ks)) a w := by
  by_cases e : a = p
  · subst e
    rcases h with h | ⟨o, h⟩
    · rw [hp] at h; cases h; exact absurd rfl (hw _ _)
    · rw [hp] at h; cases h; exact .inl upd_same
  · rcases h with h | ⟨o, h⟩
    · exact .inl (by rw [upd_ne e]; exact h)
    · exact .inr ⟨o, by rw [upd_ne e]; exact h⟩
theorem unlock_eq {w : HO} (hw : ∀ o u, w ≠ .frz o u) (hp : G p = some (.frz od (.dK ks))) {a : Addr} (h : G a = some w) : upd G p (.dK ks) a = some w := by
  by_cases e : a = p
  · subst e
    rw [hp] at h; cases h; exact absurd rfl (hw _ _)
  · rw [upd_ne e]; exact h
mutual
theorem RD.lock (hp : G p = some (.dK ks)) : ∀ {d : D} {v : V}, RD K G d v → RD K (upd G p (.frz od (.dK ks))) d v
  | _, _, .non => .non
  | _, _, .bl b => .bl b
  | _, _, .int i => .int i
  | _, _, .str x => .str x
  | _, _, .tup h r => .tup (lock_eq (by intro _ z; cases z) hp h) (RDs.lock hp r)
  | _, _, .ktp h r => .ktp (h.elim (fun h => .inl (lock_rd (by intro _ _ z; cases z) hp h)) .inr) (RDs.lock hp r)
  | _, _, .kls h r => .kls (h.elim (fun h => .inl (lock_rd (by intro _ _ z; cases z) hp h)) .inr) (RDs.lock hp r)
  | _, _, .lst h r => .lst (lock_eq (by intro _ z; cases z) hp h) (RDs.lock hp r)
  | _, _, .dct h e r => .dct (lock_rd (by intro _ _ z; cases z) hp h) e (RDs.lock hp r)
  | _, _, .dtt h e r => .dtt (lock_eq (by intro _ z; cases z) hp h) e (RDs.lock hp r)
theorem RDs.lock (hp : G p = some (.dK ks)) : ∀ {ds : List D} {vs : List V}, RDs K G ds vs → RDs K (upd G p (.frz od (.dK ks))) ds vs
  | _, _, .nil => .nil
  | _, _, .cons a b => .cons (RD.lock hp a) (RDs.lock hp b)
end
mutual
theorem RD.unlock (hp : G p = some (.frz od (.dK ks))) : ∀ {d : D} {v : V}, RD K G d v → RD K (upd G p (.dK ks)) d v
  | _, _, .non => .non
  | _, _, .bl b => .bl b
  | _, _, .int i => .int i
  | _, _, .str x => .str x
  | _, _, .tup h r => .tup (unlock_eq (by intro _ _ z; cases z) hp h) (RDs.unlock hp r)
  | _, _, .ktp h r => .ktp (h.elim (fun h => .inl (unlock_rd (by intro _ _ z; cases z) hp h)) .inr) (RDs.unlock hp r)
  | _, _, .kls h r => .kls (h.elim (fun h => .inl (unlock_rd (by intro _ _ z; cases z) hp h)) .inr) (RDs.unlock hp r)
  | _, _, .lst h r => .lst (unlock_eq (by intro _ _ z; cases z) hp h) (RDs.unlock hp r)
  | _, _, .dct h e r => .dct (unlock_rd (by intro _ _ z; cases z) hp h) e (RDs.unlock hp r)
  | _, _, .dtt h e r => .dtt (unlock_eq (by intro _ _ z; cases z) hp h) e (RDs.unlock hp r)
theorem RDs.unlock (hp : G p = some (.frz od (.dK ks))) : ∀ {ds : List D} {vs : List V}, RDs K G ds vs → RDs K (upd G p (.dK ks)) ds vs
  | _, _, .nil => .nil
  | _, _, .cons a b => .cons (RD.unlock hp a) (RDs.unlock hp b)
end
theorem RM.lock {H : Hp} (hg : G p = some (.dK ks)) {a : Addr} (na : a ≠ p) : ∀ {d : D}, RM K G H a d → RM K (upd G p (.frz od (.dK ks))) (upd H p (.frz od (.dK ks))) a d
  | .lst _, ⟨_, h, r⟩ => ⟨_, by rw [upd_ne na]; exact h, RDs.lock hg r⟩
  | .dct _, ⟨_, h, e, r⟩ => ⟨_, by rw [upd_ne na]; exact h, e, RDs.lock hg r⟩
  | .dtt _, ⟨_, h, e, r⟩ => ⟨_, by rw [upd_ne na]; exact h, e, RDs.lock hg r⟩
theorem RM.unlock {H : Hp} (hg : G p = some (.frz od (.dK ks))) {a : Addr} (na : a ≠ p) : ∀ {d : D}, RM K G H a d → RM K (upd G p (.dK ks)) (upd H p (.dK ks)) a d
  | .lst _, ⟨_, h, r⟩ => ⟨_, by rw [upd_ne na]; exact h, RDs.unlock hg r⟩
  | .dct _, ⟨_, h, e, r⟩ => ⟨_, by rw [upd_ne na]; exact h, e, RDs.unlock hg r⟩
  | .dtt _, ⟨_, h, e, r⟩ => ⟨_, by rw [upd_ne na]; exact h, e, RDs.unlock hg r⟩
/-- the entry, seen with the lock -/
def Fr0.lock (Z : Fr0) (p : Addr) (o : HO) : Fr0 := ⟨lockAt Z.G0 p o, lockAt Z.H0 p o, Z.io⟩
theorem lockAt_ne {o : HO} {a : Addr} (h : a ≠ p) : lockAt G p o a = G a := if_neg h
theorem lockAt_none {o : HO} {a : Addr} : lockAt G p o a = none ↔ G a = none := by
  unfold lockAt
  by_cases e : a = p
  · subst e; rw [if_pos rfl]; cases G a <;> simp
  · rw [if_neg e]
theorem lockAt_self {o u : HO} (h : lockAt G p o p = some u) : u = o ∧ ∃ w, G p = some w := by
  unfold lockAt at h
  rw [if_pos rfl] at h
  cases q : G p with
  | none => rw [q] at h; cases h
  | some w => rw [q] at h; cases h; exact ⟨rfl, w, rfl⟩
variable {Z : Fr0} {H : Hp} {r : Ev} {σ : L2.St}
theorem RS.lockIn (S : RS K Z G H r σ) (hp : G p = some (.dK ks)) : RS K (Z.lock p (.frz od (.dK ks))) (upd G p (.frz od (.dK ks))) (upd H p (.frz od (.dK ks))) r σ := by
  have hn : ∀ a, upd H p (.frz od (.dK ks)) a = none ↔ H a = none := fun a => by
    by_cases e : a = p
    · subst e; rw [upd_same, S.sg _ _ hp]; simp
    · rw [upd_ne e]
  refine ⟨S.len, fun a o h => ?_, fun a o h => ?_, fun a o h n => ?_, fun a h => ?_, fun a o h => ?_, fun i d h => ?_, fun i b d h => ?_, S.inj⟩
  · by_cases e : a = p
    · subst e; rw [upd_same] at h ⊢; exact h
    · rw [upd_ne e] at h ⊢; exact S.sg a o h
  · by_cases e : a = p
    · subst e
      obtain ⟨rfl, _⟩ := lockAt_self h
      exact upd_same
    · have h : lockAt Z.G0 p _ a = some o := h
      rw [lockAt_ne e] at h
      rw [upd_ne e]; exact S.g0 a o h
  · by_cases e : a = p
    · subst e
      obtain ⟨rfl, _⟩ := lockAt_self h
      exact upd_same
    · have h : lockAt Z.H0 p _ a = some o := h
      rw [lockAt_ne e] at h
      rw [upd_ne e]; exact S.h0 a o h n
  · exact lockAt_none.mpr (S.dm a ((hn a).mp h))
  · by_cases e : a = p
    · subst e
      rw [upd_same] at h; cases h
      rcases S.fr a _ hp with k | k
      · refine .inl ?_
        show lockAt Z.G0 a _ a = _
        unfold lockAt
        rw [if_pos rfl, k]
      · exact .inr (lockAt_none.mpr k)
    · rw [upd_ne e] at h
      rcases S.fr a o h with k | k
      · exact .inl (by show lockAt Z.G0 p _ a = _; rw [lockAt_ne e]; exact k)
      · exact .inr (lockAt_none.mpr k)
  · obtain ⟨v, e1, e2⟩ := S.va i d h
    exact ⟨v, e1, e2.lock hp⟩
  · obtain ⟨a, e1, e2, e3, e4⟩ := S.ow i b d h
    have na : a ≠ p := fun z => by subst z; rw [hp] at e2; cases e2
    refine ⟨a, e1, by rw [upd_ne na]; exact e2, e3.lock hp na, ?_⟩
    cases b with
    | true => exact e4
    | false => exact lockAt_none.mpr e4
theorem RS.lockOut (S : RS K (Z.lock p (.frz od (.dK ks))) G H r σ) (hp : G p = some (.frz od (.dK ks))) (z1 : ∀ o, Z.G0 p = some o → o = .dK ks) (z2 : ∀ o, Z.H0 p = some o → p ∉ Z.io → o = .dK ks) : RS K Z (upd G p (.dK ks)) (upd H p (.dK ks)) r σ := by
  have hn : ∀ a, upd H p (.dK ks) a = none ↔ H a = none := fun a => by
    by_cases e : a = p
    · subst e; rw [upd_same, S.sg _ _ hp]; simp
    · rw [upd_ne e]
  refine ⟨S.len, fun a o h => ?_, fun a o h => ?_, fun a o h n => ?_, fun a h => ?_, fun a o h => ?_, fun i d h => ?_, fun i b d h => ?_, S.inj⟩
  · by_cases e : a = p
    · subst e; rw [upd_same] at h ⊢; exact h
    · rw [upd_ne e] at h ⊢; exact S.sg a o h
  · by_cases e : a = p
    · subst e; rw [upd_same, z1 o h]
    · rw [upd_ne e]
      refine S.g0 a o ?_
      show lockAt Z.G0 p _ a = _
      rw [lockAt_ne e]; exact h
  · by_cases e : a = p
    · subst e; rw [upd_same, z2 o h n]
    · rw [upd_ne e]
      refine S.h0 a o ?_ n
      show lockAt Z.H0 p _ a = _
      rw [lockAt_ne e]; exact h
  · exact lockAt_none.mp (S.dm a ((hn a).mp h))
  · by_cases e : a = p
    · subst e
      rw [upd_same] at h; cases h
      rcases S.fr a _ hp with k | k
      · obtain ⟨_, w, k2⟩ := lockAt_self k
        rw [k2, z1 w k2]; exact .inl rfl
      · exact .inr (lockAt_none.mp k)
    · rw [upd_ne e] at h
      rcases S.fr a o h with k | k
      · have k : lockAt Z.G0 p _ a = _ := k
        rw [lockAt_ne e] at k; exact .inl k
      · exact .inr (lockAt_none.mp k)
  · obtain ⟨v, e1, e2⟩ := S.va i d h
    exact ⟨v, e1, e2.unlock hp⟩
  · obtain ⟨a, e1, e2, e3, e4⟩ := S.ow i b d h
    have na : a ≠ p := fun z => by subst z; rw [hp] at e2; cases e2
    refine ⟨a, e1, by rw [upd_ne na]; exact e2, e3.unlock hp na, ?_⟩
    cases b with
    | true => exact e4
    | false => exact lockAt_none.mp e4
theorem EX.unlock {G' H' : Hp} {r' : Ev} (S : RS K Z G H r σ) (hp : G p = some (.dK ks)) (x : EX σ (upd G p (.frz od (.dK ks))) (upd H p (.frz od (.dK ks))) r G' H' r') : EX σ G H r (upd G' p (.dK ks)) (upd H' p (.dK ks)) r' := by
  have hH := S.sg _ _ hp
  have no : ¬ ownAt r σ p := fun ⟨i, k1, k2⟩ => by
    obtain ⟨b, d, k⟩ := isOw_some k1
    obtain ⟨a, e1, e2, _⟩ := S.ow i b d k
    rw [k2] at e1; cases e1
    rw [hp] at e2; cases e2
  refine ⟨fun a o h => ?_, fun a o h n => ?_, fun a h => ?_, fun a o h => ?_, x.o⟩
  · by_cases e : a = p
    · subst e; rw [hp] at h; cases h; exact upd_same
    · rw [upd_ne e]; exact x.g a o (by rw [upd_ne e]; exact h)
  · by_cases e : a = p
    · subst e; rw [hH] at h; cases h; exact upd_same
    · rw [upd_ne e]; exact x.h a o (by rw [upd_ne e]; exact h) n
  · by_cases e : a = p
    · subst e; rw [upd_same] at h; cases h
    · rw [upd_ne e] at h
      have := x.n a h
      rwa [upd_ne e] at this
  · by_cases e : a = p
    · subst e; rw [upd_same] at h; cases h; exact .inl hp
    · rw [upd_ne e] at h
      have := x.f a o h
      rwa [upd_ne e, upd_ne e] at this
theorem RO.unlock {B G' H' : Hp} {r' : Ev} (hp : G' p = some (.frz od (.dK ks))) : ∀ {o : Op} {v : V}, RO K (Z.lock p (.frz od (.dK ks))) σ (upd B p (.frz od (.dK ks))) G' H' r' o v → RO K Z σ B (upd G' p (.dK ks)) (upd H' p (.dK ks)) r' o v
  | .fz _, _, h => RD.unlock hp h
  | .br _, _, h => h
  | .tm _, _, ⟨a, e, h1, h2, h3, h4⟩ => by
    have na : a ≠ p := fun z => by subst z; rw [hp] at h1; cases h1
    refine ⟨a, e, by rw [upd_ne na]; exact h1, ⟨lockAt_none.mp h2.1, ?_⟩, h3, h4.unlock hp na⟩
    have := h2.2
    rwa [upd_ne na] at this
end
end DL

section
set_option Elab.async false
set_option linter.all false
set_option maxRecDepth 100000
set_option autoImplicit false
/-! DL20: comprehensions over a dict. -/
namespace DL
open PySem PySem.Spec PyProof.Rows L2
section
variable {X : Cx} {W : WX} {Z : Fr0} {σ : L2.St} {G H : Hp} {r : Ev}
theorem EPost.lock {p : Addr} {od : Obj} {ks : List (Key × V)} {Q : VK} (S : RS X.K Z G H r σ) (hp : G p = some (.dK ks)) : ∀ {o : EOut}, (∀ c r', o ≠ .err c r') → EPost X W Z σ G H r Q o → EPost X W (Z.lock p (.frz od (.dK ks))) σ (upd G p (.frz od (.dK ks))) (upd H p (.frz od (.dK ks))) r (fun v H' => H' p = some (.frz od (.dK ks)) ∧ Q v (upd H' p (.dK ks))) o
  | .ok o r', _, h => fun v G' H' S' x ro => by
    have hG : G' p = some (.frz od (.dK ks)) := x.g p _ upd_same
    have hH := S.sg _ _ hp
    refine ⟨S'.sg _ _ hG, h v _ _ (S'.lockOut hG (fun o z => ?_) (fun o z n => ?_)) (x.unlock S hp) (ro.unlock hG)⟩
    · have := S.g0 p o z
      rw [hp] at this; cases this; rfl
    · have := S.h0 p o z n
      rw [hH] at this; cases this; rfl
  | .err c r', n, _ => absurd rfl (n c r')
  | .bad, _, h => h
theorem lcGo_ne {vs : List Nat} {t : Tg} {c : T} {e : E} {r0 : Ev} : ∀ (ds acc : List D) (r : Ev) (x : Str) (r' : Ev), lcGo vs t c e r0 ds acc r ≠ .err x r'
  | [], acc, r, x, r' => by unfold lcGo; exact nofun
  | d :: ds, acc, r, x, r' => by
    unfold lcGo
    split
    · split
      · split
        · split
          · split
            · exact lcGo_ne ds _ _ x r'
            · exact nofun
          · exact nofun
        · exact nofun
      · exact lcGo_ne ds _ _ x r'
      · exact nofun
    · exact nofun
theorem dcGo_ne {vs : List Nat} {t : Tg} {c : T} {k v : E} {r0 : Ev} : ∀ (ds : List D) (acc : List (DK × D)) (r : Ev) (x : Str) (r' : Ev), dcGo vs t c k v r0 ds acc r ≠ .err x r'
  | [], acc, r, x, r' => by unfold dcGo; exact nofun
  | d :: ds, acc, r, x, r' => by
    unfold dcGo
    split
    · split
      · split
        · split
          · split
            · split
              · split
                · split
                  · exact dcGo_ne ds _ _ x r'
                  · exact nofun
                · exact nofun
              · exact nofun
            · exact nofun
          · exact nofun
        · exact nofun
      · exact dcGo_ne ds _ _ x r'
      · exact nofun
    · exact nofun
theorem itr_keys {K : FG} {a : Addr} {o : Obj} {ws : List (Key × V)} {kvs : List (DK × D)} (h : G a = some (.frz o (.dK ws))) (e : ws.map (·.1) = kvs.map (·.1)) : ItR K Z G (Itk a o ws) (kvs.map fun p => kD p.1) := by
  intro i σ r G1 H S sm
  have hH := S.sg _ _ (sm _ _ h)
  have hl : ws.length = kvs.length := by simpa using congrArg List.length e
  refine ⟨fun k => ⟨hH, by rw [hl]; simpa using k⟩, fun d hd => ?_⟩
  have hi : i < kvs.length := by simpa using (List.getElem?_eq_some_iff.mp hd).1
  refine ⟨⟨hH, by omega⟩, fun x H' ⟨eH, k, v, e1, e2⟩ => ?_⟩
  subst eH e2
  have e3 : (kvs.map (·.1))[i]? = some k := by rw [← e, List.getElem?_map, e1]; rfl
  rw [List.getElem?_map] at e3 hd
  cases q : kvs[i]? with
  | none => rw [q] at e3; cases e3
  | some p =>
    rw [q] at e3 hd
    have ek : p.1 = k := Option.some.inj e3
    have ed : kD p.1 = d := Option.some.inj hd
    rw [← ed, ek]
    refine ⟨G1, S, .refl, ?_⟩
    cases k with
    | inl i => exact .int i
    | inr x => exact .str x
/-- the dict in slot i is put away -/
theorem dict_at (S : RS X.K Z G H r σ) {i : Nat} (hk : isK r[i]? = true) {d : D} {r1 : Ev} (e : fzo r (.br i) = some (d, r1)) :
    ∃ a ws kvs G1, r1[i]? = some (.va (.dct kvs)) ∧ σ[i]? = some (some (.ref a)) ∧ RS X.K Z G1 H r1 σ ∧ EX σ G H r G1 H r1 ∧ Rd G1 a (.dK ws) ∧ ws.map (·.1) = kvs.map (·.1) := by
  unfold DL.fzo at e
  cases q : r[i]? with
  | none => rw [q] at hk; cases hk
  | some s =>
    rw [q] at hk
    have hi : i < r.length := (List.getElem?_eq_some_iff.mp q).1
    cases s with
    | no => cases hk
    | va d' =>
      cases d' <;> first | (cases hk; done) | skip
      rename_i kvs
      simp only [q] at e
      cases e
      obtain ⟨v, e1, e2⟩ := S.va i _ q
      cases e2 with | dct h1 h2 h3 =>
      exact ⟨_, _, kvs, G, q, e1, S, .refl, h1, h2⟩
    | ow b d' =>
      cases d' <;> first | (cases hk; done) | skip
      rename_i kvs
      cases b with
      | true => simp [q] at e
      | false =>
        simp only [q] at e
        cases e
        obtain ⟨a, G1, e1, S1, X1, rd⟩ := S.freeze q
        cases rd with | dct h1 h2 h3 =>
        exact ⟨a, _, kvs, G1, by rw [List.getElem?_set_self hi], e1, S1, X1, h1, h2⟩
end
section
variable {X : Cx} {W : WX} {tg : Expr} {t : Tg} {fc : T} {fe fk fv : E} {vs : List Nat} {x : Str} {i : Nat} {np : Pos}
/-- the walk over the keys, locked or not -/
theorem keys_post {T : L2.TI → L2.TE} {F : I → E} (post : ∀ {wi : L2.TI} {fi : I} {Z : Fr0} {σ : L2.St} {G H : Hp} {r : Ev} {Q : VK}, (∀ (R : L2.It → Hp → Prop), IPost X W Z σ G H r R (fi r) → wi σ H R) → RS X.K Z G H r σ → EPost X W Z σ G H r Q (F fi r) → T wi σ H Q)
    (ne : ∀ r x r', F (iKeysD i) r ≠ .err x r') {Z : Fr0} {σ : L2.St} {G H : Hp} {r : Ev} {Q : VK} (S : RS X.K Z G H r σ) (hk : isK r[i]? = true)
    (hp : EPost X W Z σ G H r Q (match fzo r (.br i) with | some (_, r1) => F (iKeysD i) r1 | none => .bad)) : tLockE (T (L2.iKeys (tVar i))) σ H Q ∨ T (L2.iKeys (tVar i)) σ H Q := by
  cases e : fzo r (.br i) with
  | none => simp only [e] at hp; exact hp.elim
  | some p =>
    obtain ⟨d, r1⟩ := p
    simp only [e] at hp
    obtain ⟨a, ws, kvs, G1, e1, e2, S1, X1, rd, ek⟩ := dict_at S hk e
    have hp1 := EPost.pre X1 hp
    have fi1 : iKeysD i r1 = .ok (kvs.map fun p => kD p.1) r1 := by unfold iKeysD; rw [e1]
    have walk : ∀ {Z : Fr0} {G H : Hp} {Q : VK} (o : Obj), RS X.K Z G H r1 σ → G a = some (.frz o (.dK ws)) → EPost X W Z σ G H r1 Q (F (iKeysD i) r1) → T (L2.iKeys (tVar i)) σ H Q := fun {Z G H Q} o S h hp => by
      refine post (fi := iKeysD i) (fun R hR => ?_) S hp
      rw [fi1] at hR
      exact ⟨_, e2, a, o, rfl, .inl ⟨ws, S.sg _ _ h, hR _ G H S .refl fun Z' => itr_keys h ek⟩⟩
    rcases rd with h | ⟨o, h⟩
    · exact .inl ⟨a, .dK ws, S1.sg _ _ h, trivial, fun od => walk od (S1.lockIn h) upd_same (EPost.lock S1 h (fun c r' => ne r1 c r') hp1)⟩
    · exact .inr (walk o S1 h hp1)
variable {elt kx vx : Expr} {ifs : List Expr} {scope : Scope} {own : List (Str × Nat)} {pos : Pos}
theorem de_lcN (hc : X.calm = true) (hN : X.N.Nodup) (hx : PE X (.Name x np) (tVar i)) (ok : BlkOk X.N X.env.scope scope own)
    (hg : ∀ (s : Shared) (H : Hp) (C : Addr) (cl : List (Str × Addr)) (fp : List Addr), DG (X.blk s H scope (compEnvC scope cl C X.env) fp) tg t) (ht : ∀ (s : Shared) (H : Hp) (C : Addr) (cl : List (Str × Addr)) (fp : List Addr), DIf (X.blk s H scope (compEnvC scope cl C X.env) fp) W0 ifs fc)
    (he : ∀ (s : Shared) (H : Hp) (C : Addr) (cl : List (Str × Addr)) (fp : List Addr), DE (X.blk s H scope (compEnvC scope cl C X.env) fp) W0 elt fe) (hts : ∀ i ∈ t.slots, i ∈ own.map (·.2)) (hvs : own.map (·.2) = vs) (hs : ∀ y, foldedSetIterable (.Name x np) X.env y = pure y := by intro _; rfl) :
    DE X W (.ListComp elt [⟨tg, .Name x np, ifs, 0⟩] scope pos) (eLcN vs t i fc fe) := by
  subst hvs
  have row := de_lc (W := W) (pos := pos) hc hN (di_seq (W := W) (tg := tg) (de_name hx)) ok hg ht he hts rfl hs
  obtain ⟨t1, p1, q1⟩ := row.ex
  have pk : PE X (.ListComp elt [⟨tg, .Name x np, ifs, 0⟩] scope pos) (tLc (L2.iKeys (tVar i)) (tDG X t) (tDT X W0 fc) (tD X W0 fe) (own.map (·.2))) := pe_lc (own := own) hc hN (pi_keys hx) ok (fun s H C cl fp => (hg s H C cl fp).canon) (fun s H C cl fp => (ht s H C cl fp).canon) (fun s H C cl fp => (he s H C cl fp).canon) hs
  refine ⟨_, PE.or (PE.or (pe_lock pk) pk) p1, fun Z σ G H r Q S hp => ?_⟩
  unfold eLcN at hp
  split at hp
  · rename_i hk
    exact .inl (keys_post (T := fun wi => tLc wi (tDG X t) (tDT X W0 fc) (tD X W0 fe) (own.map (·.2))) (F := fun fi => eLc (own.map (·.2)) t fi fc fe) (fun qi S hp => lc_post hts qi S hp) (fun r c r' => by
      unfold eLc
      split
      · split
        · exact lcGo_ne _ _ _ _ _
        · exact nofun
      · rename_i h1
        unfold iKeysD at h1
        split at h1 <;> cases h1
      · exact nofun) S hk hp)
  · exact .inr (q1 Z σ G H r Q S hp)
theorem de_dcN (hc : X.calm = true) (hN : X.N.Nodup) (hx : PE X (.Name x np) (tVar i)) (ok : BlkOk X.N X.env.scope scope own)
    (hg : ∀ (s : Shared) (H : Hp) (C : Addr) (cl : List (Str × Addr)) (fp : List Addr), DG (X.blk s H scope (compEnvC scope cl C X.env) fp) tg t) (ht : ∀ (s : Shared) (H : Hp) (C : Addr) (cl : List (Str × Addr)) (fp : List Addr), DIf (X.blk s H scope (compEnvC scope cl C X.env) fp) W0 ifs fc)
    (hk : ∀ (s : Shared) (H : Hp) (C : Addr) (cl : List (Str × Addr)) (fp : List Addr), DE (X.blk s H scope (compEnvC scope cl C X.env) fp) W0 kx fk) (hv : ∀ (s : Shared) (H : Hp) (C : Addr) (cl : List (Str × Addr)) (fp : List Addr), DE (X.blk s H scope (compEnvC scope cl C X.env) fp) W0 vx fv) (hts : ∀ i ∈ t.slots, i ∈ own.map (·.2)) (hvs : own.map (·.2) = vs) (hs : ∀ y, foldedSetIterable (.Name x np) X.env y = pure y := by intro _; rfl) :
    DE X W (.DictComp kx vx [⟨tg, .Name x np, ifs, 0⟩] scope pos) (eDcN vs t i fc fk fv) := by
  subst hvs
  have row := de_dc (W := W) (pos := pos) hc hN (di_seq (W := W) (tg := tg) (de_name hx)) ok hg ht hk hv hts rfl hs
  obtain ⟨t1, p1, q1⟩ := row.ex
  have pk : PE X (.DictComp kx vx [⟨tg, .Name x np, ifs, 0⟩] scope pos) (tDc (L2.iKeys (tVar i)) (tDG X t) (tDT X W0 fc) (tD X W0 fk) (tD X W0 fv) (own.map (·.2))) := pe_dc (own := own) hc hN (pi_keys hx) ok (fun s H C cl fp => (hg s H C cl fp).canon) (fun s H C cl fp => (ht s H C cl fp).canon) (fun s H C cl fp => (hk s H C cl fp).canon) (fun s H C cl fp => (hv s H C cl fp).canon) hs
  refine ⟨_, PE.or (PE.or (pe_lock pk) pk) p1, fun Z σ G H r Q S hp => ?_⟩
  unfold eDcN at hp
  split at hp
  · rename_i hk
    exact .inl (keys_post (T := fun wi => tDc wi (tDG X t) (tDT X W0 fc) (tD X W0 fk) (tD X W0 fv) (own.map (·.2))) (F := fun fi => eDc (own.map (·.2)) t fi fc fk fv) (fun qi S hp => dc_post hts qi S hp) (fun r c r' => by
      unfold eDc
      split
      · split
        · exact dcGo_ne _ _ _ _ _
        · exact nofun
      · rename_i h1
        unfold iKeysD at h1
        split at h1 <;> cases h1
      · exact nofun) S hk hp)
  · exact .inr (q1 Z σ G H r Q S hp)
theorem PS.or {st : Stmt} {t t' : L2.TS} (h : PS X st t) (k : PS X st t') : PS X st (fun D σ H => t D σ H ∨ t' D σ H) :=
  ⟨fun pins s σ H D I q => q.elim (h.run pins s σ H D I) (k.run pins s σ H D I)⟩
theorem set_post {Z : Fr0} {σ : L2.St} {G H : Hp} {r : Ev} {D : Ends} {j : Nat} : ∀ {z : EOut}, SPost X W Z D (match z with
    | .ok o r1 => (match keep j o r1 with
      | some r2 => .nx r2
      | none => .bad)
    | .err c r1 => .err c r1
    | .bad => .bad) → (∀ C σ1 G1 H1 c r1, z = .err c r1 → RS X.K Z G1 H1 r1 σ1 → X.mg c = some (.ref C) → σ1 = σ → W (.ref C) none σ H1) ∨ True → EPost X W Z σ G H r (fun v H' => D.nx (σ.set j (some v)) H') z
  | .ok o r1, hp, _ => fun v G1 H1 S1 X1 R1 => by
    dsimp only at hp
    cases e2 : keep j o r1 with
    | none => simp only [e2] at hp; exact hp.elim
    | some r2 =>
      simp only [e2] at hp
      obtain ⟨G2, S2⟩ := S1.keep R1 e2
      exact hp _ G2 H1 S2
  | .err c r1, hp, _ => fun C G1 H1 S1 X1 m => hp C σ G1 H1 S1 m
  | .bad, hp, _ => hp
theorem ds_setLcN {j : Nat} {y : Str} {py spos : Pos} (hc : X.calm = true) (hN : X.N.Nodup) (hy : X.N[j]? = some y) (hyl : X.env.scope.names.lookup y = some .local)
    (hsw : swapsWith (.ListComp elt [⟨tg, .Name x np, ifs, 0⟩] scope pos) (some (.Name y py)) spos.line X.env = pure true) (hx : PE X (.Name x np) (tVar i)) (ok : BlkOk X.N X.env.scope scope own)
    (hg : ∀ (s : Shared) (H : Hp) (C : Addr) (cl : List (Str × Addr)) (fp : List Addr), DG (X.blk s H scope (compEnvC scope cl C X.env) fp) tg t) (ht : ∀ (s : Shared) (H : Hp) (C : Addr) (cl : List (Str × Addr)) (fp : List Addr), DIf (X.blk s H scope (compEnvC scope cl C X.env) fp) W0 ifs fc)
    (he : ∀ (s : Shared) (H : Hp) (C : Addr) (cl : List (Str × Addr)) (fp : List Addr), DE (X.blk s H scope (compEnvC scope cl C X.env) fp) W0 elt fe) (hts : ∀ i ∈ t.slots, i ∈ own.map (·.2)) (hvs : own.map (·.2) = vs) (hs : ∀ y, foldedSetIterable (.Name x np) X.env y = pure y := by intro _; rfl) :
    DS X W (.Assign [.Name y py] (.ListComp elt [⟨tg, .Name x np, ifs, 0⟩] scope pos) spos) (sSet j (eLcN vs t i fc fe)) := by
  subst hvs
  have row := ds_setLc (W := W) (pos := pos) hc hN hy hyl hsw (di_seq (W := W) (tg := tg) (de_name hx)) ok hg ht he hts rfl hs
  obtain ⟨t1, p1, q1⟩ := row.ex
  have pk := ps_setLc (own := own) (g := tDG X t) (tt := tDT X W0 fc) (te := tD X W0 fe) hc hN hy hyl hsw (pi_keys hx) ok (fun s H C cl fp => (hg s H C cl fp).canon) (fun s H C cl fp => (ht s H C cl fp).canon) (fun s H C cl fp => (he s H C cl fp).canon) hs
  refine ⟨_, PS.or (PS.or (ps_lock pk) pk) p1, fun Z σ G H r D S hp => ?_⟩
  by_cases hk : isK r[i]? = true
  · have kp : tLockE (tLc (L2.iKeys (tVar i)) (tDG X t) (tDT X W0 fc) (tD X W0 fe) (own.map (·.2))) σ H (fun v H' => D.nx (σ.set j (some v)) H') ∨ tLc (L2.iKeys (tVar i)) (tDG X t) (tDT X W0 fc) (tD X W0 fe) (own.map (·.2)) σ H (fun v H' => D.nx (σ.set j (some v)) H') := by
       refine (keys_post (X := X) (W := W) (i := i) (T := fun wi => tLc wi (tDG X t) (tDT X W0 fc) (tD X W0 fe) (own.map (·.2))) (F := fun fi => eLc (own.map (·.2)) t fi fc fe) (Q := fun v H' => D.nx (σ.set j (some v)) H') (fun qi S hp => lc_post hts qi S hp) (fun r c r' => by
         unfold eLc
         split
         · split
           · exact lcGo_ne _ _ _ _ _
           · exact nofun
         · rename_i h1
           unfold iKeysD at h1
           split at h1 <;> cases h1
         · exact nofun) S hk ?_)
       unfold sSet eLcN at hp
       rw [if_pos hk] at hp
       exact set_post hp (.inr trivial)
    exact .inl (kp.imp id id)
  · refine .inr (q1 Z σ G H r D S ?_)
    unfold sSet eLcN at hp
    rw [if_neg hk] at hp
    exact hp
theorem ds_bad {st : Stmt} : DS X W st sBad := ⟨fun _ _ _ => False, ⟨fun pins s σ H D I h => h.elim⟩, fun Z σ G H r D S hp => hp⟩
end
end DL
end

section
set_option Elab.async false
set_option linter.all false
set_option maxRecDepth 100000
set_option autoImplicit false
/-! DL21: sorted of a dict's keys. -/
namespace DL
open PySem PySem.Spec PyProof.Rows L2
section
open PySem.W PyProof.V PySem.Calls
variable {prog : Program} {w : World} {T : String} {r d : Addr} {n : Nat} {P : Nat → Value → Prop} {OK : Heap → Prop} {A : Around} {E : Value → Shared → Prop} {s : Shared} {Q : Value → Shared → Prop}
/-- what is collected from a dict; the heap has grown -/
theorem collect_grown {R : List Value → Shared → Prop} (K : PySem.W.KdlSrc prog w T r d n P OK) (hh : A.handled = none) (hok : OK s.heap) (hn : n ≤ sizeLine)
    (h : ∀ (h' : Heap) (tk : Nat) (acc : Array Value), (∀ b o, s.heap.get? b = some o → h'.get? b = some o) → s.heap.objs.size < h'.objs.size → ItemsOf P acc n → R acc.toList { s with heap := h', toks := tk }) : wpAny (model prog w) A (collect (.ref r)) R E s := by
  have at_ := K.there _ hok
  let o0 : Obj := { cls := .type "list", data := .seq ([] : List Value).toArray }
  have g0 : (s.heap.push o0).get? s.heap.objs.size = some { cls := .type "list", data := .seq #[] } := Heap.get?_push_size _ rfl
  have run := kdl_extend (A := A) (s := { s with heap := s.heap.push o0 })
    (R := fun (q : Result) (s' : Shared) => ∃ (h' : Heap) (tk : Nat) (acc' : Array Value) (c' : Nat), (q = .ok (.ret (.ref s.heap.objs.size)) ∧ s' = { s with heap := h', toks := tk }) ∧ (∀ b o, s.heap.get? b = some o → h'.get? b = some o) ∧
      h'.get? s.heap.objs.size = some { cls := .type "list", dict := none, data := .seq acc' c', slots := #[] } ∧ ItemsOf P acc' n)
    K hh (K.keep _ _ hok fun b _ o e => Heap.get?_push_of_some _ e) s.heap.objs.size (Nat.ne_of_gt at_.1) (Nat.ne_of_gt at_.2) (.ref s.heap.objs.size) 0 g0
    (fun h' tk acc' c' k1 k2 k3 => ⟨h', tk, acc', c', ⟨rfl, rfl⟩, fun b o e => k1 b o (Nat.ne_of_lt (Heap.lt_size e)) (Heap.get?_push_of_some _ e), k2, k3⟩) hn
  unfold collect
  apply wpAny_bind; apply wpAny_runValue; refine codeAny_builtin entry_proto_collect' ?_
  rw [Around.under_plainId (PySem.F.plain_proto_collect) _]
  show wpAny (model prog w) A.in1 (newList [] >>= fun l => again (.builtin "list.__iadd__" ⟨[l, .ref r], []⟩)) _ _ s
  apply wpAny_bind; refine wpAny_newObj_type ?_
  refine wpAny_pure (And.intro (plainId_quiet PySem.F.plain_list_iadd _) (codeAny_builtin entry_list_iadd' ?_))
  rw [Around.under_plainId (PySem.F.plain_list_iadd) _]
  show wpAny (model prog w) A.in1 (Builtin.List.listExtendWith (.ref s.heap.objs.size) (.ref r) (.ref s.heap.objs.size)) _ _ _
  have done_ : ∀ {h' : Heap} {tk : Nat} {acc' : Array Value} {c' : Nat}, (∀ b o, s.heap.get? b = some o → h'.get? b = some o) → h'.get? s.heap.objs.size = some { cls := .type "list", dict := none, data := .seq acc' c', slots := #[] } → ItemsOf P acc' n → R acc'.toList { s with heap := h', toks := tk } :=
    fun k1 k2 k3 => h _ _ _ k1 (Heap.lt_size k2) k3
  refine wpAny_mono run (fun fin s' x => ?_) ?_
  · rcases fin with f | c₁
    · obtain ⟨h', tk, acc', c', ⟨e, rfl⟩, k1, k2, k3⟩ := x
      cases e
      apply wpAny_bind; refine wpAny_load k2 ?_
      exact wpAny_pure (done_ k1 k2 k3)
    · refine And.intro x.1 (codeAny_mono x.2 ?_)
      rintro q s₂ ⟨h', tk, acc', c', ⟨rfl, rfl⟩, k1, k2, k3⟩
      apply wpAny_bind; refine wpAny_load k2 ?_
      exact wpAny_pure (done_ k1 k2 k3)
  · rintro e s' ⟨_, _, _, _, ⟨e', _⟩, _⟩
    cases e'
theorem sorted_src (K : PySem.W.KdlSrc prog w T r d n P OK) (hh : A.handled = none) (hok : OK s.heap) (hn : n ≤ sizeLine)
    (h : ∀ (h' : Heap) (tk : Nat) (vs : List Value), (∀ b o, s.heap.get? b = some o → h'.get? b = some o) → s.heap.objs.size < h'.objs.size → vs.length = n → (∀ (j : Nat) (v : Value), vs[j]? = some v → P j v) →
      wpAny (model prog w) A.in1 (call (.builtin "list.sort") [.ref h'.objs.size]) (fun _ s' => Q (.ref h'.objs.size) s') E { s with heap := h'.push { cls := .type "list", data := .seq vs.toArray }, toks := tk }) :
    wpAny (model prog w) A (call (.builtin "sorted") [.ref r]) Q E s := by
  refine call_function_entry (kind_sorted) (plain_sorted) (entry_sorted) (args_sorted1 _) ?_
  unfold Builtin.«sorted»
  refine wpAny_bind (m := (checkCount "sorted" 1 1 _)) (wpAny_pure ?_)
  refine wpAny_bind (collect_grown (A := A.in1) K hh hok hn fun h' tk acc hk hgrow hacc => ?_)
  have hl : acc.toList.length = n := Array.length_toList.trans hacc.1
  refine wpAny_bind (wpAny_newList ?_ (hl.symm ▸ hn))
  have hg := h h' tk acc.toList hk hgrow hl (fun j v e => hacc.2 j v (by rw [← Array.getElem?_toList]; exact e))
  refine wpAny_bind (wpAny_holding (wpAny_mono hg (fun _ s' x => ?_) (fun _ _ z => z)))
  exact wpAny_pure ⟨_, rfl, x⟩
end
section
open PySem.W
variable {X : Cx}
theorem cr_sortedDK (hc : X.calm = true) : CallR X (.builtin "sorted") (fun xs H Q => ∃ (a : Addr) (kvs : List (Key × V)) (ns : List Int), xs = [.ref a] ∧ Rd H a (.dK kvs) ∧ kvs.map (fun kv => kV kv.1) = ns.map V.int ∧ ∀ (ns' : List Int) (p : Addr), ns'.Perm ns → ns'.Pairwise (· ≤ ·) → H p = none → Q (.ref p) (upd H p (.lst (ns'.map V.int)))) := by
  intro pins s σ H xs us Q I r q
  obtain ⟨a, kvs, ns, ex, hd, hi, q⟩ := q
  subst ex
  obtain ⟨u, eu, rx⟩ := vals1 r
  subst eu
  cases rx
  obtain ⟨z, lo, vs, rel, dd⟩ := dk_rd I.hok hd
  obtain ⟨ep, hat⟩ := dd.dictAt
  have ek : (kvs.map fun kv => kV kv.1) = vs.map fun p => kV p.1 := by
    have e := congrArg (List.map kV) rel.keys
    rw [List.map_map, List.map_map] at e
    exact e
  refine sorted_src (PySem.W.kdl_dict (knd := mixKind X.prog X.w) (kvs := vs) (ep := ep) lo) (I.ok.hd hc) hat (by rw [← rel.length]; exact z) fun h' tk its hk hgrow hl hv => ?_
  have hsz : s.heap.objs.size ≤ h'.objs.size := Nat.le_of_lt hgrow
  have hv2 : Vals (vs.map fun p => kV p.1) its := keys_at hl fun j v e => hv j v e
  have hvi : Vals (ns.map V.int) its := by rw [← hi, ek]; exact hv2
  have hints := hvi.ints
  have hz : its.length ≤ sizeLine := by rw [hl, ← rel.length]; exact z
  have hob : (h'.push { cls := .type "list", data := .seq its.toArray }).get? h'.objs.size = some (PyProof.Rows.seqObj "list" its.toArray 0) := Heap.get?_push_size _ rfl
  refine wpAny_call_entry PyProof.Rows.slot_list_sort ⟨_, hob, rfl⟩ PyProof.Rows.entry_list_sort
    (SrtO.list_sort_ord SrtO.swo_int hob hz (fun h2 => SrtO.ints_sortable hints h2) fun out h1 h2 => ⟨.none, rfl, ?_⟩) (PyProof.Rows.args_list_sort _)
  obtain ⟨k1, k2, k3⟩ := SrtO.ints_out hints h1 h2
  obtain ⟨ep2, he'⟩ := PyProof.Rows.sortedHeap_at (vs := its) (out := out.toArray) hob
  have hlen : ((out.map SrtO.iv).map V.int).length ≤ sizeLine := by
    rw [List.length_map, k2.length_eq, show ns.length = its.length from by simpa using (Paired.length hvi)]; exact hz
  refine ⟨.ref h'.objs.size, upd H h'.objs.size (.lst ((out.map SrtO.iv).map V.int)), I.laid (fun b u hb => ?_) hsz ⟨hlen, out, ep2, vals_of_ints k1, he'⟩, rfl, q _ _ k2 k3 (I.hok.fresh hsz)⟩
  have hb2 := hk b u hb
  have hlt := Heap.lt_size hb2
  rw [PyProof.Rows.sortedHeap_old (Nat.ne_of_lt hlt) (by rw [size_push']; exact Nat.lt_succ_of_lt hlt)]
  exact Heap.get?_push_of_some _ hb2
theorem keysI_eq : ∀ {ks : List DK} {ns : List Int}, keysI ks = some ns → ks = ns.map Sum.inl
  | [], _, h => by cases h; rfl
  | .inl i :: r, ns, h => by
    unfold keysI at h
    cases q : keysI r with
    | none => rw [q] at h; cases h
    | some ms => rw [q] at h; cases h; rw [List.map_cons, ← keysI_eq q]
  | .inr _ :: _, _, h => by cases h
theorem cd_sortedD (hc : X.calm = true) : CallD X (.builtin "sorted") gSortedD := by
  obtain ⟨r0, p0, q0⟩ := cd_sorted (X := X)
  refine ⟨_, p0.or (cr_sortedDK hc), ?_⟩
  intro Z σ G H r xs ds o Q S hs e h
  unfold gSortedD at e
  split at e
  · rename_i kvs
    obtain ⟨v, rfl, k⟩ := rh1 hs
    cases q : keysI (kvs.map (·.1)) with
    | none => simp [q] at e
    | some ns =>
      simp only [q] at e; cases e
      obtain ⟨a, ws, rfl, h1, h2, h3⟩ := k
      have hk := keysI_eq q
      refine .inr ⟨a, ws, ns, rfl, h1, ?_, fun ns' p p1 p2 hp => ?_⟩
      · have := congrArg (List.map kV) (h2.trans hk)
        rw [List.map_map, List.map_map] at this
        exact this
      · have : ns' = sortI ns := sorted_unique (p1.trans (sortI_perm ns).symm) p2 (sortI_sorted ns)
        subst this
        exact h.lst S (.ints _) hp
  · exact .inl (q0 Z σ G H r xs ds o Q S hs e h)
end
end DL
end

section
set_option Elab.async false
set_option linter.all false
set_option maxRecDepth 100000
set_option autoImplicit false
/-! DL22: expressions that change nothing. -/
namespace DL
open PySem PySem.Spec PyProof.Rows L2
section
variable {X : Cx} {W : WX} {Z : Fr0} {σ : L2.St} {G H : Hp} {r : Ev}
def still (H : Hp) : Fr0 := ⟨H, H, []⟩
theorem RS.still {K : FG} (S : RS K Z G H r σ) : RS K (still H) H H (frzAll r) σ := by
  have get : ∀ (i : Nat) (s : Sl), (frzAll r)[i]? = some s → ∃ s0, r[i]? = some s0 ∧ s = frzS s0 := fun i s e => by
    unfold frzAll at e
    rw [List.getElem?_map] at e
    cases q : r[i]? with
    | none => rw [q] at e; cases e
    | some s0 => rw [q] at e; exact ⟨s0, rfl, (Option.some.inj e).symm⟩
  have noow : ∀ i : Nat, isOw (frzAll r)[i]? = true → False := fun i h => by
    obtain ⟨b, d, q⟩ := isOw_some h
    obtain ⟨s0, _, e⟩ := get i _ q
    cases s0 <;> cases e
  refine ⟨by unfold frzAll; rw [List.length_map]; exact S.len, Same.refl _, Same.refl _, fun _ _ h _ => h, fun _ h => h, fun _ _ h => .inl h, fun i d q => ?_, fun i b d q => ?_, fun i j a h => (noow i h).elim⟩
  · obtain ⟨s0, e0, e⟩ := get i _ q
    cases s0 with
    | no => cases e
    | va d0 =>
      cases e
      obtain ⟨v, e1, e2⟩ := S.va i d e0
      exact ⟨v, e1, e2.mono S.sg⟩
    | ow b d0 =>
      cases e
      obtain ⟨a, e1, e2, e3, e4⟩ := S.ow i b d e0
      refine ⟨_, e1, ?_⟩
      cases d with
      | lst ds => obtain ⟨vs, h, rd⟩ := e3; exact .lst h (rd.mono S.sg)
      | dct ds => obtain ⟨vs, h, k, rd⟩ := e3; exact .dct (.inl h) k (rd.mono S.sg)
      | dtt ds => obtain ⟨vs, h, k, rd⟩ := e3; exact .dtt h k (rd.mono S.sg)
      | _ => exact e3.elim
  · exact (noow i (by rw [q]; rfl)).elim
theorem RS.unstill {K : FG} {G' H' : Hp} {r' : Ev} (S : RS K Z G H r σ) (T : RS K (DL.still H) G' H' r' σ) : RS K Z G H' r σ ∧ EX σ G H r G H' r ∧ (∀ a o, H a = some o → H' a = some o) := by
  have up : ∀ a o, H a = some o → H' a = some o := fun a o h => T.h0 a o h (by simp [DL.still])
  refine ⟨⟨S.len, fun a o h => up a o (S.sg a o h), S.g0, fun a o h n => up a o (S.h0 a o h n), fun a h => S.dm a (T.dm a h), S.fr, S.va, fun i b d q => ?_, S.inj⟩, ⟨Same.refl _, fun a o h _ => up a o h, fun a h => T.dm a h, fun _ _ h => .inl h, fun _ h => h⟩, up⟩
  obtain ⟨a, e1, e2, e3, e4⟩ := S.ow i b d q
  obtain ⟨o, ho⟩ := e3.there
  exact ⟨a, e1, e2, e3.at (Same.refl _) ((up a o ho).trans ho.symm), e4⟩
theorem RD.flat {K : FG} {G G' : Hp} {d : D} {v : V} (h : RD K G' d v) (f : flatD d = true) : RD K G d v := by
  cases d with
  | non => cases h; exact .non
  | bl b => cases h; exact .bl b
  | int i => cases h; exact .int i
  | str x => cases h; exact .str x
  | _ => cases f
theorem RDs.flats {K : FG} {G G' : Hp} : ∀ {ds : List D} {vs : List V}, RDs K G' ds vs → ds.all flatD = true → RDs K G ds vs
  | _, _, .nil, _ => .nil
  | _, _, .cons a b, h => by rw [List.all_cons, Bool.and_eq_true] at h; exact .cons (a.flat h.1) (b.flats h.2)
theorem EPost.quiet {f : E} {Q : VK} (S : RS X.K Z G H r σ) (p : EPost X W Z σ G H r Q (eQ f r)) : EPost X W (still H) σ H H (frzAll r) Q (f (frzAll r)) ∨ EPost X W Z σ G H r Q (f r) := by
  unfold eQ at p
  split at p
  · rename_i d r' e
    split at p
    · rename_i fl
      refine .inl ?_
      rw [e]
      intro v G' H' T _ R
      obtain ⟨S1, X1, _⟩ := S.unstill T
      exact p v G H' S1 X1 (RD.flat R fl)
    · exact .inr p
  · rename_i acc r' e
    split at p
    · rename_i fl
      refine .inl ?_
      rw [e]
      intro v G' H' T _ R
      obtain ⟨S1, X1, up⟩ := S.unstill T
      obtain ⟨a, rfl, g1, ⟨h1, _⟩, _, vs, h2, rd⟩ := R
      have hn : H a = none := h1
      refine p _ G H' S1 X1 ⟨a, rfl, S.sg.free hn, ⟨S.dm a hn, hn⟩, (S.fresh hn).2.2, vs, h2, rd.flats fl⟩
    · exact .inr p
  · exact .inr p
theorem de_quiet {e : Expr} {f : E} (h : DE X W e f) : DE X W e (eQ f) := by
  obtain ⟨t, p1, p2⟩ := h.ex
  refine ⟨t, p1, fun Z σ G H r Q S p => ?_⟩
  rcases p.quiet S with q | q
  · exact p2 _ _ _ _ _ _ S.still q
  · exact p2 _ _ _ _ _ _ S q
variable {elt tg : Expr} {ifs : List Expr} {scope : Scope} {own : List (Str × Nat)} {pos np : Pos} {i : Nat} {x : Str} {t : Tg} {fc : T} {fe : E} {vs : List Nat}
theorem ds_setLcNQ {j : Nat} {y : Str} {py spos : Pos} (hc : X.calm = true) (hN : X.N.Nodup) (hy : X.N[j]? = some y) (hyl : X.env.scope.names.lookup y = some .local)
    (hsw : swapsWith (.ListComp elt [⟨tg, .Name x np, ifs, 0⟩] scope pos) (some (.Name y py)) spos.line X.env = pure true) (hx : PE X (.Name x np) (tVar i)) (ok : BlkOk X.N X.env.scope scope own)
    (hg : ∀ (s : Shared) (H : Hp) (C : Addr) (cl : List (Str × Addr)) (fp : List Addr), DG (X.blk s H scope (compEnvC scope cl C X.env) fp) tg t) (ht : ∀ (s : Shared) (H : Hp) (C : Addr) (cl : List (Str × Addr)) (fp : List Addr), DIf (X.blk s H scope (compEnvC scope cl C X.env) fp) W0 ifs fc)
    (he : ∀ (s : Shared) (H : Hp) (C : Addr) (cl : List (Str × Addr)) (fp : List Addr), DE (X.blk s H scope (compEnvC scope cl C X.env) fp) W0 elt fe) (hts : ∀ i ∈ t.slots, i ∈ own.map (·.2)) (hvs : own.map (·.2) = vs) (hs : ∀ y, foldedSetIterable (.Name x np) X.env y = pure y := by intro _; rfl) :
    DS X W (.Assign [.Name y py] (.ListComp elt [⟨tg, .Name x np, ifs, 0⟩] scope pos) spos) (sSet j (eQ (eLcN vs t i fc fe))) := by
  subst hvs
  have row := di_seq (W := W) (tg := tg) (de_name hx)
  obtain ⟨wi, p0, q0⟩ := row.ex
  have p1 := ps_setLc (own := own) (g := tDG X t) (tt := tDT X W0 fc) (te := tD X W0 fe) hc hN hy hyl hsw p0 ok (fun s H C cl fp => (hg s H C cl fp).canon) (fun s H C cl fp => (ht s H C cl fp).canon) (fun s H C cl fp => (he s H C cl fp).canon) hs
  have pk := ps_setLc (own := own) (g := tDG X t) (tt := tDT X W0 fc) (te := tD X W0 fe) hc hN hy hyl hsw (pi_keys hx) ok (fun s H C cl fp => (hg s H C cl fp).canon) (fun s H C cl fp => (ht s H C cl fp).canon) (fun s H C cl fp => (he s H C cl fp).canon) hs
  refine ⟨_, PS.or (PS.or (ps_lock pk) pk) p1, fun Z σ G H r D S hp => ?_⟩
  have one : ∀ (Z : Fr0) (G : Hp) (r : Ev), RS X.K Z G H r σ → EPost X W Z σ G H r (fun v H' => D.nx (σ.set j (some v)) H') (eLcN (own.map (·.2)) t i fc fe r) →
      (tLockE (tLc (L2.iKeys (tVar i)) (tDG X t) (tDT X W0 fc) (tD X W0 fe) (own.map (·.2))) σ H (fun v H' => D.nx (σ.set j (some v)) H') ∨ tLc (L2.iKeys (tVar i)) (tDG X t) (tDT X W0 fc) (tD X W0 fe) (own.map (·.2)) σ H (fun v H' => D.nx (σ.set j (some v)) H')) ∨
      tLc wi (tDG X t) (tDT X W0 fc) (tD X W0 fe) (own.map (·.2)) σ H (fun v H' => D.nx (σ.set j (some v)) H') := by
    intro Z G r S hp
    by_cases hk : isK r[i]? = true
    · refine .inl (keys_post (X := X) (W := W) (i := i) (T := fun wi => tLc wi (tDG X t) (tDT X W0 fc) (tD X W0 fe) (own.map (·.2))) (F := fun fi => eLc (own.map (·.2)) t fi fc fe) (Q := fun v H' => D.nx (σ.set j (some v)) H') (fun qi S hp => lc_post hts qi S hp) (fun r c r' => by
         unfold eLc
         split
         · split
           · exact lcGo_ne _ _ _ _ _
           · exact nofun
         · rename_i h1
           unfold iKeysD at h1
           split at h1 <;> cases h1
         · exact nofun) S hk ?_)
      unfold eLcN at hp
      rw [if_pos hk] at hp
      exact hp
    · refine .inr (lc_post hts (fun R => q0 Z σ G H r R S) S ?_)
      unfold eLcN at hp
      rw [if_neg hk] at hp
      exact hp
  unfold sSet at hp
  have hp2 : EPost X W Z σ G H r (fun v H' => D.nx (σ.set j (some v)) H') (eQ (eLcN (own.map (·.2)) t i fc fe) r) := set_post hp (.inr trivial)
  rcases hp2.quiet S with q | q
  · exact one _ _ _ S.still q
  · exact one _ _ _ S q
end
end DL
end

section
set_option autoImplicit false
set_option linter.all false
/-! DLK: the combinators step by step. A step looks at one part's outcome alone. -/
namespace DL.K
open DL PySem
def bin1 (g : D → D → Option Op) (b : E) (x_ : EOut) : EOut := match x_ with
  | .ok o r1 => (match b r1 with | .ok p r2 => (match rsv r2 o, rsv r2 p with | some x, some y => (match g x y with | some z => .ok z r2 | none => .bad) | _, _ => .bad) | .err c r2 => .err c r2 | .bad => .bad)
  | .err c r1 => .err c r1
  | .bad => .bad
theorem bin1_congr (g : D → D → Option Op) (b : E) {x_ y_ : EOut} (h_ : x_ = y_) : bin1 g b x_ = bin1 g b y_ := by rw [h_]
theorem eBin_K (g : D → D → Option Op) (a b : E) (r : Ev) : eBin g a b r = bin1 g b (a r) := id rfl
def bin2 (g : D → D → Option Op) (o : Op) (x_ : EOut) : EOut := match x_ with
  | .ok p r2 => (match rsv r2 o, rsv r2 p with | some x, some y => (match g x y with | some z => .ok z r2 | none => .bad) | _, _ => .bad)
  | .err c r2 => .err c r2
  | .bad => .bad
theorem bin2_congr (g : D → D → Option Op) (o : Op) {x_ y_ : EOut} (h_ : x_ = y_) : bin2 g o x_ = bin2 g o y_ := by rw [h_]
theorem bin1_ok (g : D → D → Option Op) (b : E) (o : Op) (r : Ev) : bin1 g b (.ok o r) = bin2 g o (b r) := id rfl
theorem bin1_err (g : D → D → Option Op) (b : E) (c : Str) (r : Ev) : bin1 g b (.err c r) = .err c r := id rfl
def opt (r : Ev) (x : Option Op) : EOut := match x with
  | some z => .ok z r
  | none => .bad
theorem opt_congr (r : Ev) {x y : Option Op} (h : x = y) : opt r x = opt r y := by rw [h]
theorem opt_some (r : Ev) (z : Op) : opt r (some z) = .ok z r := id rfl
def bin3 (g : D → D → Option Op) (r : Ev) (x y : Option D) : EOut := match x, y with
  | some x, some y => opt r (g x y)
  | _, _ => .bad
theorem bin3_congr (g : D → D → Option Op) (r : Ev) {x y x2 y2 : Option D} (h : x = x2) (h2 : y = y2) : bin3 g r x y = bin3 g r x2 y2 := by rw [h, h2]
theorem bin2_ok (g : D → D → Option Op) (o p : Op) (r : Ev) : bin2 g o (.ok p r) = bin3 g r (rsv r o) (rsv r p) := by
  unfold bin2 bin3 opt; rfl
theorem bin2_err (g : D → D → Option Op) (o : Op) (c : Str) (r : Ev) : bin2 g o (.err c r) = .err c r := id rfl
theorem bin3_some (g : D → D → Option Op) (r : Ev) (x y : D) : bin3 g r (some x) (some y) = opt r (g x y) := id rfl
def un1 (g : D → Option Op) (x_ : EOut) : EOut := match x_ with
  | .ok o r1 => (match rsv r1 o with | some d => opt r1 (g d) | none => .bad)
  | .err c r1 => .err c r1
  | .bad => .bad
theorem un1_congr (g : D → Option Op) {x_ y_ : EOut} (h_ : x_ = y_) : un1 g x_ = un1 g y_ := by rw [h_]
theorem eUn_K (g : D → Option Op) (a : E) (r : Ev) : eUn g a r = un1 g (a r) := by
  unfold eUn un1 opt; rfl
def un2 (g : D → Option Op) (r : Ev) (x : Option D) : EOut := match x with
  | some d => opt r (g d)
  | none => .bad
theorem un2_congr (g : D → Option Op) (r : Ev) {x y : Option D} (h : x = y) : un2 g r x = un2 g r y := by rw [h]
theorem un1_ok (g : D → Option Op) (o : Op) (r : Ev) : un1 g (.ok o r) = un2 g r (rsv r o) := id rfl
theorem un1_err (g : D → Option Op) (c : Str) (r : Ev) : un1 g (.err c r) = .err c r := id rfl
theorem un2_some (g : D → Option Op) (r : Ev) (d : D) : un2 g r (some d) = opt r (g d) := id rfl
def cons1 (b : A) (x_ : EOut) : AOut := match x_ with
  | .ok o r1 => (match b r1 with | .ok os r2 => .ok (o :: os) r2 | .err c r2 => .err c r2 | .bad => .bad)
  | .err c r1 => .err c r1
  | .bad => .bad
theorem cons1_congr (b : A) {x_ y_ : EOut} (h_ : x_ = y_) : cons1 b x_ = cons1 b y_ := by rw [h_]
def cons2 (o : Op) (x_ : AOut) : AOut := match x_ with
  | .ok os r2 => .ok (o :: os) r2
  | .err c r2 => .err c r2
  | .bad => .bad
theorem cons2_congr (o : Op) {x_ y_ : AOut} (h_ : x_ = y_) : cons2 o x_ = cons2 o y_ := by rw [h_]
theorem aCons_K (a : E) (b : A) (r : Ev) : aCons a b r = cons1 b (a r) := id rfl
theorem cons1_ok (b : A) (o : Op) (r : Ev) : cons1 b (.ok o r) = cons2 o (b r) := id rfl
theorem cons1_err (b : A) (c : Str) (r : Ev) : cons1 b (.err c r) = .err c r := id rfl
theorem cons2_ok (o : Op) (os : List Op) (r : Ev) : cons2 o (.ok os r) = .ok (o :: os) r := id rfl
theorem cons2_err (o : Op) (c : Str) (r : Ev) : cons2 o (.err c r) = .err c r := id rfl
theorem aNil_K (r : Ev) : aNil r = .ok [] r := id rfl
def pure1 (g : List D → Option Op) (x_ : AOut) : EOut := match x_ with
  | .ok os r1 => (match rsvs r1 os with | some ds => opt r1 (g ds) | none => .bad)
  | .err c r1 => .err c r1
  | .bad => .bad
theorem pure1_congr (g : List D → Option Op) {x_ y_ : AOut} (h_ : x_ = y_) : pure1 g x_ = pure1 g y_ := by rw [h_]
def pure2 (g : List D → Option Op) (r : Ev) (x : Option (List D)) : EOut := match x with
  | some ds => opt r (g ds)
  | none => .bad
theorem pure2_congr (g : List D → Option Op) (r : Ev) {x y : Option (List D)} (h : x = y) : pure2 g r x = pure2 g r y := by rw [h]
theorem ePure_K (g : List D → Option Op) (a : A) (r : Ev) : ePure g a r = pure1 g (a r) := by
  unfold ePure pure1 opt; rfl
theorem pure1_ok (g : List D → Option Op) (os : List Op) (r : Ev) : pure1 g (.ok os r) = pure2 g r (rsvs r os) := id rfl
theorem pure1_err (g : List D → Option Op) (c : Str) (r : Ev) : pure1 g (.err c r) = .err c r := id rfl
theorem pure2_some (g : List D → Option Op) (r : Ev) (ds : List D) : pure2 g r (some ds) = opt r (g ds) := id rfl
def tup1  (x_ : AOut) : EOut := match x_ with
  | .ok os r1 => (match fzos os r1 with | some (ds, r2) => if ds.length ≤ SZ then .ok (.fz (.tup ds)) r2 else .bad | none => .bad)
  | .err c r1 => .err c r1
  | .bad => .bad
theorem tup1_congr  {x_ y_ : AOut} (h_ : x_ = y_) : tup1  x_ = tup1  y_ := by rw [h_]
def tup2 (x : Option (List D × Ev)) : EOut := match x with
  | some (ds, r2) => if ds.length ≤ SZ then .ok (.fz (.tup ds)) r2 else .bad
  | none => .bad
theorem eTup_K (a : A) (r : Ev) : eTup a r = tup1 (a r) := id rfl
theorem tup1_ok (os : List Op) (r : Ev) : tup1 (.ok os r) = tup2 (fzos os r) := id rfl
theorem tup1_err (c : Str) (r : Ev) : tup1 (.err c r) = .err c r := id rfl
theorem tup2_some (ds : List D) (r : Ev) : tup2 (some (ds, r)) = if ds.length ≤ SZ then .ok (.fz (.tup ds)) r else .bad := id rfl
def lst1  (x_ : AOut) : EOut := match x_ with
  | .ok os r1 => (match fzos os r1 with | some (ds, r2) => if ds.length ≤ SZ then .ok (.tm (.lst ds)) r2 else .bad | none => .bad)
  | .err c r1 => .err c r1
  | .bad => .bad
theorem lst1_congr  {x_ y_ : AOut} (h_ : x_ = y_) : lst1  x_ = lst1  y_ := by rw [h_]
def lst2 (x : Option (List D × Ev)) : EOut := match x with
  | some (ds, r2) => if ds.length ≤ SZ then .ok (.tm (.lst ds)) r2 else .bad
  | none => .bad
theorem eLst_K (a : A) (r : Ev) : eLst a r = lst1 (a r) := id rfl
theorem lst1_ok (os : List Op) (r : Ev) : lst1 (.ok os r) = lst2 (fzos os r) := id rfl
theorem lst1_err (c : Str) (r : Ev) : lst1 (.err c r) = .err c r := id rfl
theorem lst2_some (ds : List D) (r : Ev) : lst2 (some (ds, r)) = if ds.length ≤ SZ then .ok (.tm (.lst ds)) r else .bad := id rfl
def name1 (i : Nat) (r : Ev) (x : Option Sl) : EOut := match x with
  | some (.va d) => .ok (.fz d) r
  | some (.ow _ _) => .ok (.br i) r
  | _ => .bad
theorem name1_congr (i : Nat) (r : Ev) {x y : Option Sl} (h : x = y) : name1 i r x = name1 i r y := by rw [h]
theorem eName_K (i : Nat) (r : Ev) : eName i r = name1 i r r[i]? := id rfl
theorem name1_va (i : Nat) (r : Ev) (d : D) : name1 i r (some (.va d)) = .ok (.fz d) r := id rfl
theorem name1_ow (i : Nat) (r : Ev) (b : Bool) (d : D) : name1 i r (some (.ow b d)) = .ok (.br i) r := id rfl
theorem eC_K (d : D) (r : Ev) : eC d r = .ok (.fz d) r := id rfl
theorem rsv_fz (r : Ev) (d : D) : rsv r (.fz d) = some d := id rfl
theorem rsv_tm (r : Ev) (d : D) : rsv r (.tm d) = some d := id rfl
def rsv1 (x : Option Sl) : Option D := match x with
  | some (.ow _ d) => some d
  | some (.va d) => some d
  | _ => none
theorem rsv_br (r : Ev) (i : Nat) : rsv r (.br i) = rsv1 r[i]? := id rfl
theorem rsv1_ow (b : Bool) (d : D) : rsv1 (some (.ow b d)) = some d := id rfl
theorem rsv1_va (d : D) : rsv1 (some (.va d)) = some d := id rfl
theorem rsvs_nil (r : Ev) : rsvs r [] = some [] := id rfl
def rsvs1 (r : Ev) (os : List Op) (x : Option D) : Option (List D) := match x with
  | some d => match rsvs r os with
    | some ds => some (d :: ds)
    | none => none
  | none => none
def rsvs2 (d : D) (x : Option (List D)) : Option (List D) := match x with
  | some ds => some (d :: ds)
  | none => none
theorem rsvs_cons (r : Ev) (o : Op) (os : List Op) : rsvs r (o :: os) = rsvs1 r os (rsv r o) := id rfl
theorem rsvs1_some (r : Ev) (os : List Op) (d : D) : rsvs1 r os (some d) = rsvs2 d (rsvs r os) := id rfl
theorem rsvs2_some (d : D) (ds : List D) : rsvs2 d (some ds) = some (d :: ds) := id rfl
theorem fzo_fz (r : Ev) (d : D) : fzo r (.fz d) = some (d, r) := id rfl
theorem fzo_tm (r : Ev) (d : D) : fzo r (.tm d) = some (d, r) := id rfl
def fzo1 (i : Nat) (r : Ev) (x : Option Sl) : Option (D × Ev) := match x with
  | some (.ow false d) => some (d, r.set i (.va d))
  | some (.va d) => some (d, r)
  | _ => none
theorem fzo_br (r : Ev) (i : Nat) : fzo r (.br i) = fzo1 i r r[i]? := id rfl
theorem fzo1_ow (i : Nat) (r : Ev) (d : D) : fzo1 i r (some (.ow false d)) = some (d, r.set i (.va d)) := id rfl
theorem fzo1_va (i : Nat) (r : Ev) (d : D) : fzo1 i r (some (.va d)) = some (d, r) := id rfl
theorem fzos_nil (r : Ev) : fzos [] r = some ([], r) := id rfl
def fzos1 (os : List Op) (x : Option (D × Ev)) : Option (List D × Ev) := match x with
  | some (d, r1) => match fzos os r1 with
    | some (ds, r2) => some (d :: ds, r2)
    | none => none
  | none => none
def fzos2 (d : D) (x : Option (List D × Ev)) : Option (List D × Ev) := match x with
  | some (ds, r2) => some (d :: ds, r2)
  | none => none
theorem fzos_cons (o : Op) (os : List Op) (r : Ev) : fzos (o :: os) r = fzos1 os (fzo r o) := id rfl
theorem fzos1_some (os : List Op) (d : D) (r : Ev) : fzos1 os (some (d, r)) = fzos2 d (fzos os r) := id rfl
theorem fzos2_some (d : D) (ds : List D) (r : Ev) : fzos2 d (some (ds, r)) = some (d :: ds, r) := id rfl
def tru1  (x_ : EOut) : TOut := match x_ with
  | .ok o r1 => (match rsv r1 o with | some d => (match dtr d with | some b => .ok b r1 | none => .bad) | none => .bad)
  | .err c r1 => .err c r1
  | .bad => .bad
theorem tru1_congr  {x_ y_ : EOut} (h_ : x_ = y_) : tru1  x_ = tru1  y_ := by rw [h_]
def tru2 (r : Ev) (x : Option D) : TOut := match x with
  | some d => match dtr d with
    | some b => .ok b r
    | none => .bad
  | none => .bad
def tru3 (r : Ev) (x : Option Bool) : TOut := match x with
  | some b => .ok b r
  | none => .bad
theorem tTru_K (a : E) (r : Ev) : tTru a r = tru1 (a r) := id rfl
theorem tru1_ok (o : Op) (r : Ev) : tru1 (.ok o r) = tru2 r (rsv r o) := id rfl
theorem tru1_err (c : Str) (r : Ev) : tru1 (.err c r) = .err c r := id rfl
theorem tru2_some (r : Ev) (d : D) : tru2 r (some d) = tru3 r (dtr d) := id rfl
theorem tru3_some (r : Ev) (b : Bool) : tru3 r (some b) = .ok b r := id rfl
def tbl1  (x_ : EOut) : TOut := match x_ with
  | .ok (.fz (.bl b)) r1 => .ok b r1
  | .ok _ _ => .bad
  | .err c r1 => .err c r1
  | .bad => .bad
theorem tbl1_congr  {x_ y_ : EOut} (h_ : x_ = y_) : tbl1  x_ = tbl1  y_ := by rw [h_]
theorem tBl_K (a : E) (r : Ev) : tBl a r = tbl1 (a r) := id rfl
theorem tbl1_ok (b : Bool) (r : Ev) : tbl1 (.ok (.fz (.bl b)) r) = .ok b r := id rfl
theorem tbl1_err (c : Str) (r : Ev) : tbl1 (.err c r) = .err c r := id rfl
def and1 (b : T) (x_ : TOut) : TOut := match x_ with
  | .ok true r1 => b r1
  | x => x
theorem and1_congr (b : T) {x_ y_ : TOut} (h_ : x_ = y_) : and1 b x_ = and1 b y_ := by rw [h_]
theorem tAnd_K (a b : T) (r : Ev) : tAnd a b r = and1 b (a r) := id rfl
theorem and1_t (b : T) (r : Ev) : and1 b (.ok true r) = b r := id rfl
theorem and1_f (b : T) (r : Ev) : and1 b (.ok false r) = .ok false r := id rfl
theorem and1_err (b : T) (c : Str) (r : Ev) : and1 b (.err c r) = .err c r := id rfl
def or1 (b : T) (x_ : TOut) : TOut := match x_ with
  | .ok false r1 => b r1
  | x => x
theorem or1_congr (b : T) {x_ y_ : TOut} (h_ : x_ = y_) : or1 b x_ = or1 b y_ := by rw [h_]
theorem tOr_K (a b : T) (r : Ev) : tOr a b r = or1 b (a r) := id rfl
theorem or1_t (b : T) (r : Ev) : or1 b (.ok true r) = .ok true r := id rfl
theorem or1_f (b : T) (r : Ev) : or1 b (.ok false r) = b r := id rfl
theorem or1_err (b : T) (c : Str) (r : Ev) : or1 b (.err c r) = .err c r := id rfl
def not1  (x_ : TOut) : TOut := match x_ with
  | .ok b r1 => .ok (!b) r1
  | x => x
theorem not1_congr  {x_ y_ : TOut} (h_ : x_ = y_) : not1  x_ = not1  y_ := by rw [h_]
theorem tNot_K (a : T) (r : Ev) : tNot a r = not1 (a r) := id rfl
theorem not1_ok (b : Bool) (r : Ev) : not1 (.ok b r) = .ok (!b) r := id rfl
theorem not1_err (c : Str) (r : Ev) : not1 (.err c r) = .err c r := id rfl
theorem tYes_K (r : Ev) : tYes r = .ok true r := id rfl
def eand1 (b : E) (x_ : EOut) : EOut := match x_ with
  | .ok (.fz (.bl true)) r1 => b r1
  | .ok (.fz (.bl false)) r1 => .ok (.fz (.bl false)) r1
  | .ok _ _ => .bad
  | .err c r1 => .err c r1
  | .bad => .bad
theorem eand1_congr (b : E) {x_ y_ : EOut} (h_ : x_ = y_) : eand1 b x_ = eand1 b y_ := by rw [h_]
theorem eAnd_K (a b : E) (r : Ev) : eAnd a b r = eand1 b (a r) := id rfl
theorem eand1_t (b : E) (r : Ev) : eand1 b (.ok (.fz (.bl true)) r) = b r := id rfl
theorem eand1_f (b : E) (r : Ev) : eand1 b (.ok (.fz (.bl false)) r) = .ok (.fz (.bl false)) r := id rfl
theorem eand1_err (b : E) (c : Str) (r : Ev) : eand1 b (.err c r) = .err c r := id rfl
def eor1 (b : E) (x_ : EOut) : EOut := match x_ with
  | .ok (.fz (.bl true)) r1 => .ok (.fz (.bl true)) r1
  | .ok (.fz (.bl false)) r1 => b r1
  | .ok _ _ => .bad
  | .err c r1 => .err c r1
  | .bad => .bad
theorem eor1_congr (b : E) {x_ y_ : EOut} (h_ : x_ = y_) : eor1 b x_ = eor1 b y_ := by rw [h_]
theorem eOr_K (a b : E) (r : Ev) : eOr a b r = eor1 b (a r) := id rfl
theorem eor1_t (b : E) (r : Ev) : eor1 b (.ok (.fz (.bl true)) r) = .ok (.fz (.bl true)) r := id rfl
theorem eor1_f (b : E) (r : Ev) : eor1 b (.ok (.fz (.bl false)) r) = b r := id rfl
theorem eor1_err (b : E) (c : Str) (r : Ev) : eor1 b (.err c r) = .err c r := id rfl
def enot1  (x_ : TOut) : EOut := match x_ with
  | .ok b r1 => .ok (.fz (.bl (!b))) r1
  | .err c r1 => .err c r1
  | .bad => .bad
theorem enot1_congr  {x_ y_ : TOut} (h_ : x_ = y_) : enot1  x_ = enot1  y_ := by rw [h_]
theorem eNot_K (a : T) (r : Ev) : eNot a r = enot1 (a r) := id rfl
theorem eNotE_K (a : E) (r : Ev) : eNotE a r = enot1 (tTru a r) := id rfl
theorem enot1_ok (b : Bool) (r : Ev) : enot1 (.ok b r) = .ok (.fz (.bl (!b))) r := id rfl
theorem enot1_err (c : Str) (r : Ev) : enot1 (.err c r) = .err c r := id rfl
def eif1 (a : E) (b : E) (x_ : TOut) : EOut := match x_ with
  | .ok true r1 => a r1
  | .ok false r1 => b r1
  | .err c r1 => .err c r1
  | .bad => .bad
theorem eif1_congr (a : E) (b : E) {x_ y_ : TOut} (h_ : x_ = y_) : eif1 a b x_ = eif1 a b y_ := by rw [h_]
theorem eIf_K (c : T) (a b : E) (r : Ev) : eIf c a b r = eif1 a b (c r) := id rfl
theorem eif1_t (a b : E) (r : Ev) : eif1 a b (.ok true r) = a r := id rfl
theorem eif1_f (a b : E) (r : Ev) : eif1 a b (.ok false r) = b r := id rfl
theorem eif1_err (a b : E) (c : Str) (r : Ev) : eif1 a b (.err c r) = .err c r := id rfl
def ch1 (k : Ch) (x_ : EOut) : EOut := match x_ with
  | .ok o r1 => k o r1
  | .err c r1 => .err c r1
  | .bad => .bad
theorem ch1_congr (k : Ch) {x_ y_ : EOut} (h_ : x_ = y_) : ch1 k x_ = ch1 k y_ := by rw [h_]
theorem eCh_K (a : E) (k : Ch) (r : Ev) : eCh a k r = ch1 k (a r) := id rfl
theorem ch1_ok (k : Ch) (o : Op) (r : Ev) : ch1 k (.ok o r) = k o r := id rfl
theorem ch1_err (k : Ch) (c : Str) (r : Ev) : ch1 k (.err c r) = .err c r := id rfl
theorem chLast_K (g : D → D → Option Op) (b : E) (o : Op) (r : Ev) : chLast g b o r = bin2 g o (b r) := id rfl
def link1 (g : D → D → Option Op) (k : Ch) (o : Op) (x_ : EOut) : EOut := match x_ with
  | .ok p r1 => (match rsv r1 o, rsv r1 p with | some x, some y => (match g x y with | some (.fz (.bl true)) => k p r1 | some (.fz (.bl false)) => .ok (.fz (.bl false)) r1 | _ => .bad) | _, _ => .bad)
  | .err c r1 => .err c r1
  | .bad => .bad
theorem link1_congr (g : D → D → Option Op) (k : Ch) (o : Op) {x_ y_ : EOut} (h_ : x_ = y_) : link1 g k o x_ = link1 g k o y_ := by rw [h_]
theorem chLink_K (g : D → D → Option Op) (b : E) (k : Ch) (o : Op) (r : Ev) : chLink g b k o r = link1 g k o (b r) := id rfl
def link2 (g : D → D → Option Op) (k : Ch) (p : Op) (r : Ev) (x y : Option D) : EOut := match x, y with
  | some x, some y => (match g x y with
    | some (.fz (.bl true)) => k p r
    | some (.fz (.bl false)) => .ok (.fz (.bl false)) r
    | _ => .bad)
  | _, _ => .bad
theorem link2_congr (g : D → D → Option Op) (k : Ch) (p : Op) (r : Ev) {x y x2 y2 : Option D} (h : x = x2) (h2 : y = y2) : link2 g k p r x y = link2 g k p r x2 y2 := by rw [h, h2]
def link3 (k : Ch) (p : Op) (r : Ev) (x : Option Op) : EOut := match x with
  | some (.fz (.bl true)) => k p r
  | some (.fz (.bl false)) => .ok (.fz (.bl false)) r
  | _ => .bad
theorem link3_congr (k : Ch) (p : Op) (r : Ev) {x y : Option Op} (h : x = y) : link3 k p r x = link3 k p r y := by rw [h]
theorem link1_ok (g : D → D → Option Op) (k : Ch) (o p : Op) (r : Ev) : link1 g k o (.ok p r) = link2 g k p r (rsv r o) (rsv r p) := id rfl
theorem link2_some (g : D → D → Option Op) (k : Ch) (p : Op) (r : Ev) (x y : D) : link2 g k p r (some x) (some y) = link3 k p r (g x y) := id rfl
theorem link3_t (k : Ch) (p : Op) (r : Ev) : link3 k p r (some (.fz (.bl true))) = k p r := id rfl
theorem link3_f (k : Ch) (p : Op) (r : Ev) : link3 k p r (some (.fz (.bl false))) = .ok (.fz (.bl false)) r := id rfl
def call1 (m : List Bool) (F : FD) (x_ : AOut) : EOut := match x_ with
  | .ok os r1 => (match argsOf m os r1 with | some (ds, r2) => (if (iosOf m os).Nodup ∧ (∀ i ∈ iosOf m os, isOw r2[i]? = true) then (match F ds with | .ok o ios => .ok o (putIos (iosOf m os) ios r2) | .err c ios => .err c (putIos (iosOf m os) ios r2) | .bad => .bad) else .bad) | none => .bad)
  | .err c r1 => .err c r1
  | .bad => .bad
theorem call1_congr (m : List Bool) (F : FD) {x_ y_ : AOut} (h_ : x_ = y_) : call1 m F x_ = call1 m F y_ := by rw [h_]
def call3 (is : List Nat) (r2 : Ev) (x : FOut) : EOut := match x with
  | .ok o ios => .ok o (putIos is ios r2)
  | .err c ios => .err c (putIos is ios r2)
  | .bad => .bad
theorem call3_congr (is : List Nat) (r2 : Ev) {x y : FOut} (h : x = y) : call3 is r2 x = call3 is r2 y := by rw [h]
def call2 (F : FD) (is : List Nat) (x : Option (List D × Ev)) : EOut := match x with
  | some (ds, r2) => if is.Nodup ∧ (∀ i ∈ is, isOw r2[i]? = true) then call3 is r2 (F ds) else .bad
  | none => .bad
theorem call2_congr (F : FD) {is js : List Nat} {x y : Option (List D × Ev)} (h0 : is = js) (h : x = y) : call2 F is x = call2 F js y := by rw [h, h0]
theorem eCall_K (m : List Bool) (F : FD) (a : A) (r : Ev) : eCall m F a r = call1 m F (a r) := id rfl
theorem call1_ok (m : List Bool) (F : FD) (os : List Op) (r : Ev) : call1 m F (.ok os r) = call2 F (iosOf m os) (argsOf m os r) := by
  unfold call1 call2 call3; rfl
theorem call1_err (m : List Bool) (F : FD) (c : Str) (r : Ev) : call1 m F (.err c r) = .err c r := id rfl
theorem call2_nil (F : FD) (ds : List D) (r : Ev) : call2 F [] (some (ds, r)) = call3 [] r (F ds) := by
  unfold call2; simp
theorem call2_one (F : FD) (i : Nat) (ds : List D) (r : Ev) : call2 F [i] (some (ds, r)) = if isOw r[i]? = true then call3 [i] r (F ds) else .bad := by
  unfold call2; simp
theorem call3_ok0 (r : Ev) (o : Op) (ios : List D) : call3 [] r (.ok o ios) = .ok o r := by
  unfold call3 putIos; simp
theorem call3_err0 (r : Ev) (c : Str) (ios : List D) : call3 [] r (.err c ios) = .err c r := by
  unfold call3 putIos; simp
def put1 (r : Ev) (i : Nat) (d : D) (x : Option Sl) : Ev := match x with
  | some (.ow b _) => r.set i (.ow b d)
  | _ => r
theorem call3_ok1 (r : Ev) (i : Nat) (o : Op) (d : D) : call3 [i] r (.ok o [d]) = .ok o (put1 r i d r[i]?) := by
  unfold call3 putIos put1 putIos; rfl
theorem call3_err1 (r : Ev) (i : Nat) (c : Str) (d : D) : call3 [i] r (.err c [d]) = .err c (put1 r i d r[i]?) := by
  unfold call3 putIos put1 putIos; rfl
theorem put1_ow (r : Ev) (i : Nat) (d e : D) (b : Bool) : put1 r i d (some (.ow b e)) = r.set i (.ow b d) := id rfl
theorem isOw_ow (b : Bool) (d : D) : isOw (some (.ow b d)) = true := id rfl
theorem iosOf_nil (m : List Bool) : iosOf m [] = [] := by cases m with
  | nil => rfl
  | cons b _ => cases b <;> rfl
theorem iosOf_f (m : List Bool) (o : Op) (os : List Op) : iosOf (false :: m) (o :: os) = iosOf m os := id rfl
theorem iosOf_t (m : List Bool) (i : Nat) (os : List Op) : iosOf (true :: m) (.br i :: os) = i :: iosOf m os := id rfl
theorem argsOf_nil (r : Ev) : argsOf [] [] r = some ([], r) := id rfl
def args1 (m : List Bool) (os : List Op) (x : Option (D × Ev)) : Option (List D × Ev) := match x with
  | some (d, r1) => (match argsOf m os r1 with
    | some (ds, r2) => some (d :: ds, r2)
    | none => none)
  | none => none
def args2 (d : D) (x : Option (List D × Ev)) : Option (List D × Ev) := match x with
  | some (ds, r2) => some (d :: ds, r2)
  | none => none
def args3 (m : List Bool) (os : List Op) (r : Ev) (x : Option Sl) : Option (List D × Ev) := match x with
  | some (.ow _ d) => args2 d (argsOf m os r)
  | _ => none
theorem argsOf_f (m : List Bool) (o : Op) (os : List Op) (r : Ev) : argsOf (false :: m) (o :: os) r = args1 m os (fzo r o) := id rfl
theorem args1_some (m : List Bool) (os : List Op) (d : D) (r : Ev) : args1 m os (some (d, r)) = args2 d (argsOf m os r) := id rfl
theorem args2_some (d : D) (ds : List D) (r : Ev) : args2 d (some (ds, r)) = some (d :: ds, r) := id rfl
theorem argsOf_t (m : List Bool) (i : Nat) (os : List Op) (r : Ev) : argsOf (true :: m) (.br i :: os) r = args3 m os r r[i]? := by
  unfold args3 args2; rfl
theorem args3_ow (m : List Bool) (os : List Op) (r : Ev) (b : Bool) (d : D) : args3 m os r (some (.ow b d)) = args2 d (argsOf m os r) := id rfl
def seq1 (b : S) (x_ : SOut) : SOut := match x_ with
  | .nx r1 => b r1
  | x => x
theorem seq1_congr (b : S) {x_ y_ : SOut} (h_ : x_ = y_) : seq1 b x_ = seq1 b y_ := by rw [h_]
theorem sSeq_K (a b : S) (r : Ev) : sSeq a b r = seq1 b (a r) := id rfl
theorem seq1_nx (b : S) (r : Ev) : seq1 b (.nx r) = b r := id rfl
theorem seq1_ret (b : S) (o : Op) (r : Ev) : seq1 b (.ret o r) = .ret o r := id rfl
theorem seq1_brk (b : S) (r : Ev) : seq1 b (.brk r) = .brk r := id rfl
theorem seq1_cnt (b : S) (r : Ev) : seq1 b (.cnt r) = .cnt r := id rfl
theorem seq1_err (b : S) (c : Str) (r : Ev) : seq1 b (.err c r) = .err c r := id rfl
theorem sNext_K (r : Ev) : sNext r = .nx r := id rfl
theorem sBreak_K (r : Ev) : sBreak r = .brk r := id rfl
theorem sCont_K (r : Ev) : sCont r = .cnt r := id rfl
theorem sRetN_K (r : Ev) : sRetN r = .ret (.fz .non) r := id rfl
theorem sRaise_K (c : Str) (r : Ev) : sRaise c r = .err c r := id rfl
def expr1  (x_ : EOut) : SOut := match x_ with
  | .ok _ r1 => .nx r1
  | .err c r1 => .err c r1
  | .bad => .bad
theorem expr1_congr  {x_ y_ : EOut} (h_ : x_ = y_) : expr1  x_ = expr1  y_ := by rw [h_]
theorem sExpr_K (a : E) (r : Ev) : sExpr a r = expr1 (a r) := id rfl
theorem expr1_ok (o : Op) (r : Ev) : expr1 (.ok o r) = .nx r := id rfl
theorem expr1_err (c : Str) (r : Ev) : expr1 (.err c r) = .err c r := id rfl
def set1 (i : Nat) (x_ : EOut) : SOut := match x_ with
  | .ok o r1 => (match keep i o r1 with | some r2 => .nx r2 | none => .bad)
  | .err c r1 => .err c r1
  | .bad => .bad
theorem set1_congr (i : Nat) {x_ y_ : EOut} (h_ : x_ = y_) : set1 i x_ = set1 i y_ := by rw [h_]
def nxo (x : Option Ev) : SOut := match x with
  | some r2 => .nx r2
  | none => .bad
theorem sSet_K (i : Nat) (a : E) (r : Ev) : sSet i a r = set1 i (a r) := id rfl
theorem set1_fz (i : Nat) (d : D) (r : Ev) : set1 i (.ok (.fz d) r) = .nx (r.set i (.va d)) := id rfl
theorem set1_tm (i : Nat) (d : D) (r : Ev) : set1 i (.ok (.tm d) r) = .nx (r.set i (.ow false d)) := id rfl
def set2 (i : Nat) (x : Option (D × Ev)) : SOut := match x with
  | some (d, r1) => .nx (r1.set i (.va d))
  | none => .bad
theorem set1_br (i j : Nat) (r : Ev) : set1 i (.ok (.br j) r) = set2 i (fzo r (.br j)) := by
  show (match (match fzo r (.br j) with | some (d, r1) => some (r1.set i (.va d)) | none => none) with | some r2 => SOut.nx r2 | none => .bad) = _
  unfold set2
  cases fzo r (.br j) <;> rfl
theorem set2_some (i : Nat) (d : D) (r : Ev) : set2 i (some (d, r)) = .nx (r.set i (.va d)) := id rfl
theorem set1_err (i : Nat) (c : Str) (r : Ev) : set1 i (.err c r) = .err c r := id rfl
def unp1 (t : Tg) (x_ : EOut) : SOut := match x_ with
  | .ok o r1 => (match fzo r1 o with | some (d, r2) => (match t.put d r2 with | some r3 => .nx r3 | none => .bad) | none => .bad)
  | .err c r1 => .err c r1
  | .bad => .bad
theorem unp1_congr (t : Tg) {x_ y_ : EOut} (h_ : x_ = y_) : unp1 t x_ = unp1 t y_ := by rw [h_]
def unp2 (t : Tg) (x : Option (D × Ev)) : SOut := match x with
  | some (d, r2) => nxo (t.put d r2)
  | none => .bad
theorem sUnp_K (t : Tg) (a : E) (r : Ev) : sUnp t a r = unp1 t (a r) := id rfl
theorem unp1_ok (t : Tg) (o : Op) (r : Ev) : unp1 t (.ok o r) = unp2 t (fzo r o) := by
  unfold unp1 unp2 nxo; rfl
theorem unp1_err (t : Tg) (c : Str) (r : Ev) : unp1 t (.err c r) = .err c r := id rfl
theorem unp2_some (t : Tg) (d : D) (r : Ev) : unp2 t (some (d, r)) = nxo (t.put d r) := id rfl
theorem nxo_some (r : Ev) : nxo (some r) = .nx r := id rfl
theorem put_one (i : Nat) (d : D) (r : Ev) : (Tg.one i).put d r = some (r.set i (.va d)) := id rfl
theorem put_tup (is : List Nat) (ds : List D) (r : Ev) : (Tg.many is).put (.tup ds) r = setAll is ds r := id rfl
theorem put_ktp (is : List Nat) (ds : List D) (r : Ev) : (Tg.many is).put (.ktp ds) r = setAll is ds r := id rfl
theorem setAll_nil (r : Ev) : setAll [] [] r = some r := id rfl
theorem setAll_cons (i : Nat) (is : List Nat) (d : D) (ds : List D) (r : Ev) : setAll (i :: is) (d :: ds) r = setAll is ds (r.set i (.va d)) := id rfl
def par1 (i : Nat) (j : Nat) (b : E) (x_ : EOut) : SOut := match x_ with
  | .ok o r1 => (match b r1 with | .ok p r2 => (match keep2 i o r2 with | some r3 => (match keep2 j p r3 with | some r4 => .nx r4 | none => .bad) | none => .bad) | .err c r2 => .err c r2 | .bad => .bad)
  | .err c r1 => .err c r1
  | .bad => .bad
theorem par1_congr (i : Nat) (j : Nat) (b : E) {x_ y_ : EOut} (h_ : x_ = y_) : par1 i j b x_ = par1 i j b y_ := by rw [h_]
def par2 (i : Nat) (j : Nat) (o : Op) (x_ : EOut) : SOut := match x_ with
  | .ok p r2 => (match keep2 i o r2 with | some r3 => nxo (keep2 j p r3) | none => .bad)
  | .err c r2 => .err c r2
  | .bad => .bad
theorem par2_congr (i : Nat) (j : Nat) (o : Op) {x_ y_ : EOut} (h_ : x_ = y_) : par2 i j o x_ = par2 i j o y_ := by rw [h_]
def par3 (j : Nat) (p : Op) (x : Option Ev) : SOut := match x with
  | some r3 => nxo (keep2 j p r3)
  | none => .bad
theorem sPar_K (i j : Nat) (a b : E) (r : Ev) : sPar i j a b r = par1 i j b (a r) := id rfl
theorem par1_ok (i j : Nat) (b : E) (o : Op) (r : Ev) : par1 i j b (.ok o r) = par2 i j o (b r) := by
  unfold par1 par2 nxo; rfl
theorem par1_err (i j : Nat) (b : E) (c : Str) (r : Ev) : par1 i j b (.err c r) = .err c r := id rfl
theorem par2_ok (i j : Nat) (o p : Op) (r : Ev) : par2 i j o (.ok p r) = par3 j p (keep2 i o r) := id rfl
theorem par2_err (i j : Nat) (o : Op) (c : Str) (r : Ev) : par2 i j o (.err c r) = .err c r := id rfl
theorem par3_some (j : Nat) (p : Op) (r : Ev) : par3 j p (some r) = nxo (keep2 j p r) := id rfl
theorem keep2_fz (i : Nat) (d : D) (r : Ev) : keep2 i (.fz d) r = some (r.set i (.va d)) := id rfl
theorem keep2_tm (i : Nat) (d : D) (r : Ev) : keep2 i (.tm d) r = some (r.set i (.ow false d)) := id rfl
def aug0 (i : Nat) (g : D → D → Option Op) (a : E) (r : Ev) (x : Option Sl) : SOut := match x with
  | some (.va x) => (match a r with
    | .ok o r1 => (match rsv r1 o with
      | some y => (match g x y with
        | some (.fz z) => .nx (r1.set i (.va z))
        | _ => .bad)
      | none => .bad)
    | .err c r1 => .err c r1
    | .bad => .bad)
  | _ => .bad
theorem aug0_congr (i : Nat) (g : D → D → Option Op) (a : E) (r : Ev) {x y : Option Sl} (h : x = y) : aug0 i g a r x = aug0 i g a r y := by rw [h]
def aug1 (i : Nat) (g : D → D → Option Op) (d : D) (x_ : EOut) : SOut := match x_ with
  | .ok o r1 => (match rsv r1 o with | some y => (match g d y with | some (.fz z) => .nx (r1.set i (.va z)) | _ => .bad) | none => .bad)
  | .err c r1 => .err c r1
  | .bad => .bad
theorem aug1_congr (i : Nat) (g : D → D → Option Op) (d : D) {x_ y_ : EOut} (h_ : x_ = y_) : aug1 i g d x_ = aug1 i g d y_ := by rw [h_]
def aug2 (i : Nat) (g : D → D → Option Op) (d : D) (r : Ev) (x : Option D) : SOut := match x with
  | some y => (match g d y with
    | some (.fz z) => .nx (r.set i (.va z))
    | _ => .bad)
  | none => .bad
def aug3 (i : Nat) (r : Ev) (x : Option Op) : SOut := match x with
  | some (.fz z) => .nx (r.set i (.va z))
  | _ => .bad
theorem sAug_K (i : Nat) (g : D → D → Option Op) (a : E) (r : Ev) : sAug i g a r = aug0 i g a r r[i]? := id rfl
theorem aug0_va (i : Nat) (g : D → D → Option Op) (a : E) (r : Ev) (d : D) : aug0 i g a r (some (.va d)) = aug1 i g d (a r) := id rfl
theorem aug1_ok (i : Nat) (g : D → D → Option Op) (d : D) (o : Op) (r : Ev) : aug1 i g d (.ok o r) = aug2 i g d r (rsv r o) := id rfl
theorem aug1_err (i : Nat) (g : D → D → Option Op) (d : D) (c : Str) (r : Ev) : aug1 i g d (.err c r) = .err c r := id rfl
theorem aug2_some (i : Nat) (g : D → D → Option Op) (d : D) (r : Ev) (y : D) : aug2 i g d r (some y) = aug3 i r (g d y) := id rfl
theorem aug3_some (i : Nat) (r : Ev) (z : D) : aug3 i r (some (.fz z)) = .nx (r.set i (.va z)) := id rfl
def ret1  (x_ : EOut) : SOut := match x_ with
  | .ok (.fz d) r1 => .ret (.fz d) r1
  | .ok (.tm d) r1 => .ret (.tm d) r1
  | .ok (.br i) r1 => (match r1[i]? with | some (.ow false d) => .ret (.tm d) (r1.set i .no) | some (.va d) => .ret (.fz d) r1 | _ => .bad)
  | .err c r1 => .err c r1
  | .bad => .bad
theorem ret1_congr  {x_ y_ : EOut} (h_ : x_ = y_) : ret1  x_ = ret1  y_ := by rw [h_]
def ret2 (i : Nat) (r : Ev) (x : Option Sl) : SOut := match x with
  | some (.ow false d) => .ret (.tm d) (r.set i .no)
  | some (.va d) => .ret (.fz d) r
  | _ => .bad
theorem sRet_K (a : E) (r : Ev) : sRet a r = ret1 (a r) := id rfl
theorem ret1_fz (d : D) (r : Ev) : ret1 (.ok (.fz d) r) = .ret (.fz d) r := id rfl
theorem ret1_tm (d : D) (r : Ev) : ret1 (.ok (.tm d) r) = .ret (.tm d) r := id rfl
theorem ret1_br (i : Nat) (r : Ev) : ret1 (.ok (.br i) r) = ret2 i r r[i]? := id rfl
theorem ret1_err (c : Str) (r : Ev) : ret1 (.err c r) = .err c r := id rfl
theorem ret2_ow (i : Nat) (r : Ev) (d : D) : ret2 i r (some (.ow false d)) = .ret (.tm d) (r.set i .no) := id rfl
theorem ret2_va (i : Nat) (r : Ev) (d : D) : ret2 i r (some (.va d)) = .ret (.fz d) r := id rfl
def if1 (a : S) (b : S) (x_ : TOut) : SOut := match x_ with
  | .ok true r1 => a r1
  | .ok false r1 => b r1
  | .err c r1 => .err c r1
  | .bad => .bad
theorem if1_congr (a : S) (b : S) {x_ y_ : TOut} (h_ : x_ = y_) : if1 a b x_ = if1 a b y_ := by rw [h_]
theorem sIf_K (c : T) (a b : S) (r : Ev) : sIf c a b r = if1 a b (c r) := id rfl
theorem if1_t (a b : S) (r : Ev) : if1 a b (.ok true r) = a r := id rfl
theorem if1_f (a b : S) (r : Ev) : if1 a b (.ok false r) = b r := id rfl
theorem if1_err (a b : S) (c : Str) (r : Ev) : if1 a b (.err c r) = .err c r := id rfl
def sub1 (i : Nat) (g : D → D → D → Option D) (k : E) (x_ : EOut) : SOut := match x_ with
  | .ok o r1 => (if isOw r1[i]? = true then (match k r1 with | .ok p r2 => (match fzo r2 o with | some (dv, r3) => (match rsv r3 p with | some dk => (match r3[i]? with | some (.ow b d) => (match g d dk dv with | some d' => .nx (r3.set i (.ow b d')) | none => .bad) | _ => .bad) | none => .bad) | none => .bad) | .err c r2 => .err c r2 | .bad => .bad) else .bad)
  | .err c r1 => .err c r1
  | .bad => .bad
theorem sub1_congr (i : Nat) (g : D → D → D → Option D) (k : E) {x_ y_ : EOut} (h_ : x_ = y_) : sub1 i g k x_ = sub1 i g k y_ := by rw [h_]
theorem sSub_K (i : Nat) (g : D → D → D → Option D) (k v : E) (r : Ev) : sSub i g k v r = sub1 i g k (v r) := id rfl
def sub2 (i : Nat) (g : D → D → D → Option D) (o : Op) (x_ : EOut) : SOut := match x_ with
  | .ok p r2 => (match fzo r2 o with | some (dv, r3) => (match rsv r3 p with | some dk => (match r3[i]? with | some (.ow b d) => (match g d dk dv with | some d' => .nx (r3.set i (.ow b d')) | none => .bad) | _ => .bad) | none => .bad) | none => .bad)
  | .err c r2 => .err c r2
  | .bad => .bad
theorem sub2_congr (i : Nat) (g : D → D → D → Option D) (o : Op) {x_ y_ : EOut} (h_ : x_ = y_) : sub2 i g o x_ = sub2 i g o y_ := by rw [h_]
theorem sub1_ok (i : Nat) (g : D → D → D → Option D) (k : E) (o : Op) (r : Ev) : sub1 i g k (.ok o r) = if isOw r[i]? = true then sub2 i g o (k r) else .bad := id rfl
theorem sub1_err (i : Nat) (g : D → D → D → Option D) (k : E) (c : Str) (r : Ev) : sub1 i g k (.err c r) = .err c r := id rfl
def sub3 (i : Nat) (g : D → D → D → Option D) (p : Op) (x : Option (D × Ev)) : SOut := match x with
  | some (dv, r3) => (match rsv r3 p with
    | some dk => (match r3[i]? with
      | some (.ow b d) => (match g d dk dv with
        | some d' => .nx (r3.set i (.ow b d'))
        | none => .bad)
      | _ => .bad)
    | none => .bad)
  | none => .bad
def sub4 (i : Nat) (g : D → D → D → Option D) (dv : D) (r : Ev) (x : Option D) (y : Option Sl) : SOut := match x with
  | some dk => (match y with
    | some (.ow b d) => (match g d dk dv with
      | some d' => .nx (r.set i (.ow b d'))
      | none => .bad)
    | _ => .bad)
  | none => .bad
def sub5 (i : Nat) (r : Ev) (b : Bool) (x : Option D) : SOut := match x with
  | some d => .nx (r.set i (.ow b d))
  | none => .bad
theorem sub2_ok (i : Nat) (g : D → D → D → Option D) (o p : Op) (r : Ev) : sub2 i g o (.ok p r) = sub3 i g p (fzo r o) := id rfl
theorem sub2_err (i : Nat) (g : D → D → D → Option D) (o : Op) (c : Str) (r : Ev) : sub2 i g o (.err c r) = .err c r := id rfl
theorem sub3_some (i : Nat) (g : D → D → D → Option D) (p : Op) (d : D) (r : Ev) : sub3 i g p (some (d, r)) = sub4 i g d r (rsv r p) r[i]? := id rfl
theorem sub4_some (i : Nat) (g : D → D → D → Option D) (dv : D) (r : Ev) (dk : D) (b : Bool) (d : D) : sub4 i g dv r (some dk) (some (.ow b d)) = sub5 i r b (g d dk dv) := id rfl
theorem sub5_some (i : Nat) (r : Ev) (b : Bool) (d : D) : sub5 i r b (some d) = .nx (r.set i (.ow b d)) := id rfl
def mut0 (i : Nat) (g : D → List D → Option (D × Op)) (x : AOut) : EOut := match x with
  | .ok os r1 => (match fzos os r1 with
    | some (ds, r2) => (match r2[i]? with
      | some (.ow b d) => (match g d ds with
        | some (d', o) => .ok o (r2.set i (.ow b d'))
        | none => .bad)
      | _ => .bad)
    | none => .bad)
  | .err c r1 => .err c r1
  | .bad => .bad
def mut1 (i : Nat) (g : D → List D → Option (D × Op)) (x : Option (List D × Ev)) : EOut := match x with
  | some (ds, r2) => (match r2[i]? with
    | some (.ow b d) => (match g d ds with
      | some (d', o) => .ok o (r2.set i (.ow b d'))
      | none => .bad)
    | _ => .bad)
  | none => .bad
def mut2 (i : Nat) (g : D → List D → Option (D × Op)) (ds : List D) (r : Ev) (x : Option Sl) : EOut := match x with
  | some (.ow b d) => (match g d ds with
    | some (d', o) => .ok o (r.set i (.ow b d'))
    | none => .bad)
  | _ => .bad
def mut3 (i : Nat) (r : Ev) (b : Bool) (x : Option (D × Op)) : EOut := match x with
  | some (d, o) => .ok o (r.set i (.ow b d))
  | none => .bad
theorem eMut_K (i : Nat) (g : D → List D → Option (D × Op)) (a : A) (r : Ev) : eMut i g a r = if isL r[i]? = true then mut0 i g (a r) else .bad := id rfl
theorem isL_lst (b : Bool) (xs : List D) : isL (some (.ow b (.lst xs))) = true := id rfl
theorem mut0_ok (i : Nat) (g : D → List D → Option (D × Op)) (os : List Op) (r : Ev) : mut0 i g (.ok os r) = mut1 i g (fzos os r) := id rfl
theorem mut0_err (i : Nat) (g : D → List D → Option (D × Op)) (c : Str) (r : Ev) : mut0 i g (.err c r) = .err c r := id rfl
theorem mut1_some (i : Nat) (g : D → List D → Option (D × Op)) (ds : List D) (r : Ev) : mut1 i g (some (ds, r)) = mut2 i g ds r r[i]? := id rfl
theorem mut2_some (i : Nat) (g : D → List D → Option (D × Op)) (ds : List D) (r : Ev) (b : Bool) (d : D) : mut2 i g ds r (some (.ow b d)) = mut3 i r b (g d ds) := id rfl
theorem mut3_some (i : Nat) (r : Ev) (b : Bool) (d : D) (o : Op) : mut3 i r b (some (d, o)) = .ok o (r.set i (.ow b d)) := id rfl
def for1 (t : Tg) (b : S) (x_ : IOut) : SOut := match x_ with
  | .ok ds r1 => forGo t b ds r1
  | .err c r1 => .err c r1
  | .bad => .bad
theorem for1_congr (t : Tg) (b : S) {x_ y_ : IOut} (h_ : x_ = y_) : for1 t b x_ = for1 t b y_ := by rw [h_]
theorem sFor_K (t : Tg) (it : I) (b : S) (r : Ev) : sFor t it b r = for1 t b (it r) := id rfl
theorem for1_ok (t : Tg) (b : S) (ds : List D) (r : Ev) : for1 t b (.ok ds r) = forGo t b ds r := id rfl
theorem for1_err (t : Tg) (b : S) (c : Str) (r : Ev) : for1 t b (.err c r) = .err c r := id rfl
def go1 (t : Tg) (b : S) (ds : List D) (x_ : SOut) : SOut := match x_ with
  | .nx r2 => forGo t b ds r2
  | .cnt r2 => forGo t b ds r2
  | .brk r2 => .nx r2
  | x => x
theorem go1_congr (t : Tg) (b : S) (ds : List D) {x_ y_ : SOut} (h_ : x_ = y_) : go1 t b ds x_ = go1 t b ds y_ := by rw [h_]
def go0 (t : Tg) (b : S) (ds : List D) (x : Option Ev) : SOut := match x with
  | some r1 => go1 t b ds (b r1)
  | none => .bad
theorem go0_congr (t : Tg) (b : S) (ds : List D) {x y : Option Ev} (h : x = y) : go0 t b ds x = go0 t b ds y := by rw [h]
theorem forGo_nil (t : Tg) (b : S) (r : Ev) : forGo t b [] r = .nx r := id rfl
theorem forGo_cons (t : Tg) (b : S) (d : D) (ds : List D) (r : Ev) : forGo t b (d :: ds) r = go0 t b ds (t.put d r) := by
  rw [forGo]; unfold go0 go1; rfl
theorem go0_some (t : Tg) (b : S) (ds : List D) (r : Ev) : go0 t b ds (some r) = go1 t b ds (b r) := id rfl
theorem go1_nx (t : Tg) (b : S) (ds : List D) (r : Ev) : go1 t b ds (.nx r) = forGo t b ds r := id rfl
theorem go1_cnt (t : Tg) (b : S) (ds : List D) (r : Ev) : go1 t b ds (.cnt r) = forGo t b ds r := id rfl
theorem go1_brk (t : Tg) (b : S) (ds : List D) (r : Ev) : go1 t b ds (.brk r) = .nx r := id rfl
theorem go1_ret (t : Tg) (b : S) (ds : List D) (o : Op) (r : Ev) : go1 t b ds (.ret o r) = .ret o r := id rfl
theorem go1_err (t : Tg) (b : S) (ds : List D) (c : Str) (r : Ev) : go1 t b ds (.err c r) = .err c r := id rfl
def wh2 (c : T) (b : S) (n : Nat) (x_ : SOut) : SOut := match x_ with
  | .nx r2 => whN c b n r2
  | .cnt r2 => whN c b n r2
  | .brk r2 => .nx r2
  | x => x
theorem wh2_congr (c : T) (b : S) (n : Nat) {x_ y_ : SOut} (h_ : x_ = y_) : wh2 c b n x_ = wh2 c b n y_ := by rw [h_]
def wh1 (c : T) (b : S) (n : Nat) (x_ : TOut) : SOut := match x_ with
  | .ok true r1 => wh2 c b n (b r1)
  | .ok false r1 => .nx r1
  | .err e r1 => .err e r1
  | .bad => .bad
theorem wh1_congr (c : T) (b : S) (n : Nat) {x_ y_ : TOut} (h_ : x_ = y_) : wh1 c b n x_ = wh1 c b n y_ := by rw [h_]
theorem whN_K (c : T) (b : S) (n : Nat) (r : Ev) : whN c b (n + 1) r = wh1 c b n (c r) := by
  rw [whN]; unfold wh1 wh2; rfl
theorem wh1_t (c : T) (b : S) (n : Nat) (r : Ev) : wh1 c b n (.ok true r) = wh2 c b n (b r) := id rfl
theorem wh1_f (c : T) (b : S) (n : Nat) (r : Ev) : wh1 c b n (.ok false r) = .nx r := id rfl
theorem wh2_nx (c : T) (b : S) (n : Nat) (r : Ev) : wh2 c b n (.nx r) = whN c b n r := id rfl
theorem wh2_cnt (c : T) (b : S) (n : Nat) (r : Ev) : wh2 c b n (.cnt r) = whN c b n r := id rfl
theorem wh2_brk (c : T) (b : S) (n : Nat) (r : Ev) : wh2 c b n (.brk r) = .nx r := id rfl
theorem wh2_ret (c : T) (b : S) (n : Nat) (o : Op) (r : Ev) : wh2 c b n (.ret o r) = .ret o r := id rfl
theorem wh2_err (c : T) (b : S) (n : Nat) (e : Str) (r : Ev) : wh2 c b n (.err e r) = .err e r := id rfl
def iseq1  (x_ : EOut) : IOut := match x_ with
  | .ok o r1 => (match fzo r1 o with | some (.lst ds, r2) => .ok ds r2 | some (.tup ds, r2) => .ok ds r2 | some (.kls ds, r2) => .ok ds r2 | some (.ktp ds, r2) => .ok ds r2 | _ => .bad)
  | .err c r1 => .err c r1
  | .bad => .bad
theorem iseq1_congr  {x_ y_ : EOut} (h_ : x_ = y_) : iseq1  x_ = iseq1  y_ := by rw [h_]
def iseq2 (x : Option (D × Ev)) : IOut := match x with
  | some (.lst ds, r2) => .ok ds r2
  | some (.tup ds, r2) => .ok ds r2
  | some (.kls ds, r2) => .ok ds r2
  | some (.ktp ds, r2) => .ok ds r2
  | _ => .bad
theorem iSeq_K (a : E) (r : Ev) : iSeq a r = iseq1 (a r) := id rfl
theorem iseq1_ok (o : Op) (r : Ev) : iseq1 (.ok o r) = iseq2 (fzo r o) := id rfl
theorem iseq1_err (c : Str) (r : Ev) : iseq1 (.err c r) = .err c r := id rfl
theorem iseq2_lst (ds : List D) (r : Ev) : iseq2 (some (.lst ds, r)) = .ok ds r := id rfl
theorem iseq2_tup (ds : List D) (r : Ev) : iseq2 (some (.tup ds, r)) = .ok ds r := id rfl
theorem iseq2_kls (ds : List D) (r : Ev) : iseq2 (some (.kls ds, r)) = .ok ds r := id rfl
theorem iseq2_ktp (ds : List D) (r : Ev) : iseq2 (some (.ktp ds, r)) = .ok ds r := id rfl
def rg1  (x_ : EOut) : IOut := match x_ with
  | .ok (.fz (.int j)) r1 => (if -(2 ^ 62) ≤ j ∧ j < 2 ^ 62 then .ok (upFrom 0 j.toNat) r1 else .bad)
  | .ok _ _ => .bad
  | .err c r1 => .err c r1
  | .bad => .bad
theorem rg1_congr  {x_ y_ : EOut} (h_ : x_ = y_) : rg1  x_ = rg1  y_ := by rw [h_]
theorem iRng1_K (a : E) (r : Ev) : iRng1 a r = rg1 (a r) := id rfl
theorem rg1_ok {j : Int} (r : Ev) (h0 : -4611686018427387904 ≤ j) (h1 : j < 4611686018427387904) : rg1 (.ok (.fz (.int j)) r) = .ok (upFrom 0 j.toNat) r := by
  unfold rg1
  exact if_pos ⟨h0, h1⟩
theorem rg1_err (c : Str) (r : Ev) : rg1 (.err c r) = .err c r := id rfl
def rg2 (b : E) (x_ : EOut) : IOut := match x_ with
  | .ok (.fz (.int i)) r1 => (match b r1 with | .ok (.fz (.int j)) r2 => (if (-(2 ^ 62) ≤ i ∧ i < 2 ^ 62) ∧ -(2 ^ 62) ≤ j ∧ j < 2 ^ 62 then .ok (upFrom i (j - i).toNat) r2 else .bad) | .ok _ _ => .bad | .err c r2 => .err c r2 | .bad => .bad)
  | .ok _ _ => .bad
  | .err c r1 => .err c r1
  | .bad => .bad
theorem rg2_congr (b : E) {x_ y_ : EOut} (h_ : x_ = y_) : rg2 b x_ = rg2 b y_ := by rw [h_]
def rg3 (i : Int) (x_ : EOut) : IOut := match x_ with
  | .ok (.fz (.int j)) r2 => (if (-(2 ^ 62) ≤ i ∧ i < 2 ^ 62) ∧ -(2 ^ 62) ≤ j ∧ j < 2 ^ 62 then .ok (upFrom i (j - i).toNat) r2 else .bad)
  | .ok _ _ => .bad
  | .err c r2 => .err c r2
  | .bad => .bad
theorem rg3_congr (i : Int) {x_ y_ : EOut} (h_ : x_ = y_) : rg3 i x_ = rg3 i y_ := by rw [h_]
theorem iRng2_K (a b : E) (r : Ev) : iRng2 a b r = rg2 b (a r) := id rfl
theorem rg2_ok (b : E) (i : Int) (r : Ev) : rg2 b (.ok (.fz (.int i)) r) = rg3 i (b r) := id rfl
theorem rg2_err (b : E) (c : Str) (r : Ev) : rg2 b (.err c r) = .err c r := id rfl
theorem rg3_ok {i j : Int} (r : Ev) (h0 : -4611686018427387904 ≤ i) (h1 : i < 4611686018427387904) (h2 : -4611686018427387904 ≤ j) (h3 : j < 4611686018427387904) : rg3 i (.ok (.fz (.int j)) r) = .ok (upFrom i (j - i).toNat) r := by
  unfold rg3
  exact if_pos ⟨⟨h0, h1⟩, h2, h3⟩
theorem rg3_err (i : Int) (c : Str) (r : Ev) : rg3 i (.err c r) = .err c r := id rfl
theorem pNo_K (r : Ev) : pNo r = .ok none r := id rfl
def psome1  (x_ : EOut) : POut := match x_ with
  | .ok (.fz (.int i)) r1 => .ok (some i) r1
  | .ok _ _ => .bad
  | .err c r1 => .err c r1
  | .bad => .bad
theorem psome1_congr  {x_ y_ : EOut} (h_ : x_ = y_) : psome1  x_ = psome1  y_ := by rw [h_]
theorem pSome_K (a : E) (r : Ev) : pSome a r = psome1 (a r) := id rfl
theorem psome1_ok (i : Int) (r : Ev) : psome1 (.ok (.fz (.int i)) r) = .ok (some i) r := id rfl
def sl1 (lo : P) (hi : P) (x_ : EOut) : EOut := match x_ with
  | .ok o r1 => (match lo r1 with | .ok l r2 => (match hi r2 with | .ok h r3 => (match rsv r3 o with | some d => (match gSlice d l h with | some z => .ok z r3 | none => .bad) | none => .bad) | .err c r3 => .err c r3 | .bad => .bad) | .err c r2 => .err c r2 | .bad => .bad)
  | .err c r1 => .err c r1
  | .bad => .bad
theorem sl1_congr (lo : P) (hi : P) {x_ y_ : EOut} (h_ : x_ = y_) : sl1 lo hi x_ = sl1 lo hi y_ := by rw [h_]
def sl2 (hi : P) (o : Op) (x_ : POut) : EOut := match x_ with
  | .ok l r2 => (match hi r2 with | .ok h r3 => (match rsv r3 o with | some d => (match gSlice d l h with | some z => .ok z r3 | none => .bad) | none => .bad) | .err c r3 => .err c r3 | .bad => .bad)
  | .err c r2 => .err c r2
  | .bad => .bad
theorem sl2_congr (hi : P) (o : Op) {x_ y_ : POut} (h_ : x_ = y_) : sl2 hi o x_ = sl2 hi o y_ := by rw [h_]
def sl3 (l : Option Int) (o : Op) (x_ : POut) : EOut := match x_ with
  | .ok h r3 => un2 (fun d => gSlice d l h) r3 (rsv r3 o)
  | .err c r3 => .err c r3
  | .bad => .bad
theorem sl3_congr (l : Option Int) (o : Op) {x_ y_ : POut} (h_ : x_ = y_) : sl3 l o x_ = sl3 l o y_ := by rw [h_]
theorem eSlice_K (a : E) (lo hi : P) (r : Ev) : eSlice a lo hi r = sl1 lo hi (a r) := id rfl
theorem sl1_ok (lo hi : P) (o : Op) (r : Ev) : sl1 lo hi (.ok o r) = sl2 hi o (lo r) := id rfl
theorem sl1_err (lo hi : P) (c : Str) (r : Ev) : sl1 lo hi (.err c r) = .err c r := id rfl
theorem sl2_ok (hi : P) (o : Op) (l : Option Int) (r : Ev) : sl2 hi o (.ok l r) = sl3 l o (hi r) := by
  unfold sl2 sl3 un2 opt; rfl
theorem sl3_ok (l h : Option Int) (o : Op) (r : Ev) : sl3 l o (.ok h r) = un2 (fun d => gSlice d l h) r (rsv r o) := id rfl
def lc0 (vs : List Nat) (t : Tg) (c : T) (e : E) (x : IOut) : EOut := match x with
  | .ok ds r1 => if vs.all (fun v => !isOw r1[v]?) then lcGo vs t c e r1 ds [] r1 else .bad
  | .err c r1 => .err c r1
  | .bad => .bad
theorem eLc_K (vs : List Nat) (t : Tg) (it : I) (c : T) (e : E) (r : Ev) : eLc vs t it c e r = lc0 vs t c e (it r) := id rfl
theorem lc0_err (vs : List Nat) (t : Tg) (c : T) (e : E) (x : Str) (r : Ev) : lc0 vs t c e (.err x r) = .err x r := id rfl
theorem lc0_ok (vs : List Nat) (t : Tg) (c : T) (e : E) (ds : List D) (r : Ev) : lc0 vs t c e (.ok ds r) = if vs.all (fun v => !isOw r[v]?) = true then lcGo vs t c e r ds [] r else .bad := id rfl
theorem lcGo_nil (vs : List Nat) (t : Tg) (c : T) (e : E) (r0 : Ev) (acc : List D) (r : Ev) : lcGo vs t c e r0 [] acc r = .ok (.tm (.lst acc)) (backE r0 r vs) := id rfl
def lc4 (vs : List Nat) (t : Tg) (c : T) (e : E) (r0 : Ev) (ds acc : List D) (x : Option (D × Ev)) : EOut := match x with
  | some (x, r4) => if acc.length < SZ then lcGo vs t c e r0 ds (acc ++ [x]) r4 else .bad
  | none => .bad
def lc3 (vs : List Nat) (t : Tg) (c : T) (e : E) (r0 : Ev) (ds acc : List D) (x : EOut) : EOut := match x with
  | .ok o r3 => lc4 vs t c e r0 ds acc (fzo r3 o)
  | _ => .bad
def lc2 (vs : List Nat) (t : Tg) (c : T) (e : E) (r0 : Ev) (ds acc : List D) (x : TOut) : EOut := match x with
  | .ok true r2 => lc3 vs t c e r0 ds acc (e r2)
  | .ok false r2 => lcGo vs t c e r0 ds acc r2
  | _ => .bad
def lc1 (vs : List Nat) (t : Tg) (c : T) (e : E) (r0 : Ev) (ds acc : List D) (x : Option Ev) : EOut := match x with
  | some r1 => lc2 vs t c e r0 ds acc (c r1)
  | none => .bad
theorem lcGo_cons (vs : List Nat) (t : Tg) (c : T) (e : E) (r0 : Ev) (d : D) (ds acc : List D) (r : Ev) : lcGo vs t c e r0 (d :: ds) acc r = lc1 vs t c e r0 ds acc (t.put d (wipeE r vs)) := by
  rw [lcGo]; unfold lc1 lc2 lc3 lc4; rfl
theorem lc1_some (vs : List Nat) (t : Tg) (c : T) (e : E) (r0 : Ev) (ds acc : List D) (r : Ev) : lc1 vs t c e r0 ds acc (some r) = lc2 vs t c e r0 ds acc (c r) := id rfl
theorem lc2_t (vs : List Nat) (t : Tg) (c : T) (e : E) (r0 : Ev) (ds acc : List D) (r : Ev) : lc2 vs t c e r0 ds acc (.ok true r) = lc3 vs t c e r0 ds acc (e r) := id rfl
theorem lc2_f (vs : List Nat) (t : Tg) (c : T) (e : E) (r0 : Ev) (ds acc : List D) (r : Ev) : lc2 vs t c e r0 ds acc (.ok false r) = lcGo vs t c e r0 ds acc r := id rfl
theorem lc3_ok (vs : List Nat) (t : Tg) (c : T) (e : E) (r0 : Ev) (ds acc : List D) (o : Op) (r : Ev) : lc3 vs t c e r0 ds acc (.ok o r) = lc4 vs t c e r0 ds acc (fzo r o) := id rfl
theorem lc4_some (vs : List Nat) (t : Tg) (c : T) (e : E) (r0 : Ev) (ds acc : List D) (d : D) (r : Ev) : lc4 vs t c e r0 ds acc (some (d, r)) = if acc.length < SZ then lcGo vs t c e r0 ds (acc ++ [d]) r else .bad := id rfl
theorem wipeE_nil (r : Ev) : wipeE r [] = r := id rfl
theorem wipeE_cons (r : Ev) (v : Nat) (vs : List Nat) : wipeE r (v :: vs) = (wipeE r vs).set v .no := id rfl
theorem backE_nil (r0 r : Ev) : backE r0 r [] = r := id rfl
def backSl (x : Option Sl) : Sl := match x with
  | some s => s
  | none => .no
theorem backE_cons (r0 r : Ev) (v : Nat) (vs : List Nat) : backE r0 r (v :: vs) = (backE r0 r vs).set v (backSl r0[v]?) := by
  show (backE r0 r vs).set v (r0.getD v .no) = _
  unfold backSl
  rw [List.getD_eq_getElem?_getD]
  cases r0[v]? <;> rfl
theorem backSl_some (s : Sl) : backSl (some s) = s := id rfl
theorem isOw_va (d : D) : isOw (some (.va d)) = false := id rfl
theorem isOw_no : isOw (some .no) = false := id rfl
theorem upFrom_z (lo : Int) : upFrom lo 0 = [] := id rfl
theorem upFrom_s (lo : Int) (n : Nat) : upFrom lo (n + 1) = .int lo :: upFrom (lo + 1) n := id rfl
theorem lcGo_spec {vs : List Nat} {t : Tg} {c : T} {e : E} {r0 w : Ev} (f : D → Option D) (hb : ∀ r, wipeE r vs = w → backE r0 r vs = r0) : ∀ (ds acc : List D) (r : Ev), wipeE r vs = w → (∀ d ∈ ds, ∃ r1, t.put d w = some r1 ∧ ((f d = none ∧ ∃ r2, c r1 = .ok false r2 ∧ wipeE r2 vs = w) ∨ ∃ x r2 o r3 r4, f d = some x ∧ c r1 = .ok true r2 ∧ e r2 = .ok o r3 ∧ fzo r3 o = some (x, r4) ∧ wipeE r4 vs = w)) → acc.length + ds.length ≤ SZ → lcGo vs t c e r0 ds acc r = .ok (.tm (.lst (acc ++ ds.filterMap f))) r0
  | [], acc, r, hw, _, _ => by rw [lcGo_nil, hb r hw, List.filterMap_nil, List.append_nil]
  | d :: ds, acc, r, hw, h, hl => by
    obtain ⟨r1, e1, e2⟩ := h d List.mem_cons_self
    have hl2 : acc.length + ds.length + 1 ≤ SZ := hl
    rw [lcGo_cons, hw, e1, lc1_some]
    rcases e2 with ⟨f0, r2, c0, w2⟩ | ⟨x, r2, o, r3, r4, f1, c1, e3, e4, w4⟩
    · rw [c0, lc2_f, lcGo_spec f hb ds acc r2 w2 (fun x hx => h x (List.mem_cons_of_mem _ hx)) (by omega), List.filterMap_cons, f0]
    · rw [c1, lc2_t, e3, lc3_ok, e4, lc4_some, if_pos (by omega), lcGo_spec f hb ds (acc ++ [x]) r4 w4 (fun x hx => h x (List.mem_cons_of_mem _ hx)) (by simp; omega), List.filterMap_cons, f1, List.append_assoc]; rfl
theorem eNewK_K (r : Ev) : eNewK r = .ok (.tm (.dct [])) r := id rfl
theorem eNewT_K (r : Ev) : eNewT r = .ok (.tm (.dtt [])) r := id rfl
def disp3 (dk : D) (x : Option (D × Ev)) : EOut := match keyD dk with
  | some key => match x with
    | some (dv, r3) => .ok (.tm (.dct [(key, dv)])) r3
    | none => .bad
  | none => .bad
def disp2 (o : Op) (x : EOut) : EOut := match x with
  | .ok p r2 => match rsv r2 o with
    | some dk => match keyD dk with
      | some key => match fzo r2 p with
        | some (dv, r3) => .ok (.tm (.dct [(key, dv)])) r3
        | none => .bad
      | none => .bad
    | none => .bad
  | .err c r2 => .err c r2
  | .bad => .bad
def disp1 (v : E) (x : EOut) : EOut := match x with
  | .ok o r1 => disp2 o (v r1)
  | .err c r1 => .err c r1
  | .bad => .bad
theorem eDisp1_K (k v : E) (r : Ev) : eDisp1 k v r = disp1 v (k r) := by
  unfold eDisp1 disp1 disp2; rfl
theorem disp1_ok (v : E) (o : Op) (r : Ev) : disp1 v (.ok o r) = disp2 o (v r) := id rfl
def disp4 (x : Option D) (y : Option (D × Ev)) : EOut := match x with
  | some dk => disp3 dk y
  | none => .bad
theorem disp2_ok (o p : Op) (r : Ev) : disp2 o (.ok p r) = disp4 (rsv r o) (fzo r p) := by
  unfold disp2 disp4 disp3; rfl
theorem disp4_i (i : Int) (d : D) (r : Ev) : disp4 (some (.int i)) (some (d, r)) = .ok (.tm (.dct [(.inl i, d)])) r := id rfl
theorem gDictOf_K (kvs : List (DK × D)) : gDictOf [.dct kvs] = some (.tm (.dct kvs)) := id rfl
theorem gRev_lst (xs : List D) : gRev (.lst xs) = some (.tm (.lst xs.reverse)) := id rfl
def lstr1 (x : EOut) : EOut := match x with
  | .ok (.fz (.int j)) r1 => if (-(2 ^ 62) ≤ j ∧ j < 2 ^ 62) ∧ j.toNat ≤ SZ then .ok (.tm (.lst (upFrom 0 j.toNat))) r1 else .bad
  | .ok _ _ => .bad
  | .err c r1 => .err c r1
  | .bad => .bad
theorem eLstR1_K (a : E) (r : Ev) : eLstR1 a r = lstr1 (a r) := id rfl
theorem lstr1_ok {j : Int} (r : Ev) (h0 : 0 ≤ j) (h1 : j < 4096) : lstr1 (.ok (.fz (.int j)) r) = .ok (.tm (.lst (upFrom 0 j.toNat))) r := by
  unfold lstr1
  exact if_pos ⟨by omega, by unfold SZ; omega⟩
def zip4 (x y : D) (r : Ev) : IOut := match asL x, asL y with
  | some xs, some ys => .ok (zipD xs ys) r
  | _, _ => match asT x, asT y with
    | some xs, some ys => .ok (zipD xs ys) r
    | _, _ => .bad
def zip3 (p : Op) (x : Option (D × Ev)) : IOut := match x with
  | some (x, r3) => match fzo r3 p with
    | some (y, r4) => zip4 x y r4
    | none => .bad
  | none => .bad
def zip3b (x : D) (y : Option (D × Ev)) : IOut := match y with
  | some (y, r4) => zip4 x y r4
  | none => .bad
def zip2 (o : Op) (x : EOut) : IOut := match x with
  | .ok p r2 => zip3 p (fzo r2 o)
  | .err c r2 => .err c r2
  | .bad => .bad
def zip1 (b : E) (x : EOut) : IOut := match x with
  | .ok o r1 => zip2 o (b r1)
  | .err c r1 => .err c r1
  | .bad => .bad
theorem iZip_K (a b : E) (r : Ev) : iZip a b r = zip1 b (a r) := by
  unfold iZip zip1 zip2 zip3 zip4; rfl
theorem zip1_ok (b : E) (o : Op) (r : Ev) : zip1 b (.ok o r) = zip2 o (b r) := id rfl
theorem zip2_ok (o p : Op) (r : Ev) : zip2 o (.ok p r) = zip3 p (fzo r o) := id rfl
theorem zip3_some (p : Op) (x : D) (r : Ev) : zip3 p (some (x, r)) = zip3b x (fzo r p) := id rfl
theorem zip3b_some (x y : D) (r : Ev) : zip3b x (some (y, r)) = zip4 x y r := id rfl
theorem zip4_lstlst (xs ys : List D) (r : Ev) : zip4 (.lst xs) (.lst ys) r = .ok (zipD xs ys) r := id rfl
theorem zip4_lstkls (xs ys : List D) (r : Ev) : zip4 (.lst xs) (.kls ys) r = .ok (zipD xs ys) r := id rfl
theorem zip4_klslst (xs ys : List D) (r : Ev) : zip4 (.kls xs) (.lst ys) r = .ok (zipD xs ys) r := id rfl
theorem zip4_klskls (xs ys : List D) (r : Ev) : zip4 (.kls xs) (.kls ys) r = .ok (zipD xs ys) r := id rfl
theorem zip4_tuptup (xs ys : List D) (r : Ev) : zip4 (.tup xs) (.tup ys) r = .ok (zipD xs ys) r := id rfl
theorem zip4_tupktp (xs ys : List D) (r : Ev) : zip4 (.tup xs) (.ktp ys) r = .ok (zipD xs ys) r := id rfl
theorem zip4_ktptup (xs ys : List D) (r : Ev) : zip4 (.ktp xs) (.tup ys) r = .ok (zipD xs ys) r := id rfl
theorem zip4_ktpktp (xs ys : List D) (r : Ev) : zip4 (.ktp xs) (.ktp ys) r = .ok (zipD xs ys) r := id rfl
def enum2 (x : Option (D × Ev)) : IOut := match x with
  | some (x, r2) => match asL x with
    | some xs => .ok (enumD 0 xs) r2
    | none => .bad
  | none => .bad
def enum1 (x : EOut) : IOut := match x with
  | .ok o r1 => enum2 (fzo r1 o)
  | .err c r1 => .err c r1
  | .bad => .bad
theorem iEnum_K (a : E) (r : Ev) : iEnum a r = enum1 (a r) := by
  unfold iEnum enum1 enum2; rfl
theorem enum1_ok (o : Op) (r : Ev) : enum1 (.ok o r) = enum2 (fzo r o) := id rfl
theorem enum2_lst (xs : List D) (r : Ev) : enum2 (some (.lst xs, r)) = .ok (enumD 0 xs) r := id rfl
theorem enum2_kls (xs : List D) (r : Ev) : enum2 (some (.kls xs, r)) = .ok (enumD 0 xs) r := id rfl
def lcn2 (vs : List Nat) (t : Tg) (i : Nat) (c : T) (e : E) (x : Option (D × Ev)) : EOut := match x with
  | some (_, r1) => eLc vs t (iKeysD i) c e r1
  | none => .bad
theorem eLcN_K (vs : List Nat) (t : Tg) (i : Nat) (c : T) (e : E) (r : Ev) : eLcN vs t i c e r = if isK r[i]? = true then lcn2 vs t i c e (fzo r (.br i)) else eLc vs t (iSeq (eName i)) c e r := by
  unfold eLcN lcn2; rfl
theorem lcn2_some (vs : List Nat) (t : Tg) (i : Nat) (c : T) (e : E) (d : D) (r : Ev) : lcn2 vs t i c e (some (d, r)) = eLc vs t (iKeysD i) c e r := id rfl
def kd1 (r : Ev) (x : Option Sl) : IOut := match x with
  | some (.va (.dct kvs)) => .ok (kvs.map fun p => kD p.1) r
  | _ => .bad
theorem iKeysD_K (i : Nat) (r : Ev) : iKeysD i r = kd1 r r[i]? := id rfl
theorem kd1_va (r : Ev) (kvs : List (DK × D)) : kd1 r (some (.va (.dct kvs))) = .ok (kvs.map fun p => kD p.1) r := id rfl
theorem isK_vaint (i : Int) : isK (some (.va (.int i))) = false := id rfl
theorem isK_owint (b : Bool) (i : Int) : isK (some (.ow b (.int i))) = false := id rfl
theorem isK_vastr (i : Str) : isK (some (.va (.str i))) = false := id rfl
theorem isK_owstr (b : Bool) (i : Str) : isK (some (.ow b (.str i))) = false := id rfl
theorem isK_vatup (i : List D) : isK (some (.va (.tup i))) = false := id rfl
theorem isK_owtup (b : Bool) (i : List D) : isK (some (.ow b (.tup i))) = false := id rfl
theorem isK_valst (i : List D) : isK (some (.va (.lst i))) = false := id rfl
theorem isK_owlst (b : Bool) (i : List D) : isK (some (.ow b (.lst i))) = false := id rfl
theorem isK_vakls (i : List D) : isK (some (.va (.kls i))) = false := id rfl
theorem isK_owkls (b : Bool) (i : List D) : isK (some (.ow b (.kls i))) = false := id rfl
theorem isK_vaktp (i : List D) : isK (some (.va (.ktp i))) = false := id rfl
theorem isK_owktp (b : Bool) (i : List D) : isK (some (.ow b (.ktp i))) = false := id rfl
theorem isK_vabl (i : Bool) : isK (some (.va (.bl i))) = false := id rfl
theorem isK_owbl (b : Bool) (i : Bool) : isK (some (.ow b (.bl i))) = false := id rfl
theorem isK_vanon : isK (some (.va .non)) = false := id rfl
theorem isK_vadct (k : List (DK × D)) : isK (some (.va (.dct k))) = true := id rfl
theorem isK_owdct (b : Bool) (k : List (DK × D)) : isK (some (.ow b (.dct k))) = true := id rfl
theorem gLen_dct (k : List (DK × D)) : gLen [.dct k] = some (.fz (.int k.length)) := id rfl
theorem gIn_dct (i : Int) (k : List (DK × D)) : gIn (.int i) (.dct k) = some (.fz (.bl (valD k (.inl i)).isSome)) := id rfl
theorem gNotIn_dct (i : Int) (k : List (DK × D)) : gNotIn (.int i) (.dct k) = some (.fz (.bl (!(valD k (.inl i)).isSome))) := id rfl
def ixd (x : Option D) : Option Op := match x with
  | some d => some (.fz d)
  | none => none
theorem gIx_dct (i : Int) (k : List (DK × D)) : gIx (.dct k) (.int i) = ixd (valD k (.inl i)) := by
  show (match (some (valD k (.inl i)) : Option (Option D)) with | some (some d) => some (Op.fz d) | _ => none) = _
  unfold ixd
  cases valD k (Sum.inl i) <;> rfl
theorem ixd_some (d : D) : ixd (some d) = some (.fz d) := id rfl
theorem gSet_dct {i : Int} {k : List (DK × D)} (d : D) (h : k.length < SZ) : gSet (.dct k) (.int i) d = some (.dct (putD k (.inl i) d)) := by
  show (if k.length < SZ then _ else _) = _
  rw [if_pos h]
theorem gSortedD_lst {ns : List Int} : gSortedD [.lst (ns.map .int)] = some (.tm (.lst ((sortI ns).map .int))) := by
  unfold gSortedD gSorted
  simp only [intsD_map]
def try2 (x : SOut) : SOut := match x with
  | .err _ _ => .bad
  | x => x
def try1 (sub : Str → Option Bool) (h : Str → S) (x : SOut) : SOut := match x with
  | .err c r1 => (match sub c with
    | some true => try2 (h c r1)
    | some false => .err c r1
    | none => .bad)
  | x => x
theorem try1_congr (sub : Str → Option Bool) (h : Str → S) {x y : SOut} (e : x = y) : try1 sub h x = try1 sub h y := by rw [e]
theorem sTry_K (sub : Str → Option Bool) (b : S) (h : Str → S) (r : Ev) : sTry sub b h r = try1 sub h (b r) := by
  unfold sTry try1 try2; rfl
theorem try1_nx (sub : Str → Option Bool) (h : Str → S) (r : Ev) : try1 sub h (.nx r) = .nx r := id rfl
theorem try1_ret (sub : Str → Option Bool) (h : Str → S) (o : Op) (r : Ev) : try1 sub h (.ret o r) = .ret o r := id rfl
theorem try1_brk (sub : Str → Option Bool) (h : Str → S) (r : Ev) : try1 sub h (.brk r) = .brk r := id rfl
theorem try1_cnt (sub : Str → Option Bool) (h : Str → S) (r : Ev) : try1 sub h (.cnt r) = .cnt r := id rfl
def try3 (x : Option Bool) (h : S) (c : Str) (r : Ev) : SOut := match x with
  | some true => try2 (h r)
  | some false => .err c r
  | none => .bad
theorem try1_err (sub : Str → Option Bool) (h : Str → S) (c : Str) (r : Ev) : try1 sub h (.err c r) = try3 (sub c) (h c) c r := id rfl
theorem try3_t (h : S) (c : Str) (r : Ev) : try3 (some true) h c r = try2 (h r) := id rfl
theorem try3_f (h : S) (c : Str) (r : Ev) : try3 (some false) h c r = .err c r := id rfl
theorem try2_nx (r : Ev) : try2 (.nx r) = .nx r := id rfl
theorem try2_ret (o : Op) (r : Ev) : try2 (.ret o r) = .ret o r := id rfl
theorem try2_brk (r : Ev) : try2 (.brk r) = .brk r := id rfl
theorem try2_cnt (r : Ev) : try2 (.cnt r) = .cnt r := id rfl
def fn3 (x : Option (List D)) (o : Op) : FOut := match x with
  | some ios => .ok o ios
  | none => .bad
def fn4 (x : Option (List D)) (c : Str) : FOut := match x with
  | some ios => .err c ios
  | none => .bad
def fn1 (m : List Bool) (x_ : SOut) : FOut := match x_ with
  | .ret o r => fn3 (iosAt m 0 r) o
  | .nx r => fn3 (iosAt m 0 r) (.fz .non)
  | .err c r => fn4 (iosAt m 0 r) c
  | _ => .bad
theorem fn1_congr (m : List Bool) {x_ y_ : SOut} (h_ : x_ = y_) : fn1 m x_ = fn1 m y_ := by rw [h_]
theorem fnD_K (n : Nat) (m : List Bool) (b : S) (ds : List D) : fnD n m b ds = if ds.length = m.length then fn1 m (b (argSl m ds ++ List.replicate (n - m.length) .no)) else .bad := by
  unfold fnD fn1 fn3 fn4; rfl
theorem fn1_ret (m : List Bool) (o : Op) (r : Ev) : fn1 m (.ret o r) = fn3 (iosAt m 0 r) o := id rfl
theorem fn1_nx (m : List Bool) (r : Ev) : fn1 m (.nx r) = fn3 (iosAt m 0 r) (.fz .non) := id rfl
theorem fn1_err (m : List Bool) (c : Str) (r : Ev) : fn1 m (.err c r) = fn4 (iosAt m 0 r) c := id rfl
theorem fn3_some (o : Op) (ios : List D) : fn3 (some ios) o = .ok o ios := id rfl
theorem fn4_some (c : Str) (ios : List D) : fn4 (some ios) c = .err c ios := id rfl
theorem iosAt_nil (k : Nat) (r : Ev) : iosAt [] k r = some [] := id rfl
theorem iosAt_f (m : List Bool) (k : Nat) (r : Ev) : iosAt (false :: m) k r = iosAt m (k + 1) r := id rfl
def ios1 (m : List Bool) (k : Nat) (r : Ev) (x : Option Sl) : Option (List D) := match x with
  | some (.ow true d) => rsvs2 d (iosAt m (k + 1) r)
  | _ => none
theorem iosAt_t (m : List Bool) (k : Nat) (r : Ev) : iosAt (true :: m) k r = ios1 m k r r[k]? := by
  unfold ios1 rsvs2; rfl
theorem ios1_ow (m : List Bool) (k : Nat) (r : Ev) (d : D) : ios1 m k r (some (.ow true d)) = rsvs2 d (iosAt m (k + 1) r) := id rfl
theorem argSl_f (m : List Bool) (d : D) (ds : List D) : argSl (false :: m) (d :: ds) = .va d :: argSl m ds := id rfl
theorem argSl_t (m : List Bool) (d : D) (ds : List D) : argSl (true :: m) (d :: ds) = .ow true d :: argSl m ds := id rfl
theorem argSl_nil (m : List Bool) : argSl m [] = [] := by cases m with
  | nil => rfl
  | cons b _ => cases b <;> rfl
theorem gAdd_i (i j : Int) : gAdd (.int i) (.int j) = some (.fz (.int (i + j))) := id rfl
theorem gAdd_t (x y : List D) : gAdd (.tup x) (.tup y) = if x.length + y.length ≤ SZ then some (.fz (.tup (x ++ y))) else none := id rfl
theorem gAdd_l (x y : List D) : gAdd (.lst x) (.lst y) = if x.length + y.length ≤ SZ then some (.tm (.lst (x ++ y))) else none := id rfl
theorem gSub_i (i j : Int) : gSub (.int i) (.int j) = some (.fz (.int (i - j))) := id rfl
theorem gIAdd_i (i j : Int) : gIAdd (.int i) (.int j) = some (.fz (.int (i + j))) := id rfl
theorem gLt_i (i j : Int) : gLt (.int i) (.int j) = some (.fz (.bl (decide (i < j)))) := id rfl
theorem gLe_i (i j : Int) : gLe (.int i) (.int j) = some (.fz (.bl (decide (i ≤ j)))) := id rfl
theorem gGt_i (i j : Int) : gGt (.int i) (.int j) = some (.fz (.bl (decide (j < i)))) := id rfl
theorem gGe_i (i j : Int) : gGe (.int i) (.int j) = some (.fz (.bl (decide (j ≤ i)))) := id rfl
theorem gMul_r {i j : Int} (h : j.natAbs < 2 ^ 64) : gMul (.int i) (.int j) = some (.fz (.int (i * j))) := by
  show (if mulOk i j then _ else _) = _
  rw [if_pos (.inr (.inl h))]
theorem gMul_l {i j : Int} (h : i.natAbs < 2 ^ 64) : gMul (.int i) (.int j) = some (.fz (.int (i * j))) := by
  show (if mulOk i j then _ else _) = _
  rw [if_pos (.inl h)]
theorem gMul_b {i j : Int} (h : mulOk i j) : gMul (.int i) (.int j) = some (.fz (.int (i * j))) := by
  show (if mulOk i j then _ else _) = _
  rw [if_pos h]
theorem gIMul_b {i j : Int} (h : mulOk i j) : gIMul (.int i) (.int j) = some (.fz (.int (i * j))) := by
  show (if mulOk i j then _ else _) = _
  rw [if_pos h]
theorem gMod_i {i j : Int} (h : j ≠ 0) : gMod (.int i) (.int j) = some (.fz (.int (i.fmod j))) := by
  unfold gMod
  exact if_pos h
theorem gFdiv_i {i j : Int} (h : j ≠ 0) (hl : j.natAbs < 2 ^ 8000) : gFdiv (.int i) (.int j) = some (.fz (.int (i.fdiv j))) := by
  show (if j ≠ 0 ∧ _ then _ else _) = _
  refine if_pos ⟨h, ?_⟩
  rcases Nat.eq_zero_or_pos j.natAbs with h0 | h0
  · rw [h0]; decide
  · exact Nat.lt_trans ((Nat.log2_lt (by omega)).mpr hl) (by decide)
theorem gFdiv_s {i j : Int} (h : j ≠ 0) (hl : j.natAbs < 2 ^ 64) : gFdiv (.int i) (.int j) = some (.fz (.int (i.fdiv j))) :=
  gFdiv_i h (Nat.lt_trans hl (Nat.pow_lt_pow_right (by decide) (by decide)))
theorem lit64 (n : Nat) (h : n < 18446744073709551616) : (n : Int).natAbs < 2 ^ 64 := h
def ix2 (o : Option D) : Option Op := match o with
  | some d => some (.fz d)
  | none => none
def ix1 (xs : List D) (o : Option Nat) : Option Op := match o with
  | some j => ix2 xs[j]?
  | none => none
theorem gIx_lst (xs : List D) (i : Int) : gIx (.lst xs) (.int i) = ix1 xs (ixI xs.length i) := id rfl
theorem gLen_lst (xs : List D) : gLen [.lst xs] = some (.fz (.int xs.length)) := id rfl
theorem gList_lst (xs : List D) : gList [.lst xs] = some (.tm (.lst xs)) := id rfl
theorem gIx_kls (xs : List D) (i : Int) : gIx (.kls xs) (.int i) = ix1 xs (ixI xs.length i) := id rfl
theorem gLen_kls (xs : List D) : gLen [.kls xs] = some (.fz (.int xs.length)) := id rfl
theorem gList_kls (xs : List D) : gList [.kls xs] = some (.tm (.lst xs)) := id rfl
theorem gIx_tup (xs : List D) (i : Int) : gIx (.tup xs) (.int i) = ix1 xs (ixI xs.length i) := id rfl
theorem gLen_tup (xs : List D) : gLen [.tup xs] = some (.fz (.int xs.length)) := id rfl
theorem gList_tup (xs : List D) : gList [.tup xs] = some (.tm (.lst xs)) := id rfl
theorem gIx_ktp (xs : List D) (i : Int) : gIx (.ktp xs) (.int i) = ix1 xs (ixI xs.length i) := id rfl
theorem gLen_ktp (xs : List D) : gLen [.ktp xs] = some (.fz (.int xs.length)) := id rfl
theorem gList_ktp (xs : List D) : gList [.ktp xs] = some (.tm (.lst xs)) := id rfl
theorem ix1_some (xs : List D) (j : Nat) : ix1 xs (some j) = ix2 xs[j]? := id rfl
theorem ix2_some (d : D) : ix2 (some d) = some (.fz d) := id rfl
theorem gSlice_lst (xs : List D) (lo hi : Option Int) : gSlice (.lst xs) lo hi = some (.tm (.lst (cutD xs lo hi))) := id rfl
theorem gSlice_kls (xs : List D) (lo hi : Option Int) : gSlice (.kls xs) lo hi = some (.tm (.lst (cutD xs lo hi))) := id rfl
theorem gSlice_tup (xs : List D) (lo hi : Option Int) : gSlice (.tup xs) lo hi = some (.fz (.tup (cutD xs lo hi))) := id rfl
theorem gTuple_tup (xs : List D) : gTuple [.tup xs] = some (.fz (.tup xs)) := id rfl
theorem gTuple_ktp (xs : List D) : gTuple [.ktp xs] = some (.fz (.ktp xs)) := id rfl
theorem gTuple_lst (xs : List D) : gTuple [.lst xs] = some (.fz (.tup xs)) := id rfl
theorem gTuple_kls (xs : List D) : gTuple [.kls xs] = some (.fz (.tup xs)) := id rfl
theorem gInt_i (i : Int) : gInt [.int i] = some (.fz (.int i)) := id rfl
theorem gAbs_i (i : Int) : gAbs [.int i] = some (.fz (.int (if i < 0 then -i else i))) := id rfl
theorem gNeg_i (i : Int) : gNeg (.int i) = some (.fz (.int (-i))) := id rfl
theorem gGcd_i (i j : Int) : gGcd [.int i, .int j] = some (.fz (.int ((Nat.gcd i.natAbs j.natAbs : Nat) : Int))) := id rfl
theorem gMax_i (i j : Int) : gMax [.int i, .int j] = some (.fz (.int (if i < j then j else i))) := id rfl
theorem gMin_i (i j : Int) : gMin [.int i, .int j] = some (.fz (.int (if j < i then j else i))) := id rfl
theorem natAbs_lit (n : Nat) : Int.natAbs (@OfNat.ofNat Int n _) = @OfNat.ofNat Nat n _ := rfl
theorem gIs_nn : gIs .non .non = some (.fz (.bl true)) := id rfl
theorem gIsNot_nn : gIsNot .non .non = some (.fz (.bl false)) := id rfl
theorem gIs_bb (a b : Bool) : gIs (.bl a) (.bl b) = some (.fz (.bl (a == b))) := id rfl
theorem gIs_intn (i : Int) : gIs (.int i) .non = some (.fz (.bl false)) := id rfl
theorem gIsNot_intn (i : Int) : gIsNot (.int i) .non = some (.fz (.bl true)) := id rfl
theorem gIs_strn (i : Str) : gIs (.str i) .non = some (.fz (.bl false)) := id rfl
theorem gIsNot_strn (i : Str) : gIsNot (.str i) .non = some (.fz (.bl true)) := id rfl
theorem gIs_tupn (i : List D) : gIs (.tup i) .non = some (.fz (.bl false)) := id rfl
theorem gIsNot_tupn (i : List D) : gIsNot (.tup i) .non = some (.fz (.bl true)) := id rfl
theorem gIs_lstn (i : List D) : gIs (.lst i) .non = some (.fz (.bl false)) := id rfl
theorem gIsNot_lstn (i : List D) : gIsNot (.lst i) .non = some (.fz (.bl true)) := id rfl
theorem gIs_klsn (i : List D) : gIs (.kls i) .non = some (.fz (.bl false)) := id rfl
theorem gIsNot_klsn (i : List D) : gIsNot (.kls i) .non = some (.fz (.bl true)) := id rfl
theorem gIs_ktpn (i : List D) : gIs (.ktp i) .non = some (.fz (.bl false)) := id rfl
theorem gIsNot_ktpn (i : List D) : gIsNot (.ktp i) .non = some (.fz (.bl true)) := id rfl
theorem gIs_bln (i : Bool) : gIs (.bl i) .non = some (.fz (.bl false)) := id rfl
theorem gIsNot_bln (i : Bool) : gIsNot (.bl i) .non = some (.fz (.bl true)) := id rfl
theorem gIs_dctn (i : List (DK × D)) : gIs (.dct i) .non = some (.fz (.bl false)) := id rfl
theorem gIsNot_dctn (i : List (DK × D)) : gIsNot (.dct i) .non = some (.fz (.bl true)) := id rfl
theorem gIs_dttn (i : List (List DK × D)) : gIs (.dtt i) .non = some (.fz (.bl false)) := id rfl
theorem gIsNot_dttn (i : List (List DK × D)) : gIsNot (.dtt i) .non = some (.fz (.bl true)) := id rfl
theorem gEq_ii (i j : Int) : gEq (.int i) (.int j) = some (.fz (.bl (decide (i = j)))) := by
  show (if okE (.int i) (.int j) = true then _ else _) = _
  rw [if_pos (by rfl)]
  show some (Op.fz (D.bl (i == j))) = _
  rw [show (i == j) = decide (i = j) from rfl]
theorem gNe_ii (i j : Int) : gNe (.int i) (.int j) = some (.fz (.bl (decide (i ≠ j)))) := by
  show (if okE (.int i) (.int j) = true then _ else _) = _
  rw [if_pos (by rfl)]
  show some (Op.fz (D.bl (!(i == j)))) = _
  rw [show (i == j) = decide (i = j) from rfl, decide_not]
theorem gNe_bb (i j : Bool) : gNe (.bl i) (.bl j) = some (.fz (.bl (!(i == j)))) := id rfl
theorem gEq_bb (i j : Bool) : gEq (.bl i) (.bl j) = some (.fz (.bl (i == j))) := id rfl
theorem dtr_bl (b : Bool) : dtr (.bl b) = some b := id rfl
theorem dtr_int (i : Int) : dtr (.int i) = some (i != 0) := id rfl
theorem dtr_non : dtr .non = some false := id rfl
theorem dtr_lst (xs : List D) : dtr (.lst xs) = some (!xs.isEmpty) := id rfl
theorem dtr_kls (xs : List D) : dtr (.kls xs) = some (!xs.isEmpty) := id rfl
theorem dtr_tup (xs : List D) : dtr (.tup xs) = some (!xs.isEmpty) := id rfl
theorem dtr_ktp (xs : List D) : dtr (.ktp xs) = some (!xs.isEmpty) := id rfl
theorem eIsi_K (t : TyN) (a : E) (r : Ev) : eIsi t a r = eUn (fun d => some (.fz (.bl (isD t d)))) a r := id rfl
def set5 (xs : List D) (v : D) (o : Option Nat) : Option D := match o with
  | some j => some (.lst (xs.set j v))
  | none => none
theorem gSet_lst (xs : List D) (i : Int) (v : D) : gSet (.lst xs) (.int i) v = set5 xs v (ixI xs.length i) := id rfl
theorem set5_some (xs : List D) (v : D) (j : Nat) : set5 xs v (some j) = some (.lst (xs.set j v)) := id rfl
theorem gAppend_K (xs : List D) (d : D) : gAppend (.lst xs) [d] = if xs.length < SZ then some (.lst (xs ++ [d]), .fz .non) else none := id rfl
theorem small0 : (0 : Nat) ≤ SZ := by unfold SZ; omega
theorem less0 : (0 : Nat) < SZ := by unfold SZ; omega
theorem small1 : (1 : Nat) ≤ SZ := by unfold SZ; omega
theorem less1 : (1 : Nat) < SZ := by unfold SZ; omega
theorem small2 : (2 : Nat) ≤ SZ := by unfold SZ; omega
theorem less2 : (2 : Nat) < SZ := by unfold SZ; omega
theorem small3 : (3 : Nat) ≤ SZ := by unfold SZ; omega
theorem less3 : (3 : Nat) < SZ := by unfold SZ; omega
theorem small4 : (4 : Nat) ≤ SZ := by unfold SZ; omega
theorem less4 : (4 : Nat) < SZ := by unfold SZ; omega
theorem small5 : (5 : Nat) ≤ SZ := by unfold SZ; omega
theorem less5 : (5 : Nat) < SZ := by unfold SZ; omega
theorem small6 : (6 : Nat) ≤ SZ := by unfold SZ; omega
theorem less6 : (6 : Nat) < SZ := by unfold SZ; omega
theorem small7 : (7 : Nat) ≤ SZ := by unfold SZ; omega
theorem less7 : (7 : Nat) < SZ := by unfold SZ; omega
theorem small8 : (8 : Nat) ≤ SZ := by unfold SZ; omega
theorem less8 : (8 : Nat) < SZ := by unfold SZ; omega
theorem small9 : (9 : Nat) ≤ SZ := by unfold SZ; omega
theorem less9 : (9 : Nat) < SZ := by unfold SZ; omega
theorem small10 : (10 : Nat) ≤ SZ := by unfold SZ; omega
theorem less10 : (10 : Nat) < SZ := by unfold SZ; omega
theorem small11 : (11 : Nat) ≤ SZ := by unfold SZ; omega
theorem less11 : (11 : Nat) < SZ := by unfold SZ; omega
theorem small12 : (12 : Nat) ≤ SZ := by unfold SZ; omega
theorem less12 : (12 : Nat) < SZ := by unfold SZ; omega
theorem small13 : (13 : Nat) ≤ SZ := by unfold SZ; omega
theorem less13 : (13 : Nat) < SZ := by unfold SZ; omega
theorem small14 : (14 : Nat) ≤ SZ := by unfold SZ; omega
theorem less14 : (14 : Nat) < SZ := by unfold SZ; omega
theorem small15 : (15 : Nat) ≤ SZ := by unfold SZ; omega
theorem less15 : (15 : Nat) < SZ := by unfold SZ; omega
theorem small16 : (16 : Nat) ≤ SZ := by unfold SZ; omega
theorem less16 : (16 : Nat) < SZ := by unfold SZ; omega
theorem isD_bool_non : isD .bool .non = false := id rfl
theorem isD_bool_bl (i : Bool) : isD .bool (.bl i) = true := id rfl
theorem isD_bool_int (i : Int) : isD .bool (.int i) = false := id rfl
theorem isD_bool_str (i : Str) : isD .bool (.str i) = false := id rfl
theorem isD_bool_tup (i : List D) : isD .bool (.tup i) = false := id rfl
theorem isD_bool_lst (i : List D) : isD .bool (.lst i) = false := id rfl
theorem isD_bool_kls (i : List D) : isD .bool (.kls i) = false := id rfl
theorem isD_bool_ktp (i : List D) : isD .bool (.ktp i) = false := id rfl
theorem isD_bool_dct (i : List (DK × D)) : isD .bool (.dct i) = false := id rfl
theorem isD_bool_dtt (i : List (List DK × D)) : isD .bool (.dtt i) = false := id rfl
theorem isD_int_non : isD .int .non = false := id rfl
theorem isD_int_bl (i : Bool) : isD .int (.bl i) = true := id rfl
theorem isD_int_int (i : Int) : isD .int (.int i) = true := id rfl
theorem isD_int_str (i : Str) : isD .int (.str i) = false := id rfl
theorem isD_int_tup (i : List D) : isD .int (.tup i) = false := id rfl
theorem isD_int_lst (i : List D) : isD .int (.lst i) = false := id rfl
theorem isD_int_kls (i : List D) : isD .int (.kls i) = false := id rfl
theorem isD_int_ktp (i : List D) : isD .int (.ktp i) = false := id rfl
theorem isD_int_dct (i : List (DK × D)) : isD .int (.dct i) = false := id rfl
theorem isD_int_dtt (i : List (List DK × D)) : isD .int (.dtt i) = false := id rfl
theorem isD_str_non : isD .str .non = false := id rfl
theorem isD_str_bl (i : Bool) : isD .str (.bl i) = false := id rfl
theorem isD_str_int (i : Int) : isD .str (.int i) = false := id rfl
theorem isD_str_str (i : Str) : isD .str (.str i) = true := id rfl
theorem isD_str_tup (i : List D) : isD .str (.tup i) = false := id rfl
theorem isD_str_lst (i : List D) : isD .str (.lst i) = false := id rfl
theorem isD_str_kls (i : List D) : isD .str (.kls i) = false := id rfl
theorem isD_str_ktp (i : List D) : isD .str (.ktp i) = false := id rfl
theorem isD_str_dct (i : List (DK × D)) : isD .str (.dct i) = false := id rfl
theorem isD_str_dtt (i : List (List DK × D)) : isD .str (.dtt i) = false := id rfl
theorem isD_list_non : isD .list .non = false := id rfl
theorem isD_list_bl (i : Bool) : isD .list (.bl i) = false := id rfl
theorem isD_list_int (i : Int) : isD .list (.int i) = false := id rfl
theorem isD_list_str (i : Str) : isD .list (.str i) = false := id rfl
theorem isD_list_tup (i : List D) : isD .list (.tup i) = false := id rfl
theorem isD_list_lst (i : List D) : isD .list (.lst i) = true := id rfl
theorem isD_list_kls (i : List D) : isD .list (.kls i) = true := id rfl
theorem isD_list_ktp (i : List D) : isD .list (.ktp i) = false := id rfl
theorem isD_list_dct (i : List (DK × D)) : isD .list (.dct i) = false := id rfl
theorem isD_list_dtt (i : List (List DK × D)) : isD .list (.dtt i) = false := id rfl
theorem isD_tuple_non : isD .tuple .non = false := id rfl
theorem isD_tuple_bl (i : Bool) : isD .tuple (.bl i) = false := id rfl
theorem isD_tuple_int (i : Int) : isD .tuple (.int i) = false := id rfl
theorem isD_tuple_str (i : Str) : isD .tuple (.str i) = false := id rfl
theorem isD_tuple_tup (i : List D) : isD .tuple (.tup i) = true := id rfl
theorem isD_tuple_lst (i : List D) : isD .tuple (.lst i) = false := id rfl
theorem isD_tuple_kls (i : List D) : isD .tuple (.kls i) = false := id rfl
theorem isD_tuple_ktp (i : List D) : isD .tuple (.ktp i) = true := id rfl
theorem isD_tuple_dct (i : List (DK × D)) : isD .tuple (.dct i) = false := id rfl
theorem isD_tuple_dtt (i : List (List DK × D)) : isD .tuple (.dtt i) = false := id rfl
theorem isD_dict_non : isD .dict .non = false := id rfl
theorem isD_dict_bl (i : Bool) : isD .dict (.bl i) = false := id rfl
theorem isD_dict_int (i : Int) : isD .dict (.int i) = false := id rfl
theorem isD_dict_str (i : Str) : isD .dict (.str i) = false := id rfl
theorem isD_dict_tup (i : List D) : isD .dict (.tup i) = false := id rfl
theorem isD_dict_lst (i : List D) : isD .dict (.lst i) = false := id rfl
theorem isD_dict_kls (i : List D) : isD .dict (.kls i) = false := id rfl
theorem isD_dict_ktp (i : List D) : isD .dict (.ktp i) = false := id rfl
theorem isD_dict_dct (i : List (DK × D)) : isD .dict (.dct i) = true := id rfl
theorem isD_dict_dtt (i : List (List DK × D)) : isD .dict (.dtt i) = true := id rfl
def q1 (f : E) (r : Ev) (x : EOut) : EOut := match x with
  | .ok (.fz d) _ => if flatD d = true then .ok (.fz d) r else f r
  | .ok (.tm (.lst acc)) _ => if acc.all flatD = true then .ok (.tm (.lst acc)) r else f r
  | _ => f r
theorem eQ_K (f : E) (r : Ev) : eQ f r = q1 f r (f (frzAll r)) := id rfl
theorem q1_lst (f : E) (r r1 : Ev) (acc : List D) : q1 f r (.ok (.tm (.lst acc)) r1) = if acc.all flatD = true then .ok (.tm (.lst acc)) r else f r := id rfl
theorem frzAll_cons (s : Sl) (r : Ev) : frzAll (s :: r) = frzS s :: frzAll r := id rfl
theorem frzAll_nil : frzAll [] = [] := id rfl
theorem frzS_va (d : D) : frzS (.va d) = .va d := id rfl
theorem frzS_ow (b : Bool) (d : D) : frzS (.ow b d) = .va d := id rfl
theorem frzS_no : frzS .no = .no := id rfl
end DL.K
end

section
set_option autoImplicit false
set_option linter.all false
/-! DLR: rules for loops and comprehensions over typed rows. -/
namespace DL
open PySem
/-! ### rows of numbers -/
theorem upFrom_eq (lo : Int) : ∀ n : Nat, upFrom lo n = (List.range n).map fun (i : Nat) => D.int (lo + (i : Int))
  | 0 => rfl
  | n + 1 => by
    rw [upFrom, upFrom_eq (lo + 1) n, List.range_succ_eq_map, List.map_cons, List.map_map]
    congr 1
    · show D.int lo = D.int (lo + ((0 : Nat) : Int))
      rw [Int.natCast_zero, Int.add_zero]
    · refine List.map_congr_left fun i _ => ?_
      show D.int (lo + 1 + (i : Int)) = D.int (lo + ((i + 1 : Nat) : Int))
      rw [Int.natCast_add, Int.natCast_one, Int.add_assoc, Int.add_comm 1 (i : Int)]
theorem upFrom0 (n : Nat) : upFrom 0 n = (List.range n).map fun (i : Nat) => D.int (i : Int) := by
  rw [upFrom_eq]; exact List.map_congr_left fun i _ => by rw [Int.zero_add]
theorem upFromN (a n : Nat) : upFrom (a : Int) n = (List.range' a n).map fun (i : Nat) => D.int (i : Int) := by
  rw [upFrom_eq, List.range'_eq_map_range, List.map_map]
  exact List.map_congr_left fun i _ => by show D.int ((a : Int) + (i : Int)) = D.int ((a + i : Nat) : Int); rw [Int.natCast_add]
theorem upFromN1 (a n : Nat) : upFrom ((a : Int) + 1) n = (List.range' (a + 1) n).map fun (i : Nat) => D.int (i : Int) := upFromN (a + 1) n
theorem enumD_eq {β : Type} (g : β → D) : ∀ (xs : List β) (lo : Nat), enumD (lo : Int) (xs.map g) = (xs.zipIdx lo).map fun p => D.tup [.int (p.2 : Int), g p.1]
  | [], _ => rfl
  | x :: xs, lo => by
    rw [List.map_cons, enumD, List.zipIdx_cons, List.map_cons]
    congr 1
    exact enumD_eq g xs (lo + 1)
theorem enumD0 {β : Type} (g : β → D) (xs : List β) : enumD 0 (xs.map g) = xs.zipIdx.map fun p => D.tup [.int (p.2 : Int), g p.1] := enumD_eq g xs 0
theorem zipD_eq {α β : Type} (f : α → D) (g : β → D) : ∀ (xs : List α) (ys : List β), zipD (xs.map f) (ys.map g) = (xs.zip ys).map fun p => D.tup [f p.1, g p.2]
  | [], _ => by cases ‹List β› <;> rfl
  | _ :: _, [] => rfl
  | x :: xs, y :: ys => by
    rw [List.map_cons, List.map_cons, zipD, zipD_eq f g xs ys]; rfl

/-! ### for: a step on typed items; a left state goes on, a right one is the end -/
def foldS {α β ρ : Type} (step : α → β → α ⊕ ρ) : α → List β → α ⊕ ρ
  | a, [] => .inl a
  | a, x :: xs => match step a x with
    | .inl a' => foldS step a' xs
    | .inr q => .inr q
theorem for_fold {α β : Type} {t : Tg} {b : S} (R : α → Ev → Prop) (step : α → β → α) (g : β → D) : ∀ (xs : List β) (a : α) (r : Ev), R a r →
    (∀ x ∈ xs, ∀ a r, R a r → ∃ r1, t.put (g x) r = some r1 ∧ ∃ r2, (b r1 = .nx r2 ∨ b r1 = .cnt r2) ∧ R (step a x) r2) →
    ∃ r', forGo t b (xs.map g) r = .nx r' ∧ R (xs.foldl step a) r'
  | [], a, r, h, _ => ⟨r, K.forGo_nil _ _ _, h⟩
  | x :: xs, a, r, h, hs => by
    obtain ⟨r1, e1, r2, e2, h2⟩ := hs x List.mem_cons_self a r h
    obtain ⟨r3, e3, h3⟩ := for_fold R step g xs (step a x) r2 h2 fun y hy => hs y (List.mem_cons_of_mem _ hy)
    refine ⟨r3, ?_, h3⟩
    rw [List.map_cons, K.forGo_cons, e1, K.go0_some]
    rcases e2 with e | e
    · rw [e, K.go1_nx, e3]
    · rw [e, K.go1_cnt, e3]
/-- with an invariant over the items that are behind -/
theorem for_inv {β : Type} {t : Tg} {b : S} (g : β → D) (I : List β → Ev → Prop) (xs : List β) {r : Ev} (h0 : I [] r)
    (hs : ∀ (pre : List β) (x : β) (post : List β), xs = pre ++ x :: post → ∀ r, I pre r → ∃ r1, t.put (g x) r = some r1 ∧ ∃ r2, (b r1 = .nx r2 ∨ b r1 = .cnt r2) ∧ I (pre ++ [x]) r2) :
    ∃ r', forGo t b (xs.map g) r = .nx r' ∧ I xs r' := by
  suffices H : ∀ (ys pre : List β) (r : Ev), xs = pre ++ ys → I pre r → ∃ r', forGo t b (ys.map g) r = .nx r' ∧ I xs r' from H xs [] r rfl h0
  intro ys
  induction ys with
  | nil => intro pre r e h; rw [List.append_nil] at e; subst e; exact ⟨r, K.forGo_nil _ _ _, h⟩
  | cons x ys ih =>
    intro pre r e h
    obtain ⟨r1, e1, r2, e2, h2⟩ := hs pre x ys e r h
    obtain ⟨r3, e3, h3⟩ := ih (pre ++ [x]) r2 (by rw [e, List.append_assoc]; rfl) h2
    refine ⟨r3, ?_, h3⟩
    rw [List.map_cons, K.forGo_cons, e1, K.go0_some]
    rcases e2 with e | e
    · rw [e, K.go1_nx, e3]
    · rw [e, K.go1_cnt, e3]
/-- a loop that may end early -/
theorem for_stop {α β ρ : Type} {t : Tg} {b : S} (R : α → Ev → Prop) (O : ρ → SOut → Prop) (step : α → β → α ⊕ ρ) (g : β → D)
    (hO : ∀ q r, ¬ O q (.nx r) ∧ ¬ O q (.cnt r) ∧ ¬ O q (.brk r)) : ∀ (xs : List β) (a : α) (r : Ev), R a r →
    (∀ x ∈ xs, ∀ a r, R a r → ∃ r1, t.put (g x) r = some r1 ∧ match step a x with
      | .inl a' => ∃ r2, (b r1 = .nx r2 ∨ b r1 = .cnt r2) ∧ R a' r2
      | .inr q => O q (b r1)) →
    match foldS step a xs with
      | .inl a' => ∃ r', forGo t b (xs.map g) r = .nx r' ∧ R a' r'
      | .inr q => O q (forGo t b (xs.map g) r)
  | [], a, r, h, _ => ⟨r, K.forGo_nil _ _ _, h⟩
  | x :: xs, a, r, h, hs => by
    obtain ⟨r1, e1, h1⟩ := hs x List.mem_cons_self a r h
    unfold foldS
    cases q : step a x with
    | inl a' =>
      simp only [q] at h1
      obtain ⟨r2, e2, h2⟩ := h1
      have ih := for_stop R O step g hO xs a' r2 h2 fun y hy => hs y (List.mem_cons_of_mem _ hy)
      have e3 : forGo t b ((x :: xs).map g) r = forGo t b (xs.map g) r2 := by
        rw [List.map_cons, K.forGo_cons, e1, K.go0_some]
        rcases e2 with e | e
        · rw [e, K.go1_nx]
        · rw [e, K.go1_cnt]
      rw [e3]; exact ih
    | inr p =>
      simp only [q] at h1
      have e3 : forGo t b ((x :: xs).map g) r = b r1 := by
        rw [List.map_cons, K.forGo_cons, e1, K.go0_some]
        cases w : b r1 with
        | nx r2 => rw [w] at h1; exact absurd h1 (hO p r2).1
        | cnt r2 => rw [w] at h1; exact absurd h1 (hO p r2).2.1
        | brk r2 => rw [w] at h1; exact absurd h1 (hO p r2).2.2
        | ret o r2 => rfl
        | err c r2 => rfl
        | bad => rfl
      show O p _
      rw [e3]; exact h1
/-- a loop that gives back one value at the first item without p -/
theorem for_all {β : Type} {t : Tg} {b : S} (R : Ev → Prop) (d : D) (p : β → Bool) (g : β → D) : ∀ (xs : List β) (r : Ev), R r →
    (∀ x ∈ xs, ∀ r, R r → ∃ r1, t.put (g x) r = some r1 ∧ (p x = true → ∃ r2, (b r1 = .nx r2 ∨ b r1 = .cnt r2) ∧ R r2) ∧ (p x = false → ∃ r2, b r1 = .ret (.fz d) r2 ∧ R r2)) →
    (xs.all p = true → ∃ r', forGo t b (xs.map g) r = .nx r' ∧ R r') ∧ (xs.all p = false → ∃ r', forGo t b (xs.map g) r = .ret (.fz d) r' ∧ R r')
  | [], r, h, _ => ⟨fun _ => ⟨r, K.forGo_nil _ _ _, h⟩, fun h => by cases h⟩
  | x :: xs, r, h, hs => by
    obtain ⟨r1, e1, ht, hf⟩ := hs x List.mem_cons_self r h
    rw [List.all_cons]
    cases q : p x with
    | true =>
      obtain ⟨r2, e2, h2⟩ := ht q
      have ih := for_all R d p g xs r2 h2 fun y hy => hs y (List.mem_cons_of_mem _ hy)
      have e3 : forGo t b ((x :: xs).map g) r = forGo t b (xs.map g) r2 := by
        rw [List.map_cons, K.forGo_cons, e1, K.go0_some]
        rcases e2 with e | e
        · rw [e, K.go1_nx]
        · rw [e, K.go1_cnt]
      rw [e3, Bool.true_and]; exact ih
    | false =>
      obtain ⟨r2, e2, h2⟩ := hf q
      refine ⟨fun h => by simp at h, fun _ => ⟨r2, ?_, h2⟩⟩
      rw [List.map_cons, K.forGo_cons, e1, K.go0_some, e2]
      rfl
/-! ### while: a measure -/
theorem while_run {c : T} {b : S} (I : Nat → Ev → Prop) (Q : Ev → Prop)
    (h : ∀ n r, I n r → (∃ r1, c r = .ok false r1 ∧ Q r1) ∨ ∃ r1, c r = .ok true r1 ∧ ∃ r2 m, (b r1 = .nx r2 ∨ b r1 = .cnt r2) ∧ m < n ∧ I m r2) :
    ∀ n r, I n r → ∃ r', sWhile c b r = .nx r' ∧ Q r' := by
  have H : ∀ n r, I n r → ∃ k r', whN c b k r = .nx r' ∧ Q r' := by
    intro n
    induction n using Nat.strongRecOn with
    | ind n ih =>
      intro r hr
      rcases h n r hr with ⟨r1, e1, q⟩ | ⟨r1, e1, r2, m, e2, hm, h2⟩
      · exact ⟨1, r1, by rw [K.whN_K, e1]; rfl, q⟩
      · obtain ⟨k, r', e3, q⟩ := ih m hm r2 h2
        refine ⟨k + 1, r', ?_, q⟩
        rw [K.whN_K, e1, K.wh1_t]
        rcases e2 with e | e
        · rw [e, K.wh2_nx, e3]
        · rw [e]; exact e3
  intro n r hr
  obtain ⟨k, r', e, q⟩ := H n r hr
  exact ⟨r', sWhile_eq e (by exact nofun), q⟩
/-- a while that may end otherwise: O the ends that are wanted -/
theorem while_stop {c : T} {b : S} (I : Nat → Ev → Prop) (O : SOut → Prop)
    (h : ∀ n r, I n r → (∃ r1, c r = .ok false r1 ∧ O (.nx r1)) ∨ (∃ r1 x, c r = .ok true r1 ∧ O x ∧ ((∃ r2, b r1 = .brk r2 ∧ x = .nx r2) ∨ (b r1 = x ∧ ((∃ o r2, x = .ret o r2) ∨ ∃ e r2, x = .err e r2)))) ∨
      ∃ r1, c r = .ok true r1 ∧ ∃ r2 m, (b r1 = .nx r2 ∨ b r1 = .cnt r2) ∧ m < n ∧ I m r2) :
    ∀ n r, I n r → O (sWhile c b r) := by
  have H : ∀ n r, I n r → ∃ k x, whN c b k r = x ∧ x ≠ .bad ∧ O x := by
    intro n
    induction n using Nat.strongRecOn with
    | ind n ih =>
      intro r hr
      rcases h n r hr with ⟨r1, e1, q⟩ | ⟨r1, x, e1, q, e2⟩ | ⟨r1, e1, r2, m, e2, hm, h2⟩
      · exact ⟨1, .nx r1, by rw [K.whN_K, e1]; rfl, nofun, q⟩
      · refine ⟨1, x, ?_, ?_, q⟩
        · rw [K.whN_K, e1, K.wh1_t]
          rcases e2 with ⟨r2, e2, e3⟩ | ⟨e2, ⟨o, r2, e3⟩ | ⟨o, r2, e3⟩⟩
          · rw [e2, e3]; rfl
          · rw [e2, e3]; rfl
          · rw [e2, e3]; rfl
        · rcases e2 with ⟨r2, e2, e3⟩ | ⟨e2, ⟨o, r2, e3⟩ | ⟨o, r2, e3⟩⟩ <;> rw [e3] <;> exact nofun
      · obtain ⟨k, x, e3, q, o⟩ := ih m hm r2 h2
        refine ⟨k + 1, x, ?_, q, o⟩
        rw [K.whN_K, e1, K.wh1_t]
        rcases e2 with e | e
        · rw [e, K.wh2_nx, e3]
        · rw [e]; exact e3
  intro n r hr
  obtain ⟨k, x, e, hx, q⟩ := H n r hr
  rw [sWhile_eq e hx]; exact q
/-! ### comprehensions -/
theorem wipeE_lenR (r : Ev) : ∀ vs : List Nat, (wipeE r vs).length = r.length
  | [] => rfl
  | v :: vs => by rw [wipeE, List.length_set, wipeE_lenR r vs]
theorem wipeE_getR (r : Ev) : ∀ (vs : List Nat) (i : Nat), i ∉ vs → (wipeE r vs)[i]? = r[i]?
  | [], _, _ => rfl
  | v :: vs, i, h => by
    rw [wipeE, List.getElem?_set_ne (fun e => h (by rw [e]; exact List.mem_cons_self)), wipeE_getR r vs i (fun k => h (List.mem_cons_of_mem _ k))]
theorem backE_lenR (r0 r : Ev) : ∀ vs : List Nat, (backE r0 r vs).length = r.length
  | [] => rfl
  | v :: vs => by rw [backE, List.length_set, backE_lenR r0 r vs]
theorem backE_inR (r0 r : Ev) (hl : r.length = r0.length) : ∀ (vs : List Nat) (i : Nat), (i ∈ vs ∨ r[i]? = r0[i]?) → (backE r0 r vs)[i]? = r0[i]?
  | [], i, h => h.elim (fun k => by cases k) id
  | v :: vs, i, h => by
    rw [backE]
    by_cases e : v = i
    · subst e
      by_cases hv : v < r.length
      · rw [List.getElem?_set_self (by rw [backE_lenR]; exact hv), List.getD_eq_getElem?_getD, List.getElem?_eq_getElem (by omega)]; rfl
      · rw [List.getElem?_eq_none (by rw [List.length_set, backE_lenR]; omega), List.getElem?_eq_none (by omega)]
    · rw [List.getElem?_set_ne e]
      refine backE_inR r0 r hl vs i ?_
      rcases h with h | h
      · rcases List.mem_cons.mp h with k | k
        · exact absurd k.symm e
        · exact .inl k
      · exact .inr h
theorem backE_wipeR {r0 r : Ev} {vs : List Nat} (h : wipeE r vs = wipeE r0 vs) : backE r0 r vs = r0 := by
  have hl : r.length = r0.length := by rw [← wipeE_lenR r vs, h, wipeE_lenR]
  refine List.ext_getElem? fun i => backE_inR r0 r hl vs i ?_
  by_cases k : i ∈ vs
  · exact .inl k
  · exact .inr (by rw [← wipeE_getR r vs i k, h, wipeE_getR r0 vs i k])
theorem wipe2R (r : Ev) (vs : List Nat) : wipeE (wipeE r vs) vs = wipeE r vs := by
  refine List.ext_getElem? fun i => ?_
  by_cases k : i ∈ vs
  · have H : ∀ (us : List Nat) (r : Ev), i ∈ us → (wipeE r us)[i]? = if i < r.length then some .no else none := by
      intro us
      induction us with
      | nil => intro r h; cases h
      | cons v us ih =>
        intro r h
        rw [wipeE]
        by_cases e : v = i
        · subst e
          by_cases hv : v < r.length
          · rw [List.getElem?_set_self (by rw [wipeE_lenR]; exact hv), if_pos hv]
          · rw [List.getElem?_eq_none (by rw [List.length_set, wipeE_lenR]; omega), if_neg hv]
        · rw [List.getElem?_set_ne e]
          rcases List.mem_cons.mp h with q | q
          · exact absurd q.symm e
          · exact ih r q
    rw [H vs _ k, H vs _ k, wipeE_lenR]
  · rw [wipeE_getR _ vs i k]
/-- a list comprehension over typed items: p which, h what -/
theorem lc_is {β : Type} {vs : List Nat} {t : Tg} {c : T} {e : E} {r0 : Ev} (g : β → D) (p : β → Bool) (h : β → D) (xs : List β) (hl : xs.length ≤ SZ)
    (hx : ∀ x ∈ xs, ∃ r1, t.put (g x) (wipeE r0 vs) = some r1 ∧ wipeE r1 vs = wipeE r0 vs ∧ c r1 = .ok (p x) r1 ∧ (p x = true → ∃ o, e r1 = .ok o r1 ∧ fzo r1 o = some (h x, r1))) :
    lcGo vs t c e r0 (xs.map g) [] r0 = .ok (.tm (.lst ((xs.filter p).map h))) r0 := by
  suffices H : ∀ (xs : List β) (acc : List D) (r : Ev), acc.length + xs.length ≤ SZ → wipeE r vs = wipeE r0 vs → (∀ x ∈ xs, ∃ r1, t.put (g x) (wipeE r0 vs) = some r1 ∧ wipeE r1 vs = wipeE r0 vs ∧ c r1 = .ok (p x) r1 ∧ (p x = true → ∃ o, e r1 = .ok o r1 ∧ fzo r1 o = some (h x, r1))) →
      lcGo vs t c e r0 (xs.map g) acc r = .ok (.tm (.lst (acc ++ (xs.filter p).map h))) r0 by
    rw [H xs [] r0 (by simpa using hl) rfl hx, List.nil_append]
  intro xs
  induction xs with
  | nil => intro acc r _ hw _; rw [List.map_nil, K.lcGo_nil, backE_wipeR hw, List.filter_nil, List.map_nil, List.append_nil]
  | cons x xs ih =>
    intro acc r hl hw hx
    obtain ⟨r1, e1, w1, e2, e3⟩ := hx x List.mem_cons_self
    have hl2 : acc.length + xs.length + 1 ≤ SZ := hl
    rw [List.map_cons, K.lcGo_cons, hw, e1, K.lc1_some, e2]
    cases q : p x with
    | false => rw [K.lc2_f, ih acc r1 (by omega) w1 fun y hy => hx y (List.mem_cons_of_mem _ hy), List.filter_cons_of_neg (by rw [q]; decide)]
    | true =>
      obtain ⟨o, e4, e5⟩ := e3 q
      rw [K.lc2_t, e4, K.lc3_ok, e5, K.lc4_some, if_pos (by omega), ih (acc ++ [h x]) r1 (by rw [List.length_append]; simp; omega) w1 fun y hy => hx y (List.mem_cons_of_mem _ hy), List.filter_cons_of_pos q, List.map_cons, List.append_assoc]; rfl
theorem dc_is {β : Type} {vs : List Nat} {t : Tg} {c : T} {k e : E} {r0 : Ev} (g : β → D) (p : β → Bool) (f : β → DK) (h : β → D) (xs : List β) (hl : xs.length ≤ SZ)
    (hx : ∀ x ∈ xs, ∃ r1, t.put (g x) (wipeE r0 vs) = some r1 ∧ wipeE r1 vs = wipeE r0 vs ∧ c r1 = .ok (p x) r1 ∧ (p x = true → ∃ o p2, k r1 = .ok o r1 ∧ e r1 = .ok p2 r1 ∧ (∃ d, rsv r1 o = some d ∧ keyD d = some (f x)) ∧ fzo r1 p2 = some (h x, r1))) :
    dcGo vs t c k e r0 (xs.map g) [] r0 = .ok (.tm (.dct ((xs.filter p).foldl (fun acc x => putD acc (f x) (h x)) []))) r0 := by
  have putD_len : ∀ (l : List (DK × D)) (a : DK) (d : D), (putD l a d).length ≤ l.length + 1 := by
    intro l a d
    induction l with
    | nil => exact Nat.le_refl _
    | cons q l ih =>
      obtain ⟨b, u⟩ := q
      unfold putD
      split
      · unfold setD; simp
      · simp; omega
  suffices H : ∀ (xs : List β) (acc : List (DK × D)) (r : Ev), acc.length + xs.length ≤ SZ → wipeE r vs = wipeE r0 vs → (∀ x ∈ xs, ∃ r1, t.put (g x) (wipeE r0 vs) = some r1 ∧ wipeE r1 vs = wipeE r0 vs ∧ c r1 = .ok (p x) r1 ∧ (p x = true → ∃ o p2, k r1 = .ok o r1 ∧ e r1 = .ok p2 r1 ∧ (∃ d, rsv r1 o = some d ∧ keyD d = some (f x)) ∧ fzo r1 p2 = some (h x, r1))) →
      dcGo vs t c k e r0 (xs.map g) acc r = .ok (.tm (.dct ((xs.filter p).foldl (fun acc x => putD acc (f x) (h x)) acc))) r0 by
    exact H xs [] r0 (by simpa using hl) rfl hx
  intro xs
  induction xs with
  | nil =>
    intro acc r _ hw _
    rw [List.map_nil, dcGo, backE_wipeR hw]; rfl
  | cons x xs ih =>
    intro acc r hl hw hx
    obtain ⟨r1, e1, w1, e2, e3⟩ := hx x List.mem_cons_self
    have hl2 : acc.length + xs.length + 1 ≤ SZ := hl
    rw [List.map_cons, dcGo, hw, e1]
    dsimp only
    rw [e2]
    cases q : p x with
    | false =>
      dsimp only
      rw [ih acc r1 (by omega) w1 fun y hy => hx y (List.mem_cons_of_mem _ hy), List.filter_cons_of_neg (by rw [q]; decide)]
    | true =>
      obtain ⟨o, p2, e4, e5, ⟨d, e6, e7⟩, e8⟩ := e3 q
      dsimp only
      rw [e4]; dsimp only
      rw [e5]; dsimp only
      rw [e6]; dsimp only
      rw [e7]; dsimp only
      rw [e8]; dsimp only
      rw [if_pos (by omega), ih _ r1 (by have := putD_len acc (f x) (h x); omega) w1 fun y hy => hx y (List.mem_cons_of_mem _ hy), List.filter_cons_of_pos q]; rfl
/-! ### dicts -/
theorem valD_set {κ : Type} [DecidableEq κ] (x y : κ) (e : D) : ∀ r : List (κ × D), valD (setD r x e) y = if x = y then (valD r y).map fun _ => e else valD r y
  | [] => by unfold setD valD; simp
  | (k, d) :: r => by
    have ih := valD_set x y e r
    unfold setD at ih ⊢
    rw [List.map_cons]
    by_cases h : k = x
    · subst h
      rw [if_pos rfl]
      unfold valD
      by_cases h2 : k = y
      · rw [if_pos h2, if_pos h2, if_pos h2]; rfl
      · rw [if_neg h2, if_neg h2, ih, if_neg h2]; simp [h2]
    · rw [if_neg (show ¬ ((k, d) : κ × D).1 = x from h)]
      unfold valD
      by_cases h2 : k = y
      · rw [if_pos h2, if_pos h2, if_neg (fun z => h (h2.trans z.symm))]
      · rw [if_neg h2, if_neg h2, ih]
theorem valD_put {κ : Type} [DecidableEq κ] (x y : κ) (e : D) : ∀ r : List (κ × D), valD (putD r x e) y = if x = y then some e else valD r y
  | [] => by unfold putD valD valD; by_cases h : x = y <;> simp [h]
  | (k, d) :: r => by
    unfold putD
    by_cases h : k = x
    · subst h
      rw [if_pos rfl]
      unfold valD
      by_cases h2 : k = y
      · rw [if_pos h2, if_pos h2]
      · rw [if_neg h2, if_neg h2, if_neg h2, valD_set, if_neg h2]
    · rw [if_neg h]
      unfold valD
      by_cases h2 : k = y
      · rw [if_pos h2, if_pos h2, if_neg (fun z => h (h2.trans z.symm))]
      · rw [if_neg h2, if_neg h2, valD_put x y e r]
theorem putD_new {κ : Type} [DecidableEq κ] (x : κ) (e : D) : ∀ r : List (κ × D), valD r x = none → putD r x e = r ++ [(x, e)]
  | [], _ => rfl
  | (k, d) :: r, h => by
    unfold valD at h
    by_cases h2 : k = x
    · rw [if_pos h2] at h; cases h
    · rw [if_neg h2] at h
      unfold putD
      rw [if_neg h2, putD_new x e r h]; rfl
end DL
end

section
set_option autoImplicit false
set_option linter.all false
/-! DLN: numbers and rows of numbers as data. -/
namespace DL
open PySem
abbrev nD (k : Nat) : D := .int (k : Int)
theorem upFrom_nD (n : Nat) : upFrom 0 n = (List.range n).map nD := upFrom0 n
theorem flat_nD (l : List Nat) : (l.map nD).all flatD = true := by
  rw [List.all_map]; exact List.all_eq_true.mpr fun _ _ => rfl
theorem any_nD (x : Nat) : ∀ l : List Nat, ((l.map nD).any fun z => eqD z (.int (x : Int))) = decide (x ∈ l)
  | [] => rfl
  | y :: l => by
    rw [List.map_cons, List.any_cons, any_nD x l]
    show (((y : Int) == (x : Int)) || _) = _
    by_cases h : y = x
    · subst h; simp
    · have h2 : ¬ (y : Int) = (x : Int) := by omega
      have h3 : ¬ x = y := fun z => h z.symm
      simp [h2, h3]
theorem gIn_nD (x : Nat) (l : List Nat) : gIn (.int (x : Int)) (.lst (l.map nD)) = some (.fz (.bl (decide (x ∈ l)))) := by
  show (if flatD (.int (x : Int)) && (l.map nD).all flatD then some (Op.fz (D.bl ((l.map nD).any fun z => eqD z (.int (x : Int))))) else _) = _
  rw [if_pos (by rw [flat_nD]; rfl), any_nD]
theorem gIn_nDt (x : Nat) (l : List Nat) : gIn (.int (x : Int)) (.tup (l.map nD)) = some (.fz (.bl (decide (x ∈ l)))) := by
  show (if flatD (.int (x : Int)) && (l.map nD).all flatD then some (Op.fz (D.bl ((l.map nD).any fun z => eqD z (.int (x : Int))))) else _) = _
  rw [if_pos (by rw [flat_nD]; rfl), any_nD]
theorem gNotIn_nD (x : Nat) (l : List Nat) : gNotIn (.int (x : Int)) (.lst (l.map nD)) = some (.fz (.bl (!decide (x ∈ l)))) := by
  show (if flatD (.int (x : Int)) && (l.map nD).all flatD then some (Op.fz (D.bl (!(l.map nD).any fun z => eqD z (.int (x : Int))))) else _) = _
  rw [if_pos (by rw [flat_nD]; rfl), any_nD]
theorem gNotIn_nDt (x : Nat) (l : List Nat) : gNotIn (.int (x : Int)) (.tup (l.map nD)) = some (.fz (.bl (!decide (x ∈ l)))) := by
  show (if flatD (.int (x : Int)) && (l.map nD).all flatD then some (Op.fz (D.bl (!(l.map nD).any fun z => eqD z (.int (x : Int))))) else _) = _
  rw [if_pos (by rw [flat_nD]; rfl), any_nD]
theorem gIn_p (x a b : Nat) : gIn (.int (x : Int)) (.tup [.int (a : Int), .int (b : Int)]) = some (.fz (.bl (decide (x = a ∨ x = b)))) := by
  have := gIn_nDt x [a, b]
  simpa using this
theorem gNotIn_p (x a b : Nat) : gNotIn (.int (x : Int)) (.tup [.int (a : Int), .int (b : Int)]) = some (.fz (.bl (!decide (x = a ∨ x = b)))) := by
  have := gNotIn_nDt x [a, b]
  simpa using this
theorem okDs_nD (n : Nat) : ∀ l : List Nat, okDs n (l.map nD) = true
  | [] => by unfold okDs; rfl
  | x :: l => by rw [List.map_cons, okDs, okDs_nD n l]; cases n <;> rfl
theorem okD_nD (n : Nat) (l : List Nat) : okD (n + 1) (.lst (l.map nD)) = true := by unfold okD; exact okDs_nD n l
theorem gNe_nil (l : List Nat) : gNe (.lst (l.map nD)) (.lst []) = some (.fz (.bl (!l.isEmpty))) := by
  show (if okD 64 (.lst (l.map nD)) && okD 64 (.lst []) then some (Op.fz (.bl (!eqD (.lst (l.map nD)) (.lst [])))) else none) = _
  rw [if_pos (by rw [okD_nD]; rfl)]
  cases l <;> rfl
theorem gEq_nil (l : List Nat) : gEq (.lst (l.map nD)) (.lst []) = some (.fz (.bl l.isEmpty)) := by
  show (if okD 64 (.lst (l.map nD)) && okD 64 (.lst []) then some (Op.fz (.bl (eqD (.lst (l.map nD)) (.lst [])))) else none) = _
  rw [if_pos (by rw [okD_nD]; rfl)]
  cases l <;> rfl
/-! ### ascending rows -/
def insN (x : Nat) : List Nat → List Nat
  | [] => [x]
  | y :: r => if x ≤ y then x :: y :: r else y :: insN x r
def srt : List Nat → List Nat
  | [] => []
  | x :: r => insN x (srt r)
theorem insN_perm (x : Nat) : ∀ r : List Nat, (insN x r).Perm (x :: r)
  | [] => .refl _
  | y :: r => by
    unfold insN
    split
    · exact .refl _
    · exact ((insN_perm x r).cons y).trans (.swap x y r)
theorem srt_perm : ∀ r : List Nat, (srt r).Perm r
  | [] => .refl _
  | x :: r => (insN_perm x _).trans ((srt_perm r).cons x)
theorem insN_sorted (x : Nat) : ∀ r : List Nat, r.Pairwise (· ≤ ·) → (insN x r).Pairwise (· ≤ ·)
  | [], _ => by unfold insN; exact List.pairwise_singleton _ _
  | y :: r, h => by
    unfold insN
    rw [List.pairwise_cons] at h
    split
    · rename_i k
      refine List.pairwise_cons.mpr ⟨fun z hz => ?_, List.pairwise_cons.mpr h⟩
      rcases List.mem_cons.mp hz with e | e
      · subst e; exact k
      · exact Nat.le_trans k (h.1 z e)
    · rename_i k
      refine List.pairwise_cons.mpr ⟨fun z hz => ?_, insN_sorted x r h.2⟩
      rcases List.mem_cons.mp ((insN_perm x r).mem_iff.mp hz) with e | e
      · subst e; omega
      · exact h.1 z e
theorem srt_sorted : ∀ r : List Nat, (srt r).Pairwise (· ≤ ·)
  | [] => .nil
  | x :: r => insN_sorted x _ (srt_sorted r)
theorem srt_unique {a b : List Nat} (p : a.Perm b) (h : a.Pairwise (· ≤ ·)) (k : b.Pairwise (· ≤ ·)) : a = b :=
  p.eq_of_pairwise (fun _ _ _ _ h1 h2 => Nat.le_antisymm h1 h2) h k
theorem srt_congr {a b : List Nat} (p : a.Perm b) : srt a = srt b := srt_unique ((srt_perm a).trans (p.trans (srt_perm b).symm)) (srt_sorted a) (srt_sorted b)
theorem mem_srt {x : Nat} {l : List Nat} : x ∈ srt l ↔ x ∈ l := (srt_perm l).mem_iff
theorem srt_len (l : List Nat) : (srt l).length = l.length := (srt_perm l).length_eq
theorem srt_nodup {l : List Nat} (h : l.Nodup) : (srt l).Nodup := (srt_perm l).symm.nodup h
theorem insI_nat (x : Nat) : ∀ r : List Nat, insI (x : Int) (r.map fun (k : Nat) => (k : Int)) = (insN x r).map fun (k : Nat) => (k : Int)
  | [] => rfl
  | y :: r => by
    rw [List.map_cons, insI, insN]
    by_cases h : x ≤ y
    · rw [if_pos h, if_pos (by omega)]; rfl
    · rw [if_neg h, if_neg (by omega), insI_nat x r]; rfl
theorem sortI_nat : ∀ r : List Nat, sortI (r.map fun (k : Nat) => (k : Int)) = (srt r).map fun (k : Nat) => (k : Int)
  | [] => rfl
  | x :: r => by rw [List.map_cons, sortI, sortI_nat r, insI_nat]; rfl
theorem map_nD (l : List Nat) : l.map nD = (l.map fun (k : Nat) => (k : Int)).map D.int := by rw [List.map_map]; rfl
theorem gSorted_nD (l : List Nat) : gSortedD [.lst (l.map nD)] = some (.tm (.lst ((srt l).map nD))) := by
  rw [map_nD, K.gSortedD_lst, sortI_nat, map_nD]
theorem keysI_nD : ∀ l : List Nat, keysI (l.map fun (k : Nat) => (Sum.inl (k : Int) : DK)) = some (l.map fun (k : Nat) => (k : Int))
  | [] => rfl
  | x :: l => by rw [List.map_cons, keysI, keysI_nD l]; rfl
/-- same members, none twice: the same row, in order -/
theorem srt_ext {a b : List Nat} (ha : a.Nodup) (hb : b.Nodup) (h : ∀ x, x ∈ a ↔ x ∈ b) : srt a = srt b := srt_congr ((List.perm_ext_iff_of_nodup ha hb).mpr h)
theorem len_ext {a b : List Nat} (ha : a.Nodup) (hb : b.Nodup) (h : ∀ x, x ∈ a ↔ x ∈ b) : a.length = b.length := ((List.perm_ext_iff_of_nodup ha hb).mpr h).length_eq
theorem nodup_bound {l : List Nat} {n : Nat} (h : l.Nodup) (hb : ∀ x ∈ l, x < n) : l.length ≤ n := by
  have := h.length_le_of_subset (l₂ := List.range n) fun x hx => List.mem_range.mpr (hb x hx)
  simpa using this
/-! ### dicts from numbers to numbers -/
def kN (p : Nat × Nat) : DK × D := (.inl (p.1 : Int), .int (p.2 : Int))
def dD (kvs : List (Nat × Nat)) : D := .dct (kvs.map kN)
theorem valD_kN (x : Nat) : ∀ l : List (Nat × Nat), valD (l.map kN) (.inl (x : Int)) = (l.lookup x).map nD
  | [] => rfl
  | (k, v) :: l => by
    rw [List.map_cons]
    show (if (Sum.inl (k : Int) : DK) = .inl (x : Int) then some (D.int (v : Int)) else valD (l.map kN) (.inl (x : Int))) = _
    rw [List.lookup_cons]
    by_cases h : k = x
    · subst h; simp
    · have h2 : ¬ (Sum.inl (k : Int) : DK) = .inl (x : Int) := fun z => h (by injection z with z; omega)
      rw [if_neg h2, valD_kN x l, show (x == k) = false from beq_eq_false_iff_ne.mpr fun z => h z.symm]
theorem lookup_isSome {x : Nat} : ∀ {l : List (Nat × Nat)}, (l.lookup x).isSome = decide (x ∈ l.map (·.1))
  | [] => rfl
  | (k, v) :: l => by
    rw [List.lookup_cons, List.map_cons]
    by_cases h : x = k
    · subst h; simp
    · rw [show (x == k) = false from beq_eq_false_iff_ne.mpr h]
      simp only [lookup_isSome (l := l), List.mem_cons, h, false_or]
theorem lookup_none {x : Nat} {l : List (Nat × Nat)} (h : x ∉ l.map (·.1)) : l.lookup x = none := by
  have := lookup_isSome (x := x) (l := l)
  rw [decide_eq_false h] at this
  exact Option.not_isSome_iff_eq_none.mp (by rw [this]; decide)
theorem lookup_of_mem {x v : Nat} : ∀ {l : List (Nat × Nat)}, (l.map (·.1)).Nodup → (x, v) ∈ l → l.lookup x = some v
  | (k, u) :: l, h, m => by
    rw [List.map_cons, List.nodup_cons] at h
    rw [List.lookup_cons]
    rcases List.mem_cons.mp m with e | e
    · cases e; simp
    · have : ¬ x = k := fun z => h.1 (List.mem_map.mpr ⟨(x, v), e, z⟩)
      rw [show (x == k) = false from beq_eq_false_iff_ne.mpr this]
      exact lookup_of_mem h.2 e
theorem mem_of_lk {x v : Nat} : ∀ {l : List (Nat × Nat)}, l.lookup x = some v → (x, v) ∈ l
  | (k, u) :: l, h => by
    rw [List.lookup_cons] at h
    by_cases e : x = k
    · subst e; simp at h; subst h; exact List.mem_cons_self
    · rw [show (x == k) = false from beq_eq_false_iff_ne.mpr e] at h
      exact List.mem_cons_of_mem _ (mem_of_lk h)
theorem gIn_dD (x : Nat) (l : List (Nat × Nat)) : gIn (.int (x : Int)) (dD l) = some (.fz (.bl (decide (x ∈ l.map (·.1))))) := by
  unfold dD; rw [K.gIn_dct, valD_kN, Option.isSome_map, lookup_isSome]
theorem gNotIn_dD (x : Nat) (l : List (Nat × Nat)) : gNotIn (.int (x : Int)) (dD l) = some (.fz (.bl (!decide (x ∈ l.map (·.1))))) := by
  unfold dD; rw [K.gNotIn_dct, valD_kN, Option.isSome_map, lookup_isSome]
theorem gIx_dD {x v : Nat} {l : List (Nat × Nat)} (h : l.lookup x = some v) : gIx (dD l) (.int (x : Int)) = some (.fz (.int (v : Int))) := by
  unfold dD; rw [K.gIx_dct, valD_kN, h]; rfl
theorem gSet_dD_new {x : Nat} (v : Nat) {l : List (Nat × Nat)} (h : x ∉ l.map (·.1)) (hl : l.length < SZ) : gSet (dD l) (.int (x : Int)) (.int (v : Int)) = some (dD (l ++ [(x, v)])) := by
  unfold dD; rw [K.gSet_dct _ (by simpa using hl), putD_new _ _ _ (by rw [valD_kN, lookup_none h]; rfl)]
  show some (D.dct _) = some (D.dct ((l ++ [(x, v)]).map kN))
  rw [List.map_append]; rfl
theorem gSorted_dD (l : List (Nat × Nat)) : gSortedD [dD l] = some (.tm (.lst ((srt (l.map (·.1))).map nD))) := by
  show (match keysI ((l.map kN).map (·.1)) with | some ns => some (Op.tm (.lst ((sortI ns).map .int))) | none => none) = _
  rw [List.map_map, show ((fun x : DK × D => x.1) ∘ kN) = (fun (k : Nat) => (Sum.inl (k : Int) : DK)) ∘ (fun p : Nat × Nat => p.1) from rfl, ← List.map_map, keysI_nD]
  show some (Op.tm (.lst ((sortI ((l.map (·.1)).map fun (k : Nat) => (k : Int))).map .int))) = _
  rw [sortI_nat, map_nD]
theorem gLen_dD (l : List (Nat × Nat)) : gLen [dD l] = some (.fz (.int (l.length : Int))) := by
  unfold dD; rw [K.gLen_dct, List.length_map]
theorem isD_dD (t : TyN) (l : List (Nat × Nat)) : isD t (dD l) = (match t with | .dict => true | _ => false) := by cases t <;> rfl
theorem isK_dDva (l : List (Nat × Nat)) : isK (some (.va (dD l))) = true := rfl
theorem isK_dDow (b : Bool) (l : List (Nat × Nat)) : isK (some (.ow b (dD l))) = true := rfl
theorem kd1_dD (r : Ev) (l : List (Nat × Nat)) : K.kd1 r (some (.va (dD l))) = .ok ((l.map (·.1)).map nD) r := by
  show IOut.ok ((l.map kN).map fun p => kD p.1) r = _
  rw [List.map_map, List.map_map]; rfl
theorem dD_one (a b : Nat) : (.dct [(.inl (a : Int), .int (b : Int))] : D) = dD [(a, b)] := rfl
theorem gPopAt0 (x : D) (xs : List D) : gPopAt (.lst (x :: xs)) [.int 0] = some (.lst xs, .fz x) := by
  unfold gPopAt
  exact if_pos (by decide)
end DL
namespace DL
open PySem
theorem blsD_map : ∀ bs : List Bool, blsD (bs.map D.bl) = some bs
  | [] => rfl
  | b :: bs => by rw [List.map_cons, blsD, blsD_map bs]
theorem gAll_bl (bs : List Bool) : gAll [.lst (bs.map D.bl)] = some (.fz (.bl (bs.all id))) := by
  unfold gAll; simp only [blsD_map]
theorem gAny_bl (bs : List Bool) : gAny [.lst (bs.map D.bl)] = some (.fz (.bl (bs.any id))) := by
  unfold gAny; simp only [blsD_map]
theorem gAll_map {β : Type} (p : β → Bool) (xs : List β) : gAll [.lst (xs.map fun x => D.bl (p x))] = some (.fz (.bl (xs.all p))) := by
  have := gAll_bl (xs.map p)
  rw [List.map_map, List.all_map] at this
  exact this
end DL
end

section
/-! Printed by gen.py: what the defs of the text make of data. -/
set_option autoImplicit false
set_option linter.all false
set_option maxRecDepth 100000
noncomputable section
namespace TT
open DL PySem
def w__law_pool_1 : S :=
  sSet 1 (eBin gMod (ePure gInt (aCons (eBin gAdd (eBin gMul (eName 1) (eC (.int 31))) (eName 2)) (aNil))) (eC (.int 1000003)))
def b__law_pool : S :=
  sSeq (sSet 1 (eC (.int 7)))
  (sSeq (sFor (.one 2) (iSeq (eSlice (eName 0) (pNo) (pSome (eC (.int 63)))))
  (w__law_pool_1))
  (sRet (eLst (aCons (ePure gList (aCons (eName 0) (aNil))) (aCons (eC (.int 0)) (aCons (eC (.int 0)) (aCons (eC (.int 0)) (aCons (eName 1) (aNil)))))))))
def d__law_pool : FD := fnD 3 [false] b__law_pool
def w__law_spread_1 : S :=
  sSeq (sSet 1 (eBin gMod (ePure gInt (aCons (eBin gAdd (eBin gAdd (eBin gMul (eName 1) (eC (.int 48271))) (eC (.int 12345))) (eName 3)) (aNil))) (eC (.int 2147483647))))
  (sSet 2 (eBin gAdd (eBin gMul (eName 2) (eC (.int 2147483647))) (eName 1)))
def b__law_spread : S :=
  sSeq (sSet 1 (eBin gMod (ePure gInt (aCons (eName 0) (aNil))) (eC (.int 2147483647))))
  (sSeq (sSet 2 (eC (.int 1)))
  (sSeq (sFor (.one 3) (iRng1 (eC (.int 4)))
  (w__law_spread_1))
  (sRet (eName 2))))
def d__law_spread : FD := fnD 4 [false] b__law_spread
def b__law_draw : S :=
  sSeq (sIf (tAnd (tBl (eBin gLe (eBin gIx (eName 0) (eC (.int 2))) (eC (.int 0)))) (tBl (eBin gLt (eBin gIx (eName 0) (eC (.int 1))) (ePure gLen (aCons (eBin gIx (eName 0) (eC (.int 0))) (aNil))))))
  (sSeq (sSet 2 (eBin gIx (eBin gIx (eName 0) (eC (.int 0))) (eBin gIx (eName 0) (eC (.int 1)))))
  (sSeq (sSub 0 gSet (eC (.int 1)) (eBin gAdd (eBin gIx (eName 0) (eC (.int 1))) (eC (.int 1))))
  (sSeq (sSub 0 gSet (eC (.int 2)) (eName 2))
  (sIf (tBl (eBin gLt (eName 2) (eC (.int 1000000000000000000))))
  (sSub 0 gSet (eC (.int 2)) (eCall [false] d__law_spread (aCons (eName 2) (aNil))))
  (sNext)))))
  (sNext))
  (sSeq (sSub 0 gSet (eC (.int 3)) (eBin gAdd (eBin gIx (eName 0) (eC (.int 3))) (eC (.int 1))))
  (sSeq (sIf (tBl (eBin gLe (eBin gIx (eName 0) (eC (.int 2))) (eC (.int 0))))
  (sSeq (sSet 3 (eBin gMod (ePure gInt (aCons (eBin gAdd (eBin gAdd (eBin gMul (eBin gIx (eName 0) (eC (.int 4))) (eC (.int 48271))) (eBin gMul (eBin gIx (eName 0) (eC (.int 3))) (eC (.int 69621)))) (eC (.int 1))) (aNil))) (eC (.int 2147483647))))
  (sSeq (sSet 3 (eBin gMod (ePure gInt (aCons (eBin gAdd (eBin gMul (eName 3) (eC (.int 16807))) (eBin gIx (eName 0) (eC (.int 3)))) (aNil))) (eC (.int 2147483629))))
  (sRet (eBin gMod (eBin gFdiv (eName 3) (eC (.int 5))) (eName 1)))))
  (sNext))
  (sSeq (sSet 4 (eBin gMod (ePure gInt (aCons (eBin gIx (eName 0) (eC (.int 2))) (aNil))) (eName 1)))
  (sSeq (sSub 0 gSet (eC (.int 2)) (eBin gFdiv (eBin gIx (eName 0) (eC (.int 2))) (eName 1)))
  (sRet (eName 4))))))
def d__law_draw : FD := fnD 5 [true, false] b__law_draw
def w__law_backhaul_1 : S :=
  sIf (tBl (eBin gEq (eCall [true, false] d__law_draw (aCons (eName 0) (aCons (eName 4) (aNil)))) (eC (.int 0))))
  (sExpr (eMut 3 gAppend (aCons (eTup (aCons (eName 5) (aCons (eName 6) (aCons (eBin gMul (eC (.int 10)) (eCall [true, false] d__law_draw (aCons (eName 0) (aCons (eC (.int 6)) (aNil))))) (aNil))))) (aNil))))
  (sNext)
def w__law_backhaul_2 : S :=
  sFor (.one 6) (iRng2 (eBin gAdd (eName 5) (eC (.int 1))) (eName 2))
  (w__law_backhaul_1)
def b__law_backhaul : S :=
  sSeq (sSet 2 (eBin gAdd (eC (.int 1)) (eCall [true, false] d__law_draw (aCons (eName 0) (aCons (eBin gIx (eLst (aCons (eName 1) (aCons (eName 1) (aCons (eName 1) (aCons (eC (.int 20)) (aNil)))))) (eCall [true, false] d__law_draw (aCons (eName 0) (aCons (eC (.int 4)) (aNil))))) (aNil))))))
  (sSeq (sSet 3 (eLst (aNil)))
  (sSeq (sSet 4 (eBin gAdd (eBin gAdd (eC (.int 2)) (eCall [true, false] d__law_draw (aCons (eName 0) (aCons (eC (.int 3)) (aNil))))) (eBin gMul (eC (.int 6)) (ePure gInt (aCons (eBin gGt (eName 2) (eC (.int 10))) (aNil))))))
  (sSeq (sFor (.one 5) (iRng1 (eName 2))
  (w__law_backhaul_2))
  (sRet (eTup (aCons (eName 2) (aCons (ePure gTuple (aCons (eName 3) (aNil))) (aNil))))))))
def d__law_backhaul : FD := fnD 7 [true, false] b__law_backhaul
def w__law_part_1 : S :=
  sIf (tAnd (tBl (eBin gIn (eBin gIx (eName 4) (eC (.int 0))) (eName 2))) (tBl (eBin gNotIn (eBin gIx (eName 4) (eC (.int 1))) (eName 2))))
  (sExpr (eMut 2 gAppend (aCons (eBin gIx (eName 4) (eC (.int 1))) (aNil))))
  (sIf (tAnd (tBl (eBin gIn (eBin gIx (eName 4) (eC (.int 1))) (eName 2))) (tBl (eBin gNotIn (eBin gIx (eName 4) (eC (.int 0))) (eName 2))))
  (sExpr (eMut 2 gAppend (aCons (eBin gIx (eName 4) (eC (.int 0))) (aNil))))
  (sNext))
def w__law_part_2 : S :=
  sFor (.one 4) (iSeq (eName 0))
  (w__law_part_1)
def b__law_part : S :=
  sSeq (sSet 2 (eLst (aCons (eName 1) (aNil))))
  (sSeq (sFor (.one 3) (iRng1 (eBin gAdd (ePure gLen (aCons (eName 0) (aNil))) (eC (.int 1))))
  (w__law_part_2))
  (sRet (ePure gSortedD (aCons (eName 2) (aNil)))))
def d__law_part : FD := fnD 5 [false, false] b__law_part
def w__law_same_1 (self : FD) : S :=
  sIf (tNot (tTru (eCall [false, false] self (aCons (eBin gIx (eName 0) (eName 2)) (aCons (eBin gIx (eName 1) (eName 2)) (aNil))))))
  (sRet (eC (.bl false)))
  (sNext)
def b__law_same (self : FD) : S :=
  sSeq (sIf (tOr (tTru (eIsi .tuple (eName 1))) (tTru (eIsi .list (eName 1))))
  (sSeq (sIf (tOr (tBl (eBin gNe (eIsi .tuple (eName 1)) (eIsi .tuple (eName 0)))) (tBl (eBin gNe (eIsi .list (eName 1)) (eIsi .list (eName 0)))))
  (sRet (eC (.bl false)))
  (sNext))
  (sSeq (sIf (tBl (eBin gNe (ePure gLen (aCons (eName 0) (aNil))) (ePure gLen (aCons (eName 1) (aNil)))))
  (sRet (eC (.bl false)))
  (sNext))
  (sSeq (sFor (.one 2) (iRng1 (ePure gLen (aCons (eName 1) (aNil))))
  ((w__law_same_1 self)))
  (sRet (eC (.bl true))))))
  (sNext))
  (sSeq (sIf (tBl (eBin gIs (eName 1) (eC .non)))
  (sRet (eBin gIs (eName 0) (eC .non)))
  (sNext))
  (sSeq (sIf (tTru (eIsi .bool (eName 1)))
  (sRet (eAnd (eIsi .bool (eName 0)) (eBin gEq (eName 0) (eName 1))))
  (sNext))
  (sSeq (sIf (tTru (eIsi .int (eName 1)))
  (sRet (eAnd (eIsi .int (eName 0)) (eAnd (eNotE (eIsi .bool (eName 0))) (eBin gEq (eName 0) (eName 1)))))
  (sNext))
  (sRet (eAnd (eIsi .str (eName 0)) (eBin gEq (eName 0) (eName 1)))))))
def d__law_same : Nat → FD
  | 0 => fun _ => .bad
  | n + 1 => fnD 3 [false, false] (b__law_same (d__law_same n))
def w_next_nodes_1 : S :=
  sIf (tAnd (tOr (tBl (eBin gIs (eName 2) (eC .non))) (tBl (eBin gGe (eName 6) (eName 2)))) (tBl (eBin gIn (eName 1) (eTup (aCons (eName 4) (aCons (eName 5) (aNil)))))))
  (sExpr (eMut 3 gAppend (aCons (eBin gSub (eBin gAdd (eName 4) (eName 5)) (eName 1)) (aNil))))
  (sNext)
def b_next_nodes : S :=
  sSeq (sSet 3 (eLst (aNil)))
  (sSeq (sFor (.many [4, 5, 6]) (iSeq (eName 0))
  (w_next_nodes_1))
  (sRet (ePure gSortedD (aCons (eName 3) (aNil)))))
def d_next_nodes : FD := fnD 7 [false, false, false] b_next_nodes
def w_hops_1 : S :=
  sIf (tBl (eBin gNotIn (eName 6) (eName 3)))
  (sSeq (sSub 3 gSet (eName 6) (eBin gAdd (eBin gIx (eName 3) (eName 5)) (eC (.int 1))))
  (sExpr (eMut 4 gAppend (aCons (eName 6) (aNil)))))
  (sNext)
def t_hops_1 : T :=
  tBl (eBin gNe (eName 4) (eLst (aNil)))
def w_hops_2 : S :=
  sSeq (sSet 5 (eMut 4 gPopAt (aCons (eC (.int 0)) (aNil))))
  (sFor (.one 6) (iSeq (eCall [false, false, false] d_next_nodes (aCons (eBin gIx (eName 0) (eC (.int 1))) (aCons (eName 5) (aCons (eName 2) (aNil))))))
  (w_hops_1))
def b_hops : S :=
  sSeq (sSet 3 (eDisp1 (eName 1) (eC (.int 0))))
  (sSeq (sSet 4 (eLst (aCons (eName 1) (aNil))))
  (sSeq (sWhile (t_hops_1)
  (w_hops_2))
  (sRet (eName 3))))
def d_hops : FD := fnD 7 [false, false, false] b_hops
def w_ways_from_1 : S :=
  sIf (tBl (eBin gNotIn (eName 6) (eName 3)))
  (sSeq (sSub 3 gSet (eName 6) (eName 5))
  (sExpr (eMut 4 gAppend (aCons (eName 6) (aNil)))))
  (sNext)
def t_ways_from_1 : T :=
  tBl (eBin gNe (eName 4) (eLst (aNil)))
def w_ways_from_2 : S :=
  sSeq (sSet 5 (eMut 4 gPopAt (aCons (eC (.int 0)) (aNil))))
  (sFor (.one 6) (iSeq (eCall [false, false, false] d_next_nodes (aCons (eName 0) (aCons (eName 5) (aCons (eName 2) (aNil))))))
  (w_ways_from_1))
def b_ways_from : S :=
  sSeq (sSet 3 (eDisp1 (eName 1) (eName 1)))
  (sSeq (sSet 4 (eLst (aCons (eName 1) (aNil))))
  (sSeq (sWhile (t_ways_from_1)
  (w_ways_from_2))
  (sRet (eName 3))))
def d_ways_from : FD := fnD 7 [false, false, false] b_ways_from
def t_single_points_1 : T :=
  tBl (eBin gNotIn (eName 4) (eSlice (eName 6) (pNo) (pSome (eC (.int 2)))))
def w_single_points_1 : S :=
  sIf (tBl (eBin gNe (eName 4) (eName 1)))
  (sSeq (sSet 5 (eLc [6] (.one 6) (iSeq (eBin gIx (eName 0) (eC (.int 1)))) (t_single_points_1) (eName 6)))
  (sIf (tBl (eBin gLt (ePure gLen (aCons (eCall [false, false, false] d_ways_from (aCons (eName 5) (aCons (eName 1) (aCons (eC .non) (aNil))))) (aNil))) (eBin gSub (ePure gLen (aCons (eName 2) (aNil))) (eC (.int 1)))))
  (sExpr (eMut 3 gAppend (aCons (eName 4) (aNil))))
  (sNext)))
  (sNext)
def b_single_points : S :=
  sSeq (sSet 2 (eCall [false, false, false] d_ways_from (aCons (eBin gIx (eName 0) (eC (.int 1))) (aCons (eName 1) (aCons (eC .non) (aNil))))))
  (sSeq (sSet 3 (eLst (aNil)))
  (sSeq (sFor (.one 4) (iSeq (ePure gSortedD (aCons (eName 2) (aNil))))
  (w_single_points_1))
  (sRet (eName 3))))
def d_single_points : FD := fnD 7 [false, false] b_single_points
def x__law_equal_1 (self : FD) : E :=
  eCall [false, false] self (aCons (eBin gIx (eName 0) (eName 2)) (aCons (eBin gIx (eName 1) (eName 2)) (aNil)))
def x__law_equal_2 (self : FD) : E :=
  eAnd (eBin gIn (eName 3) (eName 0)) (eCall [false, false] self (aCons (eBin gIx (eName 0) (eName 3)) (aCons (eBin gIx (eName 1) (eName 3)) (aNil))))
def b__law_equal (self : FD) : S :=
  sSeq (sIf (tOr (tBl (eBin gNe (eIsi .bool (eName 0)) (eIsi .bool (eName 1)))) (tOr (tBl (eBin gNe (eIsi .int (eName 0)) (eIsi .int (eName 1)))) (tBl (eBin gNe (eIsi .str (eName 0)) (eIsi .str (eName 1))))))
  (sRet (eC (.bl false)))
  (sNext))
  (sSeq (sIf (tOr (tBl (eBin gNe (eIsi .list (eName 0)) (eIsi .list (eName 1)))) (tOr (tBl (eBin gNe (eIsi .tuple (eName 0)) (eIsi .tuple (eName 1)))) (tBl (eBin gNe (eIsi .dict (eName 0)) (eIsi .dict (eName 1))))))
  (sRet (eC (.bl false)))
  (sNext))
  (sSeq (sIf (tOr (tTru (eIsi .list (eName 1))) (tTru (eIsi .tuple (eName 1))))
  (sRet (eAnd (eBin gEq (ePure gLen (aCons (eName 0) (aNil))) (ePure gLen (aCons (eName 1) (aNil)))) (ePure gAll (aCons (eLc [2] (.one 2) (iRng1 (ePure gLen (aCons (eName 1) (aNil)))) (tYes) ((x__law_equal_1 self))) (aNil)))))
  (sNext))
  (sSeq (sIf (tTru (eIsi .dict (eName 1)))
  (sRet (eAnd (eBin gEq (ePure gLen (aCons (eName 0) (aNil))) (ePure gLen (aCons (eName 1) (aNil)))) (ePure gAll (aCons (eQ (eLcN [3] (.one 3) 1 (tYes) ((x__law_equal_2 self)))) (aNil)))))
  (sNext))
  (sRet (eBin gIs (eBin gEq (eName 0) (eName 1)) (eC (.bl true)))))))
def d__law_equal : Nat → FD
  | 0 => fun _ => .bad
  | n + 1 => fnD 4 [false, false] (b__law_equal (d__law_equal n))
def t_law_1 : T :=
  tBl (eBin gGe (eBin gIx (eName 17) (eC (.int 2))) (eName 5))
def x_law_1 : E :=
  eSlice (eName 17) (pNo) (pSome (eC (.int 2)))
def t_law_2 : T :=
  tBl (eBin gEq (eBin gIx (eName 7) (eName 10)) (eName 8))
def w_law_1 : S :=
  sIf (tBl (eBin gIn (eName 10) (eName 11)))
  (sSeq (sSet 12 (eBin gSub (eBin gAdd (eBin gIx (eName 11) (eC (.int 0))) (eBin gIx (eName 11) (eC (.int 1)))) (eName 10)))
  (sIf (tBl (eBin gNotIn (eName 12) (eName 7)))
  (sSub 7 gSet (eName 12) (eBin gAdd (eName 8) (eC (.int 1))))
  (sNext)))
  (sNext)
def w_law_2 : S :=
  sFor (.one 11) (iSeq (eName 6))
  (w_law_1)
def w_law_3 : S :=
  sSeq (sSet 9 (eQ (eLcN [10] (.one 10) 7 (t_law_2) (eName 10))))
  (sFor (.one 10) (iSeq (eName 9))
  (w_law_2))
def t_law_3 : T :=
  tNot (tTru (eCall [false, false] (d__law_same 40) (aCons (eBin gIx (eName 13) (eName 10)) (aCons (eBin gIx (eName 7) (eName 10)) (aNil)))))
def w_law_4 : S :=
  sSeq (sSet 5 (eBin gSub (eBin gMul (eC (.int 10)) (eCall [true, false] d__law_draw (aCons (eName 1) (aCons (eC (.int 7)) (aNil))))) (eBin gMul (eC (.int 5)) (eCall [true, false] d__law_draw (aCons (eName 1) (aCons (eC (.int 2)) (aNil)))))))
  (sSeq (sSet 6 (eLc [17] (.one 17) (iSeq (eBin gIx (eName 2) (eC (.int 1)))) (t_law_1) (x_law_1)))
  (sSeq (sSet 7 (eDisp1 (eName 3) (eC (.int 0))))
  (sSeq (sFor (.one 8) (iRng1 (eBin gIx (eName 2) (eC (.int 0))))
  (w_law_3))
  (sSeq (sSet 13 (eCall [false, false, false] d_hops (aCons (eName 2) (aCons (eName 3) (aCons (eName 5) (aNil))))))
  (sSeq (sIf (tOr (tNot (tTru (eIsi .dict (eName 13)))) (tNot (tTru (eCall [false, false] (d__law_equal 40) (aCons (ePure gSortedD (aCons (eName 13) (aNil))) (aCons (ePure gSortedD (aCons (eName 7) (aNil))) (aNil)))))))
  (sRet (eC (.bl false)))
  (sNext))
  (sIf (tBl (eBin gGt (ePure gLen (aCons (eQ (eLcN [10] (.one 10) 7 (t_law_3) (eName 10))) (aNil))) (eC (.int 0))))
  (sRet (eC (.bl false)))
  (sNext)))))))
def x_law_2 : E :=
  eSlice (eName 17) (pNo) (pSome (eC (.int 2)))
def t_law_4 : T :=
  tBl (eBin gNotIn (eName 10) (eSlice (eName 17) (pNo) (pSome (eC (.int 2)))))
def x_law_3 : E :=
  eSlice (eName 17) (pNo) (pSome (eC (.int 2)))
def w_law_5 : S :=
  sIf (tBl (eBin gNe (eName 10) (eName 3)))
  (sSeq (sSet 16 (eCall [false, false] d__law_part (aCons (eLc [17] (.one 17) (iSeq (eBin gIx (eName 2) (eC (.int 1)))) (t_law_4) (x_law_3)) (aCons (eName 3) (aNil)))))
  (sIf (tBl (eBin gLt (ePure gLen (aCons (eName 16) (aNil))) (eBin gSub (ePure gLen (aCons (eName 14) (aNil))) (eC (.int 1)))))
  (sExpr (eMut 15 gAppend (aCons (eName 10) (aNil))))
  (sNext)))
  (sNext)
def b_law : S :=
  sSeq (sSet 1 (eCall [false] d__law_pool (aCons (eName 0) (aNil))))
  (sSeq (sSet 2 (eCall [true, false] d__law_backhaul (aCons (eName 1) (aCons (eC (.int 8)) (aNil)))))
  (sSeq (sSet 3 (eCall [true, false] d__law_draw (aCons (eName 1) (aCons (eBin gIx (eName 2) (eC (.int 0))) (aNil)))))
  (sSeq (sFor (.one 4) (iRng1 (eC (.int 3)))
  (w_law_4))
  (sSeq (sSet 14 (eCall [false, false] d__law_part (aCons (eLc [17] (.one 17) (iSeq (eBin gIx (eName 2) (eC (.int 1)))) (tYes) (x_law_2)) (aCons (eName 3) (aNil)))))
  (sSeq (sSet 15 (eLst (aNil)))
  (sSeq (sFor (.one 10) (iSeq (eName 14))
  (w_law_5))
  (sRet (eCall [false, false] (d__law_same 40) (aCons (eCall [false, false] d_single_points (aCons (eName 2) (aCons (eName 3) (aNil)))) (aCons (eName 15) (aNil)))))))))))
def d_law : FD := fnD 18 [false] b_law
end TT
end
end

section
set_option autoImplicit false
set_option linter.all false
/-! GR: ways over pairs of nodes. No program in sight. -/
namespace GR
abbrev Es := List (Nat × Nat)
def Adj (E : Es) (u v : Nat) : Prop := (u, v) ∈ E ∨ (v, u) ∈ E
theorem Adj.symm {E : Es} {u v : Nat} (h : Adj E u v) : Adj E v u := h.elim .inr .inl
inductive Way (E : Es) (s : Nat) : Nat → Nat → Prop
  | zero : Way E s 0 s
  | step {k u v : Nat} : Way E s k u → Adj E u v → Way E s (k + 1) v
def Reach (E : Es) (s v : Nat) : Prop := ∃ k, Way E s k v
theorem Reach.refl {E : Es} {s : Nat} : Reach E s s := ⟨0, .zero⟩
theorem Reach.step {E : Es} {s u v : Nat} (h : Reach E s u) (a : Adj E u v) : Reach E s v := let ⟨k, w⟩ := h; ⟨k + 1, w.step a⟩
theorem Way.trans {E : Es} {s u : Nat} {k : Nat} (w : Way E s k u) : ∀ {j v : Nat}, Way E u j v → Way E s (k + j) v
  | _, _, .zero => w
  | _, _, .step w2 a => (w.trans w2).step a
theorem Reach.trans {E : Es} {s u v : Nat} (a : Reach E s u) (b : Reach E u v) : Reach E s v := let ⟨_, x⟩ := a; let ⟨_, y⟩ := b; ⟨_, x.trans y⟩
theorem Way.rev {E : Es} {s : Nat} : ∀ {k v : Nat}, Way E s k v → Reach E v s
  | _, _, .zero => .refl
  | _, _, .step w a => (Reach.step .refl a.symm).trans w.rev
theorem Reach.symm {E : Es} {s v : Nat} (h : Reach E s v) : Reach E v s := let ⟨_, w⟩ := h; w.rev
def Closed (E : Es) (P : Nat → Prop) : Prop := ∀ u v, P u → Adj E u v → P v
theorem Closed.reach {E : Es} {P : Nat → Prop} (c : Closed E P) {s : Nat} (h : P s) {v : Nat} (r : Reach E s v) : P v := by
  obtain ⟨k, w⟩ := r
  induction w with
  | zero => exact h
  | step w a ih => exact c _ _ ih a
theorem Reach.lt {E : Es} {n s v : Nat} (hE : ∀ p ∈ E, p.1 < n ∧ p.2 < n) (hs : s < n) (h : Reach E s v) : v < n :=
  Closed.reach (P := (· < n)) (fun u v _ a => a.elim (fun k => (hE _ k).2) fun k => (hE _ k).1) hs h
theorem Way.mono {E F : Es} (h : ∀ u v, Adj E u v → Adj F u v) {s : Nat} : ∀ {k v : Nat}, Way E s k v → Way F s k v
  | _, _, .zero => .zero
  | _, _, .step w a => (w.mono h).step (h _ _ a)
theorem Reach.mono {E F : Es} (h : ∀ u v, Adj E u v → Adj F u v) {s v : Nat} (r : Reach E s v) : Reach F s v := let ⟨k, w⟩ := r; ⟨k, w.mono h⟩
/-- the least number of links -/
def Dist (E : Es) (s v k : Nat) : Prop := Way E s k v ∧ ∀ j, Way E s j v → k ≤ j
theorem Dist.uniq {E : Es} {s v k j : Nat} (a : Dist E s v k) (b : Dist E s v j) : k = j := Nat.le_antisymm (a.2 j b.1) (b.2 k a.1)
theorem Dist.prev {E : Es} {s v k : Nat} (h : Dist E s v (k + 1)) : ∃ u, Dist E s u k := by
  obtain ⟨w, m⟩ := h
  cases w with
  | step w a => exact ⟨_, w, fun j wj => by have := m _ (wj.step a); omega⟩
/-- nodes of all lesser distances -/
theorem Dist.row {E : Es} {s : Nat} : ∀ {k v : Nat}, Dist E s v k → ∃ l : List Nat, l.Nodup ∧ l.length = k + 1 ∧ ∀ u ∈ l, ∃ j, j ≤ k ∧ Dist E s u j
  | 0, v, h => ⟨[v], by simp, rfl, fun u hu => by simp at hu; subst hu; exact ⟨0, Nat.le_refl _, h⟩⟩
  | k + 1, v, h => by
    obtain ⟨u, hu⟩ := h.prev
    obtain ⟨l, h1, h2, h3⟩ := Dist.row hu
    refine ⟨v :: l, List.nodup_cons.mpr ⟨fun m => ?_, h1⟩, by simp [h2], fun x hx => ?_⟩
    · obtain ⟨j, hj, d⟩ := h3 v m
      have := d.uniq h; omega
    · rcases List.mem_cons.mp hx with e | e
      · subst e; exact ⟨k + 1, Nat.le_refl _, h⟩
      · obtain ⟨j, hj, d⟩ := h3 x e
        exact ⟨j, by omega, d⟩
theorem Dist.lt {E : Es} {n s v k : Nat} (hE : ∀ p ∈ E, p.1 < n ∧ p.2 < n) (hs : s < n) (h : Dist E s v k) : k < n := by
  obtain ⟨l, h1, h2, h3⟩ := h.row
  have := DL.nodup_bound h1 (n := n) fun u hu => by
    obtain ⟨j, _, d⟩ := h3 u hu
    exact Reach.lt hE hs ⟨j, d.1⟩
  omega

/-! ### a visit of neighbors: new ones are kept with a value, and wait -/
abbrev KQ := List (Nat × Nat) × List Nat
def visit (x : Nat) (s : KQ) (w : Nat) : KQ := if w ∈ s.1.map (·.1) then s else (s.1 ++ [(w, x)], s.2 ++ [w])
theorem visit_all (x : Nat) : ∀ (ws : List Nat) (s : KQ), (s.1.map (·.1)).Nodup → ∃ news : List Nat, ws.foldl (visit x) s = (s.1 ++ news.map fun w => (w, x), s.2 ++ news) ∧ news.Nodup ∧ ∀ w, w ∈ news ↔ w ∈ ws ∧ w ∉ s.1.map (·.1)
  | [], s, _ => ⟨[], by simp, .nil, fun w => by simp⟩
  | w :: ws, s, h => by
    rw [List.foldl_cons]
    by_cases k : w ∈ s.1.map (·.1)
    · rw [show visit x s w = s from if_pos k]
      obtain ⟨news, e, h1, h2⟩ := visit_all x ws s h
      refine ⟨news, e, h1, fun v => ?_⟩
      rw [h2 v, List.mem_cons]
      refine ⟨fun ⟨a, b⟩ => ⟨.inr a, b⟩, fun ⟨a, b⟩ => ⟨?_, b⟩⟩
      rcases a with a | a
      · subst a; exact absurd k b
      · exact a
    · rw [show visit x s w = (s.1 ++ [(w, x)], s.2 ++ [w]) from if_neg k]
      obtain ⟨news, e, h1, h2⟩ := visit_all x ws (s.1 ++ [(w, x)], s.2 ++ [w]) (by
        show (List.map (·.1) (s.1 ++ [(w, x)])).Nodup
        rw [List.map_append, List.nodup_append]
        exact ⟨h, by simp, fun a ha b hb => by simp at hb; subst hb; exact fun z => k (z ▸ ha)⟩)
      have hw : w ∉ news := fun m => ((h2 w).mp m).2 (by simp)
      refine ⟨w :: news, by rw [e]; simp, List.nodup_cons.mpr ⟨hw, h1⟩, fun v => ?_⟩
      rw [List.mem_cons, h2 v, List.mem_cons]
      show _ ∨ (_ ∧ v ∉ List.map (·.1) (s.1 ++ [(w, x)])) ↔ _
      rw [List.map_append, List.mem_append]
      constructor
      · rintro (a | ⟨a, b⟩)
        · subst a; exact ⟨.inl rfl, k⟩
        · exact ⟨.inr a, fun z => b (.inl z)⟩
      · rintro ⟨a | a, b⟩
        · exact .inl a
        · by_cases q : v = w
          · exact .inl q
          · exact .inr ⟨a, fun z => z.elim b fun z => q (by simpa using z)⟩

/-! ### search in breadth, with the numbers of links -/
structure BfsI (E : Es) (n s : Nat) (kvs : List (Nat × Nat)) (qs : List (Nat × Nat)) : Prop where
  nd : (kvs.map (·.1)).Nodup
  root : (s, 0) ∈ kvs
  sub : ∀ p ∈ qs, p ∈ kvs
  ways : ∀ p ∈ kvs, Way E s p.2 p.1
  done : ∀ p ∈ kvs, p ∉ qs → ∀ w, Adj E p.1 w → ∃ k, (w, k) ∈ kvs ∧ k ≤ p.2 + 1
  ord : qs.Pairwise fun a b => a.2 ≤ b.2
  near : ∀ p ∈ kvs, ∀ u ∈ qs, p.2 ≤ u.2 + 1
  qnd : (qs.map (·.1)).Nodup
theorem BfsI.start {E : Es} {n s : Nat} : BfsI E n s [(s, 0)] [(s, 0)] where
  nd := by simp
  root := by simp
  sub := fun p h => h
  ways := fun p h => by simp at h; subst h; exact .zero
  done := fun p h k => absurd h k
  ord := by simp
  near := fun p h u k => by simp at h k; subst h k; exact Nat.zero_le _
  qnd := by simp
theorem BfsI.next {E : Es} {n s : Nat} {kvs qs : List (Nat × Nat)} {v f : Nat} (I : BfsI E n s kvs ((v, f) :: qs)) {news : List Nat} (h1 : news.Nodup) (h2 : ∀ w, w ∈ news ↔ Adj E v w ∧ w ∉ kvs.map (·.1)) :
    BfsI E n s (kvs ++ news.map fun w => (w, f + 1)) (qs ++ news.map fun w => (w, f + 1)) := by
  have hv := I.sub (v, f) List.mem_cons_self
  have hord := List.pairwise_cons.mp I.ord
  have disj : ∀ w ∈ news, w ∉ kvs.map (·.1) := fun w hw => ((h2 w).mp hw).2
  have mm : (news.map fun w => (w, f + 1)).map (·.1) = news := by rw [List.map_map]; exact List.map_id'' (fun _ => rfl) _
  refine ⟨?_, List.mem_append_left _ I.root, fun p hp => ?_, fun p hp => ?_, fun p hp hq w a => ?_, ?_, fun p hp u hu => ?_, ?_⟩
  · rw [List.map_append, mm, List.nodup_append]
    exact ⟨I.nd, h1, fun a ha b hb z => disj b hb (z ▸ ha)⟩
  · rcases List.mem_append.mp hp with h | h
    · exact List.mem_append_left _ (I.sub p (List.mem_cons_of_mem _ h))
    · exact List.mem_append_right _ h
  · rcases List.mem_append.mp hp with h | h
    · exact I.ways p h
    · obtain ⟨w, hw, rfl⟩ := List.mem_map.mp h
      exact (I.ways _ hv).step ((h2 w).mp hw).1
  · rw [List.mem_append, not_or] at hq
    rcases List.mem_append.mp hp with h | h
    · by_cases e : p = (v, f)
      · subst e
        by_cases k : w ∈ kvs.map (·.1)
        · obtain ⟨q, hq, e⟩ := List.mem_map.mp k
          refine ⟨q.2, List.mem_append_left _ (by rw [← e]; exact hq), I.near q hq _ List.mem_cons_self⟩
        · exact ⟨f + 1, List.mem_append_right _ (List.mem_map.mpr ⟨w, (h2 w).mpr ⟨a, k⟩, rfl⟩), Nat.le_refl _⟩
      · obtain ⟨k, h3, h4⟩ := I.done p h (fun z => (List.mem_cons.mp z).elim e hq.1) w a
        exact ⟨k, List.mem_append_left _ h3, h4⟩
    · exact absurd h hq.2
  · rw [List.pairwise_append]
    refine ⟨hord.2, ?_, fun a ha b hb => ?_⟩
    · rw [List.pairwise_map]
      exact List.Pairwise.imp (R := fun _ _ => True) (fun _ => Nat.le_refl _) (List.pairwise_of_forall (fun _ _ => trivial))
    · obtain ⟨w, _, rfl⟩ := List.mem_map.mp hb
      exact I.near a (I.sub a (List.mem_cons_of_mem _ ha)) _ List.mem_cons_self
  · have hle : f ≤ u.2 := by
      rcases List.mem_append.mp hu with k | k
      · exact hord.1 u k
      · obtain ⟨w, _, rfl⟩ := List.mem_map.mp k; exact Nat.le_succ f
    rcases List.mem_append.mp hp with h | h
    · exact Nat.le_trans (I.near p h _ List.mem_cons_self) (by show f + 1 ≤ _; omega)
    · obtain ⟨w, _, rfl⟩ := List.mem_map.mp h
      show f + 1 ≤ _; omega
  · rw [List.map_append, mm, List.nodup_append]
    have q := I.qnd
    rw [List.map_cons, List.nodup_cons] at q
    refine ⟨q.2, h1, fun a ha b hb z => disj b hb ?_⟩
    obtain ⟨p, hp, e⟩ := List.mem_map.mp ha
    exact List.mem_map.mpr ⟨p, I.sub p (List.mem_cons_of_mem _ hp), e.trans z⟩
theorem BfsI.dist {E : Es} {n s : Nat} {kvs : List (Nat × Nat)} (I : BfsI E n s kvs []) : (∀ p ∈ kvs, Dist E s p.1 p.2) ∧ ∀ v, Reach E s v → ∃ k, (v, k) ∈ kvs := by
  have key : ∀ k v, Way E s k v → ∃ j, (v, j) ∈ kvs ∧ j ≤ k := by
    intro k v w
    induction w with
    | zero => exact ⟨0, I.root, Nat.le_refl _⟩
    | step w a ih =>
      obtain ⟨j, hj, hl⟩ := ih
      obtain ⟨i, hi, h2⟩ := I.done _ hj (by simp) _ a
      exact ⟨i, hi, by have : i ≤ j + 1 := h2; omega⟩
  refine ⟨fun p hp => ⟨I.ways p hp, fun j w => ?_⟩, fun v ⟨k, w⟩ => let ⟨j, h, _⟩ := key k v w; ⟨j, h⟩⟩
  obtain ⟨i, hi, hl⟩ := key j p.1 w
  have e1 := DL.lookup_of_mem I.nd hi
  have e2 := DL.lookup_of_mem I.nd (show (p.1, p.2) ∈ kvs from hp)
  rw [e1] at e2; cases e2; exact hl

/-! ### search in breadth, the node before each -/
structure WfI (E : Es) (s : Nat) (kvs : List (Nat × Nat)) (q : List Nat) : Prop where
  nd : (kvs.map (·.1)).Nodup
  root : s ∈ kvs.map (·.1)
  sub : ∀ v ∈ q, v ∈ kvs.map (·.1)
  ways : ∀ v ∈ kvs.map (·.1), Reach E s v
  done : ∀ v ∈ kvs.map (·.1), v ∉ q → ∀ w, Adj E v w → w ∈ kvs.map (·.1)
theorem WfI.start {E : Es} {s : Nat} : WfI E s [(s, s)] [s] where
  nd := by simp
  root := by simp
  sub := fun p h => h
  ways := fun p h => by simp at h; subst h; exact .refl
  done := fun p h k => absurd h k
theorem WfI.next {E : Es} {s : Nat} {kvs : List (Nat × Nat)} {q : List Nat} {v x : Nat} (I : WfI E s kvs (v :: q)) {news : List Nat} (h1 : news.Nodup) (h2 : ∀ w, w ∈ news ↔ Adj E v w ∧ w ∉ kvs.map (·.1)) :
    WfI E s (kvs ++ news.map fun w => (w, x)) (q ++ news) := by
  have mm : (news.map fun w => (w, x)).map (·.1) = news := by rw [List.map_map]; exact List.map_id'' (fun _ => rfl) _
  have hv := I.sub v List.mem_cons_self
  refine ⟨?_, ?_, fun p hp => ?_, fun p hp => ?_, fun p hp hq w a => ?_⟩
  · rw [List.map_append, mm, List.nodup_append]
    exact ⟨I.nd, h1, fun a ha b hb z => ((h2 b).mp hb).2 (z ▸ ha)⟩
  · rw [List.map_append]; exact List.mem_append_left _ I.root
  · rw [List.map_append, mm]
    rcases List.mem_append.mp hp with h | h
    · exact List.mem_append_left _ (I.sub p (List.mem_cons_of_mem _ h))
    · exact List.mem_append_right _ h
  · rw [List.map_append, mm] at hp
    rcases List.mem_append.mp hp with h | h
    · exact I.ways p h
    · exact (I.ways v hv).step ((h2 p).mp h).1
  · rw [List.map_append, mm] at hp ⊢
    rw [List.mem_append, not_or] at hq
    rcases List.mem_append.mp hp with h | h
    · by_cases e : p = v
      · subst e
        by_cases k : w ∈ kvs.map (·.1)
        · exact List.mem_append_left _ k
        · exact List.mem_append_right _ ((h2 w).mpr ⟨a, k⟩)
      · exact List.mem_append_left _ (I.done p h (fun z => (List.mem_cons.mp z).elim e hq.1) w a)
    · exact absurd h hq.2
theorem WfI.end {E : Es} {s : Nat} {kvs : List (Nat × Nat)} (I : WfI E s kvs []) (v : Nat) : v ∈ kvs.map (·.1) ↔ Reach E s v :=
  ⟨I.ways v, fun r => Closed.reach (P := (· ∈ kvs.map (·.1))) (fun u w h a => I.done u h (by simp) w a) I.root r⟩

/-! ### passes over the pairs -/
def addP (l : List Nat) (p : Nat × Nat) : List Nat := if p.1 ∈ l ∧ p.2 ∉ l then l ++ [p.2] else if p.2 ∈ l ∧ p.1 ∉ l then l ++ [p.1] else l
def pass (E : Es) (l : List Nat) : List Nat := E.foldl addP l
theorem addP_sub (l : List Nat) (p : Nat × Nat) : ∀ x ∈ l, x ∈ addP l p := fun x h => by
  unfold addP; split
  · exact List.mem_append_left _ h
  · split
    · exact List.mem_append_left _ h
    · exact h
theorem addP_both (l : List Nat) (p : Nat × Nat) : p.1 ∈ addP l p ↔ p.2 ∈ addP l p := by
  unfold addP; split
  · rename_i h; simp [h.1]
  · split
    · rename_i h; simp [h.1]
    · rename_i h k
      by_cases a : p.1 ∈ l <;> by_cases b : p.2 ∈ l
      · simp [a, b]
      · exact absurd ⟨a, b⟩ h
      · exact absurd ⟨b, a⟩ k
      · simp [a, b]
theorem pass_sub : ∀ (E : Es) (l : List Nat), ∀ x ∈ l, x ∈ pass E l
  | [], _, _, h => h
  | p :: E, l, x, h => pass_sub E (addP l p) x (addP_sub l p x h)
theorem addP_len (l : List Nat) (p : Nat × Nat) : addP l p = l ∨ l.length < (addP l p).length := by
  unfold addP; split
  · exact .inr (by simp)
  · split
    · exact .inr (by simp)
    · exact .inl rfl
theorem pass_len : ∀ (E : Es) (l : List Nat), l.length ≤ (pass E l).length
  | [], _ => Nat.le_refl _
  | p :: E, l => by
    have := pass_len E (addP l p)
    show l.length ≤ (pass E (addP l p)).length
    rcases addP_len l p with h | h
    · rw [h] at this ⊢; exact this
    · omega
theorem pass_fix : ∀ (E : Es) (l : List Nat), (pass E l).length = l.length → pass E l = l ∧ ∀ p ∈ E, p.1 ∈ l ↔ p.2 ∈ l
  | [], _, _ => ⟨rfl, fun p h => by cases h⟩
  | p :: E, l, h => by
    have h : (pass E (addP l p)).length = l.length := h
    have h2 := pass_len E (addP l p)
    have e : addP l p = l := by
      rcases addP_len l p with k | k
      · exact k
      · omega
    rw [e] at h
    obtain ⟨h3, h4⟩ := pass_fix E l h
    refine ⟨by show pass E (addP l p) = l; rw [e, h3], fun q hq => ?_⟩
    rcases List.mem_cons.mp hq with z | z
    · subst z; have := addP_both l q; rw [e] at this; exact this
    · exact h4 q z
/-- how many pairs lie within -/
def within (E : Es) (l : List Nat) : Nat := E.countP fun p => decide (p.1 ∈ l) && decide (p.2 ∈ l)
theorem within_mono (E : Es) {l m : List Nat} (h : ∀ x ∈ l, x ∈ m) : within E l ≤ within E m :=
  List.countP_mono_left fun p _ k => by
    rw [Bool.and_eq_true, decide_eq_true_eq, decide_eq_true_eq] at k ⊢
    exact ⟨h _ k.1, h _ k.2⟩
theorem within_pass : ∀ (E F : Es) (l : List Nat), (∀ p ∈ E, p ∈ F) → (pass E l).length = l.length ∨ within F l < within F (pass E l)
  | [], _, _, _ => .inl rfl
  | p :: E, F, l, h => by
    have hp := h p List.mem_cons_self
    rcases addP_len l p with k | k
    · have := within_pass E F l fun q hq => h q (List.mem_cons_of_mem _ hq)
      show (pass E (addP l p)).length = _ ∨ _ < within F (pass E (addP l p))
      rw [k]; exact this
    · refine .inr ?_
      show _ < within F (pass E (addP l p))
      refine Nat.lt_of_lt_of_le ?_ (within_mono F (pass_sub E (addP l p)))
      have hl : ¬ (p.1 ∈ l ∧ p.2 ∈ l) := fun ⟨a, b⟩ => by
        unfold addP at k
        rw [if_neg (fun z => z.2 b), if_neg (fun z => z.2 a)] at k
        omega
      have ha : p.1 ∈ addP l p ∧ p.2 ∈ addP l p := by
        have hb := addP_both l p
        unfold addP at k hb ⊢
        by_cases c : p.1 ∈ l ∧ p.2 ∉ l
        · rw [if_pos c]; simp [c.1]
        · rw [if_neg c] at k ⊢
          by_cases d : p.2 ∈ l ∧ p.1 ∉ l
          · rw [if_pos d]; simp [d.1]
          · rw [if_neg d] at k; omega
      have gen : ∀ (F : Es), p ∈ F → within F l < within F (addP l p) := by
        intro F
        induction F with
        | nil => intro h; cases h
        | cons q F ih =>
          intro hm
          unfold within at ih ⊢
          rw [List.countP_cons, List.countP_cons]
          have mono := within_mono F (addP_sub l p)
          unfold within at mono
          have m1 : (if (decide (q.1 ∈ l) && decide (q.2 ∈ l)) = true then 1 else 0) ≤ (if (decide (q.1 ∈ addP l p) && decide (q.2 ∈ addP l p)) = true then 1 else 0) := by
            split
            · rename_i z
              rw [Bool.and_eq_true, decide_eq_true_eq, decide_eq_true_eq] at z
              rw [if_pos (by rw [Bool.and_eq_true, decide_eq_true_eq, decide_eq_true_eq]; exact ⟨addP_sub l p _ z.1, addP_sub l p _ z.2⟩)]
              exact Nat.le_refl _
            · exact Nat.zero_le _
          rcases List.mem_cons.mp hm with e | e
          · subst e
            rw [if_neg (by rw [Bool.and_eq_true, decide_eq_true_eq, decide_eq_true_eq]; exact hl), if_pos (by rw [Bool.and_eq_true, decide_eq_true_eq, decide_eq_true_eq]; exact ha)]
            omega
          · have := ih e
            omega
      exact gen F hp
theorem within_le (E : Es) (l : List Nat) : within E l ≤ E.length := List.countP_le_length
def passes (E : Es) : Nat → List Nat → List Nat
  | 0, l => l
  | t + 1, l => passes E t (pass E l)
theorem passes_fix {E : Es} {l : List Nat} (h : pass E l = l) : ∀ t, passes E t l = l
  | 0 => rfl
  | t + 1 => by rw [passes, h, passes_fix h t]
theorem passes_closed (E : Es) : ∀ (t : Nat) (l : List Nat), E.length < t + within E l → ∀ p ∈ E, p.1 ∈ passes E t l ↔ p.2 ∈ passes E t l
  | 0, l, h => by have := within_le E l; omega
  | t + 1, l, h => by
    rcases within_pass E E l (fun _ h => h) with k | k
    · obtain ⟨e, c⟩ := pass_fix E l k
      rw [passes, e, passes_fix e]; exact c
    · rw [passes]; exact passes_closed E t (pass E l) (by omega)
theorem addP_nd {l : List Nat} (h : l.Nodup) (p : Nat × Nat) : (addP l p).Nodup := by
  have H : ∀ x, x ∉ l → (l ++ [x]).Nodup := fun x hx => List.nodup_append.mpr ⟨h, by simp, fun a ha b hb z => by simp at hb; subst hb; exact hx (z ▸ ha)⟩
  unfold addP; split
  · rename_i k; exact H _ k.2
  · split
    · rename_i k; exact H _ k.2
    · exact h
theorem pass_nd : ∀ (E : Es) {l : List Nat}, l.Nodup → (pass E l).Nodup
  | [], _, h => h
  | p :: E, _, h => pass_nd E (addP_nd h p)
theorem pass_reach {E : Es} {s : Nat} : ∀ (F : Es) {l : List Nat}, (∀ p ∈ F, p ∈ E) → (∀ x ∈ l, Reach E s x) → ∀ x ∈ pass F l, Reach E s x
  | [], _, _, h => h
  | p :: F, l, hF, h => pass_reach F (fun q hq => hF q (List.mem_cons_of_mem _ hq)) fun x hx => by
    have hp := hF p List.mem_cons_self
    unfold addP at hx
    split at hx
    · rename_i k
      rcases List.mem_append.mp hx with z | z
      · exact h x z
      · simp at z; subst z; exact (h _ k.1).step (.inl hp)
    · split at hx
      · rename_i k
        rcases List.mem_append.mp hx with z | z
        · exact h x z
        · simp at z; subst z; exact (h _ k.1).step (.inr hp)
      · exact h x hx
theorem passes_nd (E : Es) : ∀ (t : Nat) {l : List Nat}, l.Nodup → (passes E t l).Nodup
  | 0, _, h => h
  | t + 1, _, h => passes_nd E t (pass_nd E h)
theorem passes_reach {E : Es} {s : Nat} : ∀ (t : Nat) {l : List Nat}, (∀ x ∈ l, Reach E s x) → ∀ x ∈ passes E t l, Reach E s x
  | 0, _, h => h
  | t + 1, _, h => passes_reach t (pass_reach E (fun _ h => h) h)
theorem passes_sub (E : Es) : ∀ (t : Nat) (l : List Nat), ∀ x ∈ l, x ∈ passes E t l
  | 0, _, _, h => h
  | t + 1, l, x, h => passes_sub E t (pass E l) x (pass_sub E l x h)
/-- the law's part: exactly what can be reached -/
theorem part_mem (E : Es) (s v : Nat) : v ∈ passes E (E.length + 1) [s] ↔ Reach E s v := by
  refine ⟨passes_reach _ (fun x hx => by simp at hx; subst hx; exact .refl) v, fun r => ?_⟩
  have c := passes_closed E (E.length + 1) [s] (by omega)
  refine Closed.reach (P := (· ∈ passes E (E.length + 1) [s])) (fun u w h a => ?_) (passes_sub E _ _ s (by simp)) r
  rcases a with a | a
  · exact (c _ a).mp h
  · exact (c _ a).mpr h
theorem part_nd (E : Es) (s : Nat) : (passes E (E.length + 1) [s]).Nodup := passes_nd E _ (by simp)
end GR
end

section
set_option autoImplicit false
set_option linter.all false
set_option maxRecDepth 20000
local macro_rules | `(tactic| push_cast [$ls,*]) => `(tactic| simp only [$ls,*, DL.K.eBin_K, DL.K.bin1_ok, DL.K.bin1_err, DL.K.opt_some, DL.K.bin2_ok, DL.K.bin2_err, DL.K.bin3_some, DL.K.eUn_K, DL.K.un1_ok, DL.K.un1_err, DL.K.un2_some, DL.K.aCons_K, DL.K.cons1_ok, DL.K.cons1_err, DL.K.cons2_ok, DL.K.cons2_err, DL.K.aNil_K, DL.K.ePure_K, DL.K.pure1_ok, DL.K.pure1_err, DL.K.pure2_some, DL.K.eTup_K, DL.K.tup1_ok, DL.K.tup1_err, DL.K.tup2_some, DL.K.eLst_K, DL.K.lst1_ok, DL.K.lst1_err, DL.K.lst2_some, DL.K.eName_K, DL.K.name1_va, DL.K.name1_ow, DL.K.eC_K, DL.K.rsv_fz, DL.K.rsv_tm, DL.K.rsv_br, DL.K.rsv1_ow, DL.K.rsv1_va, DL.K.rsvs_nil, DL.K.rsvs_cons, DL.K.rsvs1_some, DL.K.rsvs2_some, DL.K.fzo_fz, DL.K.fzo_tm, DL.K.fzo_br, DL.K.fzo1_ow, DL.K.fzo1_va, DL.K.fzos_nil, DL.K.fzos_cons, DL.K.fzos1_some, DL.K.fzos2_some, DL.K.tTru_K, DL.K.tru1_ok, DL.K.tru1_err, DL.K.tru2_some, DL.K.tru3_some, DL.K.tBl_K, DL.K.tbl1_ok, DL.K.tbl1_err, DL.K.tAnd_K, DL.K.and1_t, DL.K.and1_f, DL.K.and1_err, DL.K.tOr_K, DL.K.or1_t, DL.K.or1_f, DL.K.or1_err, DL.K.tNot_K, DL.K.not1_ok, DL.K.not1_err, DL.K.tYes_K, DL.K.eAnd_K, DL.K.eand1_t, DL.K.eand1_f, DL.K.eand1_err, DL.K.eOr_K, DL.K.eor1_t, DL.K.eor1_f, DL.K.eor1_err, DL.K.eNot_K, DL.K.eNotE_K, DL.K.enot1_ok, DL.K.enot1_err, DL.K.eIf_K, DL.K.eif1_t, DL.K.eif1_f, DL.K.eif1_err, DL.K.eCh_K, DL.K.ch1_ok, DL.K.ch1_err, DL.K.chLast_K, DL.K.chLink_K, DL.K.link1_ok, DL.K.link2_some, DL.K.link3_t, DL.K.link3_f, DL.K.eCall_K, DL.K.call1_ok, DL.K.call1_err, DL.K.call2_nil, DL.K.call2_one, DL.K.call3_ok0, DL.K.call3_err0, DL.K.call3_ok1, DL.K.call3_err1, DL.K.put1_ow, DL.K.isOw_ow, DL.K.iosOf_nil, DL.K.iosOf_f, DL.K.iosOf_t, DL.K.argsOf_nil, DL.K.argsOf_f, DL.K.args1_some, DL.K.args2_some, DL.K.argsOf_t, DL.K.args3_ow, DL.K.sSeq_K, DL.K.seq1_nx, DL.K.seq1_ret, DL.K.seq1_brk, DL.K.seq1_cnt, DL.K.seq1_err, DL.K.sNext_K, DL.K.sBreak_K, DL.K.sCont_K, DL.K.sRetN_K, DL.K.sRaise_K, DL.K.sExpr_K, DL.K.expr1_ok, DL.K.expr1_err, DL.K.sSet_K, DL.K.set1_fz, DL.K.set1_tm, DL.K.set1_br, DL.K.set2_some, DL.K.set1_err, DL.K.sUnp_K, DL.K.unp1_ok, DL.K.unp1_err, DL.K.unp2_some, DL.K.nxo_some, DL.K.put_one, DL.K.put_tup, DL.K.put_ktp, DL.K.setAll_nil, DL.K.setAll_cons, DL.K.sPar_K, DL.K.par1_ok, DL.K.par1_err, DL.K.par2_ok, DL.K.par2_err, DL.K.par3_some, DL.K.keep2_fz, DL.K.keep2_tm, DL.K.sAug_K, DL.K.aug0_va, DL.K.aug1_ok, DL.K.aug1_err, DL.K.aug2_some, DL.K.aug3_some, DL.K.sRet_K, DL.K.ret1_fz, DL.K.ret1_tm, DL.K.ret1_br, DL.K.ret1_err, DL.K.ret2_ow, DL.K.ret2_va, DL.K.sIf_K, DL.K.if1_t, DL.K.if1_f, DL.K.if1_err, DL.K.sSub_K, DL.K.sub1_ok, DL.K.sub1_err, DL.K.sub2_ok, DL.K.sub2_err, DL.K.sub3_some, DL.K.sub4_some, DL.K.sub5_some, DL.K.eMut_K, DL.K.isL_lst, DL.K.mut0_ok, DL.K.mut0_err, DL.K.mut1_some, DL.K.mut2_some, DL.K.mut3_some, DL.K.sFor_K, DL.K.for1_ok, DL.K.for1_err, DL.K.forGo_nil, DL.K.forGo_cons, DL.K.go0_some, DL.K.go1_nx, DL.K.go1_cnt, DL.K.go1_brk, DL.K.go1_ret, DL.K.go1_err, DL.K.whN_K, DL.K.wh1_t, DL.K.wh1_f, DL.K.wh2_nx, DL.K.wh2_cnt, DL.K.wh2_brk, DL.K.wh2_ret, DL.K.wh2_err, DL.K.iSeq_K, DL.K.iseq1_ok, DL.K.iseq1_err, DL.K.iseq2_lst, DL.K.iseq2_tup, DL.K.iseq2_kls, DL.K.iseq2_ktp, DL.K.iRng1_K, DL.K.rg1_ok, DL.K.rg1_err, DL.K.iRng2_K, DL.K.rg2_ok, DL.K.rg2_err, DL.K.rg3_ok, DL.K.rg3_err, DL.K.pNo_K, DL.K.pSome_K, DL.K.psome1_ok, DL.K.eSlice_K, DL.K.sl1_ok, DL.K.sl1_err, DL.K.sl2_ok, DL.K.sl3_ok, DL.K.eLc_K, DL.K.lc0_err, DL.K.lc0_ok, DL.K.lcGo_nil, DL.K.lcGo_cons, DL.K.lc1_some, DL.K.lc2_t, DL.K.lc2_f, DL.K.lc3_ok, DL.K.lc4_some, DL.K.wipeE_nil, DL.K.wipeE_cons, DL.K.backE_nil, DL.K.backE_cons, DL.K.backSl_some, DL.K.isOw_va, DL.K.isOw_no, DL.K.eNewK_K, DL.K.eNewT_K, DL.K.eDisp1_K, DL.K.disp1_ok, DL.K.disp2_ok, DL.K.disp4_i, DL.K.gDictOf_K, DL.K.gRev_lst, DL.K.eLstR1_K, DL.K.lstr1_ok, DL.K.iZip_K, DL.K.zip1_ok, DL.K.zip2_ok, DL.K.zip3_some, DL.K.zip3b_some, DL.K.zip4_lstlst, DL.K.zip4_lstkls, DL.K.zip4_klslst, DL.K.zip4_klskls, DL.K.zip4_tuptup, DL.K.zip4_tupktp, DL.K.zip4_ktptup, DL.K.zip4_ktpktp, DL.K.iEnum_K, DL.K.enum1_ok, DL.K.enum2_lst, DL.K.enum2_kls, DL.K.eLcN_K, DL.K.lcn2_some, DL.K.iKeysD_K, DL.K.kd1_va, DL.K.isK_vaint, DL.K.isK_owint, DL.K.isK_vastr, DL.K.isK_owstr, DL.K.isK_vatup, DL.K.isK_owtup, DL.K.isK_valst, DL.K.isK_owlst, DL.K.isK_vakls, DL.K.isK_owkls, DL.K.isK_vaktp, DL.K.isK_owktp, DL.K.isK_vabl, DL.K.isK_owbl, DL.K.isK_vanon, DL.K.isK_vadct, DL.K.isK_owdct, DL.K.gLen_dct, DL.K.gIn_dct, DL.K.gNotIn_dct, DL.K.gIx_dct, DL.K.ixd_some, DL.K.gSet_dct, DL.K.sTry_K, DL.K.try1_nx, DL.K.try1_ret, DL.K.try1_brk, DL.K.try1_cnt, DL.K.try1_err, DL.K.try3_t, DL.K.try3_f, DL.K.try2_nx, DL.K.try2_ret, DL.K.try2_brk, DL.K.try2_cnt, DL.K.fnD_K, DL.K.fn1_ret, DL.K.fn1_nx, DL.K.fn1_err, DL.K.fn3_some, DL.K.fn4_some, DL.K.iosAt_nil, DL.K.iosAt_f, DL.K.iosAt_t, DL.K.ios1_ow, DL.K.argSl_f, DL.K.argSl_t, DL.K.argSl_nil, DL.K.gAdd_i, DL.K.gAdd_t, DL.K.gAdd_l, DL.K.gSub_i, DL.K.gIAdd_i, DL.K.gLt_i, DL.K.gLe_i, DL.K.gGt_i, DL.K.gGe_i, DL.K.gIx_lst, DL.K.gLen_lst, DL.K.gList_lst, DL.K.gIx_kls, DL.K.gLen_kls, DL.K.gList_kls, DL.K.gIx_tup, DL.K.gLen_tup, DL.K.gList_tup, DL.K.gIx_ktp, DL.K.gLen_ktp, DL.K.gList_ktp, DL.K.ix1_some, DL.K.ix2_some, DL.K.gSlice_lst, DL.K.gSlice_kls, DL.K.gSlice_tup, DL.K.gTuple_tup, DL.K.gTuple_ktp, DL.K.gTuple_lst, DL.K.gTuple_kls, DL.K.gInt_i, DL.K.gAbs_i, DL.K.gNeg_i, DL.K.gGcd_i, DL.K.gMax_i, DL.K.gMin_i, DL.K.gIs_nn, DL.K.gIsNot_nn, DL.K.gIs_bb, DL.K.gIs_intn, DL.K.gIsNot_intn, DL.K.gIs_strn, DL.K.gIsNot_strn, DL.K.gIs_tupn, DL.K.gIsNot_tupn, DL.K.gIs_lstn, DL.K.gIsNot_lstn, DL.K.gIs_klsn, DL.K.gIsNot_klsn, DL.K.gIs_ktpn, DL.K.gIsNot_ktpn, DL.K.gIs_bln, DL.K.gIsNot_bln, DL.K.gIs_dctn, DL.K.gIsNot_dctn, DL.K.gIs_dttn, DL.K.gIsNot_dttn, DL.K.gEq_ii, DL.K.gNe_ii, DL.K.gNe_bb, DL.K.gEq_bb, DL.K.dtr_bl, DL.K.dtr_int, DL.K.dtr_non, DL.K.dtr_lst, DL.K.dtr_kls, DL.K.dtr_tup, DL.K.dtr_ktp, DL.K.eIsi_K, DL.K.gSet_lst, DL.K.set5_some, DL.K.gAppend_K, DL.K.small0, DL.K.less0, DL.K.small1, DL.K.less1, DL.K.small2, DL.K.less2, DL.K.small3, DL.K.less3, DL.K.small4, DL.K.less4, DL.K.small5, DL.K.less5, DL.K.small6, DL.K.less6, DL.K.small7, DL.K.less7, DL.K.small8, DL.K.less8, DL.K.small9, DL.K.less9, DL.K.small10, DL.K.less10, DL.K.small11, DL.K.less11, DL.K.small12, DL.K.less12, DL.K.small13, DL.K.less13, DL.K.small14, DL.K.less14, DL.K.small15, DL.K.less15, DL.K.small16, DL.K.less16, DL.K.isD_bool_non, DL.K.isD_bool_bl, DL.K.isD_bool_int, DL.K.isD_bool_str, DL.K.isD_bool_tup, DL.K.isD_bool_lst, DL.K.isD_bool_kls, DL.K.isD_bool_ktp, DL.K.isD_bool_dct, DL.K.isD_bool_dtt, DL.K.isD_int_non, DL.K.isD_int_bl, DL.K.isD_int_int, DL.K.isD_int_str, DL.K.isD_int_tup, DL.K.isD_int_lst, DL.K.isD_int_kls, DL.K.isD_int_ktp, DL.K.isD_int_dct, DL.K.isD_int_dtt, DL.K.isD_str_non, DL.K.isD_str_bl, DL.K.isD_str_int, DL.K.isD_str_str, DL.K.isD_str_tup, DL.K.isD_str_lst, DL.K.isD_str_kls, DL.K.isD_str_ktp, DL.K.isD_str_dct, DL.K.isD_str_dtt, DL.K.isD_list_non, DL.K.isD_list_bl, DL.K.isD_list_int, DL.K.isD_list_str, DL.K.isD_list_tup, DL.K.isD_list_lst, DL.K.isD_list_kls, DL.K.isD_list_ktp, DL.K.isD_list_dct, DL.K.isD_list_dtt, DL.K.isD_tuple_non, DL.K.isD_tuple_bl, DL.K.isD_tuple_int, DL.K.isD_tuple_str, DL.K.isD_tuple_tup, DL.K.isD_tuple_lst, DL.K.isD_tuple_kls, DL.K.isD_tuple_ktp, DL.K.isD_tuple_dct, DL.K.isD_tuple_dtt, DL.K.isD_dict_non, DL.K.isD_dict_bl, DL.K.isD_dict_int, DL.K.isD_dict_str, DL.K.isD_dict_tup, DL.K.isD_dict_lst, DL.K.isD_dict_kls, DL.K.isD_dict_ktp, DL.K.isD_dict_dct, DL.K.isD_dict_dtt, DL.K.eQ_K, DL.K.q1_lst, DL.K.frzAll_cons, DL.K.frzAll_nil, DL.K.frzS_va, DL.K.frzS_ow, DL.K.frzS_no, DL.K.gMul_r, DL.K.gMul_l, DL.K.gMod_i, DL.K.gFdiv_s, DL.ixI, List.getElem?_cons_zero, List.getElem?_cons_succ, List.set_cons_zero, List.set_cons_succ, List.length_cons, List.length_nil, List.cons_append, List.nil_append, List.replicate_succ, List.replicate_zero, List.map_cons, List.map_nil, List.all_cons, List.all_nil, List.isEmpty_cons, List.isEmpty_nil, Nat.reduceAdd, Nat.reduceSub, Nat.reduceLT, Nat.reduceLeDiff, Nat.reduceEqDiff, Nat.reducePow, Nat.zero_add, Int.reduceNeg, Int.reduceLT, Int.reduceLE, Int.reduceEq, Int.reduceNe, Int.reducePow, Int.reduceAdd, Int.reduceSub, Int.reduceMul, Int.reduceToNat, Int.cast_ofNat_Int, Int.natCast_add, Int.natCast_one, Int.natCast_zero, Int.natAbs_neg, Int.reduceAbs, Int.zero_add, not_false_eq_true, not_true_eq_false, and_self, ne_eq, or_false, false_or, or_true, true_or, if_true, if_false, reduceIte, Bool.not_true, Bool.not_false, decide_eq_true_eq, decide_true, decide_false, true_and, and_true, and_false, false_and, implies_true, Option.some.injEq, reduceCtorEq, List.nodup_nil, List.not_mem_nil, bne_self_eq_false, beq_self_eq_true, Bool.true_and, Bool.and_true, Bool.false_and, Bool.and_false, Bool.true_or, Bool.or_true, Bool.false_or, Bool.or_false])
/-! The pool: what is drawn. -/
namespace TT
open DL PySem
/-- a pool of numbers -/
def PoolIs (p : D) : Prop := ∃ (ns : List Int) (a c n s : Int), 0 ≤ a ∧ p = .lst [.lst (ns.map .int), .int a, .int c, .int n, .int s]
theorem eval_at (ns : List Int) (a : Int) (h0 : 0 ≤ a) (h1 : a < ns.length) : ∃ v : Int, (ns.map D.int)[a.toNat]? = some (.int v) := by
  have : a.toNat < ns.length := by omega
  exact ⟨ns[a.toNat], by simp [this]⟩
theorem spread_loop (v w : Int) : ∀ (k : Nat) (i : Int) (s0 s3 : Sl), ∃ s0' v' w' s3', forGo (.one 3) w__law_spread_1 (upFrom i k) [s0, .va (.int v), .va (.int w), s3] = .nx [s0', .va (.int v'), .va (.int w'), s3'] := by
  intro k
  induction k generalizing v w with
  | zero => intro i s0 s3; exact ⟨_, _, _, _, rfl⟩
  | succ k ih =>
    intro i s0 s3
    rw [upFrom]
    unfold w__law_spread_1 at ih ⊢
    push_cast [K.eC_K]
    exact ih _ _ _ _ _
theorem spread_is (v : Int) : ∃ w : Int, d__law_spread [.int v] = .ok (.fz (.int w)) [] := by
  unfold d__law_spread b__law_spread
  push_cast [K.eC_K]
  obtain ⟨s0, v', w', s3, e⟩ := spread_loop (v.fmod 2147483647) 1 4 0 (.va (.int v)) .no
  push_cast [e]
  exact ⟨_, rfl⟩
theorem draw_is {p : D} (hp : PoolIs p) {m : Int} (h0 : 0 < m) (h1 : m < 2 ^ 62) : ∃ v p', PoolIs p' ∧ 0 ≤ v ∧ v < m ∧ d__law_draw [p, .int m] = .ok (.fz (.int v)) [p'] := by
  obtain ⟨ns, a, c, n, s, ha, rfl⟩ := hp
  unfold d__law_draw b__law_draw
  have hm : m ≠ 0 := by omega
  have hm2 : m.natAbs < 2 ^ 64 := by omega
  have hv (x : Int) : 0 ≤ x.fmod m ∧ x.fmod m < m := ⟨Int.fmod_nonneg_of_pos _ h0, Int.fmod_lt_of_pos _ h0⟩
  by_cases hc : c ≤ 0
  · by_cases hl : a < ns.length
    · obtain ⟨v, e⟩ := eval_at ns a ha hl
      by_cases hb : v < 1000000000000000000
      · obtain ⟨w, ew⟩ := spread_is v
        by_cases hw : w ≤ 0
        · push_cast [List.length_map, hc, hl, ha, e, hb, ew, hw, hm, hm2]
          exact ⟨_, _, ⟨ns, _, _, _, _, by omega, rfl⟩, (hv _).1, (hv _).2, rfl⟩
        · push_cast [List.length_map, hc, hl, ha, e, hb, ew, hw, hm, hm2]
          exact ⟨_, _, ⟨ns, _, _, _, _, by omega, rfl⟩, (hv _).1, (hv _).2, rfl⟩
      · by_cases hw : v ≤ 0
        · omega
        · push_cast [List.length_map, hc, hl, ha, e, hb, hw, hm, hm2]
          exact ⟨_, _, ⟨ns, _, _, _, _, by omega, rfl⟩, (hv _).1, (hv _).2, rfl⟩
    · push_cast [List.length_map, hc, hl, hm, hm2]
      exact ⟨_, _, ⟨ns, _, _, _, _, by omega, rfl⟩, (hv _).1, (hv _).2, rfl⟩
  · push_cast [hc, hm, hm2]
    exact ⟨_, _, ⟨ns, _, _, _, _, by omega, rfl⟩, (hv _).1, (hv _).2, rfl⟩
theorem pool_loop (ns : List Int) : ∀ (s : Int) (s0 s2 : Sl), ∃ s' s2', forGo (.one 2) w__law_pool_1 (ns.map .int) [s0, .va (.int s), s2] = .nx [s0, .va (.int s'), s2'] := by
  induction ns with
  | nil => intro s s0 s2; exact ⟨_, _, rfl⟩
  | cons x r ih =>
    intro s s0 s2
    rw [List.map]
    unfold w__law_pool_1 at ih ⊢
    push_cast [K.eC_K]
    exact ih _ _ _
theorem cutD_map (ns : List Int) (lo hi : Option Int) : cutD (ns.map D.int) lo hi = (cutD ns lo hi).map .int := by
  unfold cutD; simp
theorem pool_is (ns : List Int) : ∃ p, PoolIs p ∧ d__law_pool [.kls (ns.map .int)] = .ok (.tm p) [] := by
  unfold d__law_pool b__law_pool
  obtain ⟨s', s2', e⟩ := pool_loop (cutD ns none (some 63)) 7 (.va (.kls (ns.map .int))) .no
  push_cast [cutD_map, e]
  exact ⟨_, ⟨ns, 0, 0, 0, s', by omega, rfl⟩, rfl⟩
end TT
/-! The law's own comparisons: a value is the same as itself. -/
namespace TT
open DL PySem
mutual
def okS : Nat → D → Bool
  | _, .non => true
  | _, .bl _ => true
  | _, .int _ => true
  | _, .str _ => true
  | 0, _ => false
  | n + 1, .tup xs => decide (xs.length < 100000) && okSs n xs
  | n + 1, .lst xs => decide (xs.length < 100000) && okSs n xs
  | _, _ => false
def okSs : Nat → List D → Bool
  | _, [] => true
  | n, x :: xs => okS n x && okSs n xs
end
theorem okSs_iff {n : Nat} : ∀ {ds : List D}, okSs n ds = true ↔ ∀ d ∈ ds, okS n d = true
  | [] => by simp [okSs]
  | x :: xs => by simp [okSs, okSs_iff (ds := xs)]
theorem gEq_ss (x : Str) : gEq (.str x) (.str x) = some (.fz (.bl true)) := by
  show some (Op.fz (D.bl (x == x))) = _
  rw [beq_self_eq_true]
theorem ixI_nat {n i : Nat} (h : i < n) : ixI n (i : Int) = some i := by
  unfold ixI
  rw [if_pos (by omega), if_pos (by omega)]
  rfl
theorem same_rows (self : FD) (x : D) (xs : List D) (hx : x = .tup xs ∨ x = .lst xs) (hs : ∀ d ∈ xs, self [d, d] = .ok (.fz (.bl true)) []) (s2 : Sl) :
    ∃ s2', forGo (.one 2) (w__law_same_1 self) (upFrom 0 xs.length) [.va x, .va x, s2] = .nx [.va x, .va x, s2'] := by
  rw [upFrom_nD]
  obtain ⟨r', e, s', rfl⟩ := for_inv (t := .one 2) (b := w__law_same_1 self) nD (fun _ r => ∃ s', r = [.va x, .va x, s']) (List.range xs.length) (r := [.va x, .va x, s2]) ⟨_, rfl⟩ (by
    rintro pre k post e r ⟨s', rfl⟩
    have hk : k < xs.length := by
      have : k ∈ List.range xs.length := by rw [e]; simp
      exact List.mem_range.mp this
    refine ⟨_, rfl, [.va x, .va x, .va (nD k)], .inl ?_, _, rfl⟩
    have e1 : xs[k]? = some xs[k] := List.getElem?_eq_getElem hk
    have e2 := hs xs[k] (List.getElem_mem hk)
    have h0 : (0 : Int) ≤ (k : Int) := by omega
    have h1 : (k : Int) < (xs.length : Int) := by omega
    unfold w__law_same_1
    rcases hx with rfl | rfl
    · push_cast [h0, h1, Int.toNat_natCast, e1, e2]
    · push_cast [h0, h1, Int.toNat_natCast, e1, e2])
  exact ⟨s', e⟩
theorem same_refl : ∀ (n : Nat) (x : D), okS n x = true → d__law_same (n + 1) [x, x] = .ok (.fz (.bl true)) []
  | n, .non, _ => by
    rw [d__law_same]; unfold b__law_same; push_cast [K.eC_K]
  | n, .bl b, _ => by
    rw [d__law_same]; unfold b__law_same; push_cast [K.eC_K, beq_self_eq_true]
  | n, .int i, _ => by
    rw [d__law_same]; unfold b__law_same; push_cast [K.eC_K]
  | n, .str x, _ => by
    rw [d__law_same]; unfold b__law_same; push_cast [K.eC_K, gEq_ss]
  | 0, .tup _, h => by cases h
  | 0, .lst _, h => by cases h
  | 0, .kls _, h => by cases h
  | 0, .ktp _, h => by cases h
  | 0, .dct _, h => by cases h
  | 0, .dtt _, h => by cases h
  | n + 1, .kls _, h => by cases h
  | n + 1, .ktp _, h => by cases h
  | n + 1, .dct _, h => by cases h
  | n + 1, .dtt _, h => by cases h
  | n + 1, .tup xs, h => by
    unfold okS at h
    rw [Bool.and_eq_true, decide_eq_true_eq] at h
    obtain ⟨s', e⟩ := same_rows (d__law_same (n + 1)) (.tup xs) xs (.inl rfl) (fun d hd => same_refl n d (okSs_iff.mp h.2 d hd)) .no
    have h1 : (xs.length : Int) < 4611686018427387904 := by omega
    have h2 : -4611686018427387904 ≤ (xs.length : Int) := by omega
    rw [d__law_same]; unfold b__law_same
    push_cast [h1, h2, Int.toNat_natCast, e]
  | n + 1, .lst xs, h => by
    unfold okS at h
    rw [Bool.and_eq_true, decide_eq_true_eq] at h
    obtain ⟨s', e⟩ := same_rows (d__law_same (n + 1)) (.lst xs) xs (.inr rfl) (fun d hd => same_refl n d (okSs_iff.mp h.2 d hd)) .no
    have h1 : (xs.length : Int) < 4611686018427387904 := by omega
    have h2 : -4611686018427387904 ≤ (xs.length : Int) := by omega
    rw [d__law_same]; unfold b__law_same
    push_cast [h1, h2, Int.toNat_natCast, e]
end TT
namespace TT
open DL PySem
theorem equal_rows (self : FD) (x : D) (xs : List D) (hx : x = .tup xs ∨ x = .lst xs) (hs : ∀ d ∈ xs, self [d, d] = .ok (.fz (.bl true)) []) (hl : xs.length < 100000) (s3 : Sl) :
    lcGo [2] (.one 2) tYes (x__law_equal_1 self) [.va x, .va x, .no, s3] ((List.range xs.length).map nD) [] [.va x, .va x, .no, s3] = .ok (.tm (.lst ((List.range xs.length).map fun _ => D.bl true))) [.va x, .va x, .no, s3] := by
  rw [lc_is nD (fun _ => true) (fun _ => D.bl true) (List.range xs.length) (by rw [List.length_range]; unfold SZ; omega) ?_]
  · rw [List.filter_eq_self.mpr (fun _ _ => rfl)]
  · intro k hk
    have hk := List.mem_range.mp hk
    refine ⟨[.va x, .va x, .va (nD k), s3], rfl, rfl, rfl, fun _ => ⟨.fz (.bl true), ?_, rfl⟩⟩
    have e1 : xs[k]? = some xs[k] := List.getElem?_eq_getElem hk
    have e2 := hs xs[k] (List.getElem_mem hk)
    have h0 : (0 : Int) ≤ (k : Int) := by omega
    have h1 : (k : Int) < (xs.length : Int) := by omega
    unfold x__law_equal_1
    rcases hx with rfl | rfl
    · push_cast [h0, h1, Int.toNat_natCast, e1, e2]
    · push_cast [h0, h1, Int.toNat_natCast, e1, e2]
theorem all_true {β : Type} (xs : List β) : gAll [.lst (xs.map fun _ => D.bl true)] = some (.fz (.bl true)) := by
  rw [gAll_map (fun _ => true)]
  rw [List.all_eq_true.mpr (fun _ _ => rfl)]
theorem equal_refl : ∀ (n : Nat) (x : D), okS n x = true → d__law_equal (n + 1) [x, x] = .ok (.fz (.bl true)) []
  | n, .non, _ => by
    rw [d__law_equal]; unfold b__law_equal
    have e : gEq .non .non = some (.fz (.bl true)) := rfl
    push_cast [K.eC_K, e]
  | n, .bl b, _ => by
    rw [d__law_equal]; unfold b__law_equal; push_cast [K.eC_K, beq_self_eq_true]
  | n, .int i, _ => by
    rw [d__law_equal]; unfold b__law_equal; push_cast [K.eC_K]
  | n, .str x, _ => by
    rw [d__law_equal]; unfold b__law_equal; push_cast [K.eC_K, gEq_ss]
  | 0, .tup _, h => by cases h
  | 0, .lst _, h => by cases h
  | 0, .kls _, h => by cases h
  | 0, .ktp _, h => by cases h
  | 0, .dct _, h => by cases h
  | 0, .dtt _, h => by cases h
  | n + 1, .kls _, h => by cases h
  | n + 1, .ktp _, h => by cases h
  | n + 1, .dct _, h => by cases h
  | n + 1, .dtt _, h => by cases h
  | n + 1, .tup xs, h => by
    unfold okS at h
    rw [Bool.and_eq_true, decide_eq_true_eq] at h
    have e := equal_rows (d__law_equal (n + 1)) (.tup xs) xs (.inl rfl) (fun d hd => equal_refl n d (okSs_iff.mp h.2 d hd)) h.1 .no
    have h1 : (xs.length : Int) < 4611686018427387904 := by omega
    have h2 : -4611686018427387904 ≤ (xs.length : Int) := by omega
    rw [d__law_equal]; unfold b__law_equal
    push_cast [h1, h2, Int.toNat_natCast, upFrom_nD, e, all_true]
  | n + 1, .lst xs, h => by
    unfold okS at h
    rw [Bool.and_eq_true, decide_eq_true_eq] at h
    have e := equal_rows (d__law_equal (n + 1)) (.lst xs) xs (.inr rfl) (fun d hd => equal_refl n d (okSs_iff.mp h.2 d hd)) h.1 .no
    have h1 : (xs.length : Int) < 4611686018427387904 := by omega
    have h2 : -4611686018427387904 ≤ (xs.length : Int) := by omega
    rw [d__law_equal]; unfold b__law_equal
    push_cast [h1, h2, Int.toNat_natCast, upFrom_nD, e, all_true]
end TT
/-! Links, the nodes next to one, what can be reached. -/
namespace TT
open DL PySem
abbrev Link := Nat × Nat × Int
def linkD (l : Link) : D := .tup [.int (l.1 : Int), .int (l.2.1 : Int), .int l.2.2]
def lvD : Option Int → D
  | none => .non
  | some x => .int x
def lvok : Option Int → Int → Bool
  | none, _ => true
  | some x, l => decide (x ≤ l)
def nbc (lv : Option Int) (v : Nat) (l : Link) : Bool := lvok lv l.2.2 && decide (v = l.1 ∨ v = l.2.1)
def nb (lv : Option Int) (v : Nat) (ls : List Link) : List Nat := (ls.filter (nbc lv v)).map fun l => l.1 + l.2.1 - v
theorem nb_len (lv : Option Int) (v : Nat) (ls : List Link) : (nb lv v ls).length ≤ ls.length := by
  unfold nb; rw [List.length_map]; exact List.length_filter_le _ _
theorem nb_snoc (lv : Option Int) (v : Nat) (ls : List Link) (l : Link) : nb lv v (ls ++ [l]) = nb lv v ls ++ (if nbc lv v l = true then [l.1 + l.2.1 - v] else []) := by
  unfold nb
  rw [List.filter_append, List.map_append]
  congr 1
  cases h : nbc lv v l <;> simp [h]
/-- a row of links, as a list or as a tuple -/
def isRow (d : D) (xs : List D) : Prop := d = .lst xs ∨ d = .tup xs
theorem nn_body (rows : D) (lv : Option Int) (v : Nat) (acc : List Nat) (l : Link) (ha : acc.length < SZ) :
    ∃ r2, w_next_nodes_1 [.va rows, .va (.int (v : Int)), .va (lvD lv), .ow false (.lst (acc.map nD)), .va (.int (l.1 : Int)), .va (.int (l.2.1 : Int)), .va (.int l.2.2)] = .nx r2 ∧ r2 = [.va rows, .va (.int (v : Int)), .va (lvD lv), .ow false (.lst ((acc ++ (if nbc lv v l = true then [l.1 + l.2.1 - v] else [])).map nD)), .va (.int (l.1 : Int)), .va (.int (l.2.1 : Int)), .va (.int l.2.2)] := by
  refine ⟨_, ?_, rfl⟩
  unfold w_next_nodes_1 nbc
  have hs : (acc.map nD).length < SZ := by rw [List.length_map]; exact ha
  by_cases h : v = l.1 ∨ v = l.2.1
  · have e : (l.1 : Int) + (l.2.1 : Int) - (v : Int) = ((l.1 + l.2.1 - v : Nat) : Int) := by omega
    cases lv with
    | none =>
      unfold lvD lvok
      push_cast [gIn_p, h, hs, e, List.map_append] <;> simp
    | some x =>
      unfold lvD lvok
      by_cases q : x ≤ l.2.2
      · push_cast [gIn_p, h, hs, e, q, List.map_append] <;> simp
      · push_cast [gIn_p, h, hs, e, q, List.map_append] <;> simp
  · cases lv with
    | none =>
      unfold lvD lvok
      push_cast [gIn_p, h, hs, List.map_append]
      simp
    | some x =>
      unfold lvD lvok
      by_cases q : x ≤ l.2.2
      · push_cast [gIn_p, h, hs, q, List.map_append]
        simp
      · push_cast [gIn_p, h, hs, q, List.map_append]
        simp
theorem nn_is {rows : D} {ls : List Link} (h : isRow rows (ls.map linkD)) (lv : Option Int) (v : Nat) (hl : ls.length < 5000) :
    d_next_nodes [rows, .int (v : Int), lvD lv] = .ok (.tm (.lst ((srt (nb lv v ls)).map nD))) [] := by
  have L : ∃ r', forGo (.many [4, 5, 6]) w_next_nodes_1 (ls.map linkD) [.va rows, .va (.int (v : Int)), .va (lvD lv), .ow false (.lst []), .no, .no, .no] = .nx r' ∧ ∃ s4 s5 s6, r' = [.va rows, .va (.int (v : Int)), .va (lvD lv), .ow false (.lst ((nb lv v ls).map nD)), s4, s5, s6] := by
    refine for_inv linkD (fun pre r => ∃ s4 s5 s6, r = [.va rows, .va (.int (v : Int)), .va (lvD lv), .ow false (.lst ((nb lv v pre).map nD)), s4, s5, s6]) ls ⟨_, _, _, rfl⟩ ?_
    rintro pre l post e r ⟨s4, s5, s6, rfl⟩
    have hp : (nb lv v pre).length < SZ := by
      have h1 := nb_len lv v pre
      have h2 : pre.length ≤ ls.length := by rw [e]; simp
      unfold SZ; omega
    obtain ⟨r2, e1, e2⟩ := nn_body rows lv v (nb lv v pre) l hp
    refine ⟨_, rfl, r2, .inl e1, ?_⟩
    rw [e2, nb_snoc]
    exact ⟨_, _, _, rfl⟩
  obtain ⟨r', e, s4, s5, s6, rfl⟩ := L
  unfold d_next_nodes b_next_nodes
  rcases h with rfl | rfl
  · push_cast [e, gSorted_nD]
  · push_cast [e, gSorted_nD]
/-- the pairs of strong links -/
def strong (lv : Option Int) (ls : List Link) : GR.Es := (ls.filter fun l => lvok lv l.2.2).map fun l => (l.1, l.2.1)
def okL (n : Nat) (ls : List Link) : Prop := (∀ l ∈ ls, l.1 < l.2.1 ∧ l.2.1 < n) ∧ ls.length < 5000
theorem nb_mem {lv : Option Int} {v w : Nat} {ls : List Link} : w ∈ nb lv v ls ↔ GR.Adj (strong lv ls) v w := by
  unfold nb nbc GR.Adj strong
  simp only [List.mem_map, List.mem_filter, Bool.and_eq_true, decide_eq_true_eq]
  constructor
  · rintro ⟨l, ⟨h1, h2, h3⟩, rfl⟩
    rcases h3 with h3 | h3
    · exact .inl ⟨l, ⟨h1, h2⟩, by rw [h3]; congr 1; omega⟩
    · exact .inr ⟨l, ⟨h1, h2⟩, by rw [h3]; congr 1; omega⟩
  · rintro (⟨l, ⟨h1, h2⟩, e⟩ | ⟨l, ⟨h1, h2⟩, e⟩)
    · cases e; exact ⟨l, ⟨h1, h2, .inl rfl⟩, by omega⟩
    · cases e; exact ⟨l, ⟨h1, h2, .inr rfl⟩, by omega⟩
theorem strong_lt {n : Nat} {lv : Option Int} {ls : List Link} (h : okL n ls) : ∀ p ∈ strong lv ls, p.1 < n ∧ p.2 < n := by
  intro p hp
  unfold strong at hp
  obtain ⟨l, hl, rfl⟩ := List.mem_map.mp hp
  have := h.1 l (List.mem_filter.mp hl).1
  exact ⟨by show l.1 < n; omega, this.2⟩
theorem strong_len (lv : Option Int) (ls : List Link) : (strong lv ls).length ≤ ls.length := by
  unfold strong; rw [List.length_map]; exact List.length_filter_le _ _
open GR
/-- the visit of the nodes next to one -/
theorem wf_body (s0 s1 s2 : Sl) (v : Nat) (k : KQ) (w : Nat) (hk : k.1.length < SZ) (hq : k.2.length < SZ) :
    ∃ r2, w_ways_from_1 [s0, s1, s2, .ow false (dD k.1), .ow false (.lst (k.2.map nD)), .va (.int (v : Int)), .va (.int (w : Int))] = .nx r2 ∧ r2 = [s0, s1, s2, .ow false (dD (visit v k w).1), .ow false (.lst ((visit v k w).2.map nD)), .va (.int (v : Int)), .va (.int (w : Int))] := by
  refine ⟨_, ?_, rfl⟩
  unfold w_ways_from_1
  have hs : (k.2.map nD).length < SZ := by rw [List.length_map]; exact hq
  by_cases h : w ∈ k.1.map (·.1)
  · rw [show visit v k w = k from if_pos h]
    push_cast [gNotIn_dD, h]
  · rw [show visit v k w = (k.1 ++ [(w, v)], k.2 ++ [w]) from if_neg h]
    push_cast [gNotIn_dD, h, gSet_dD_new v h hk, hs, List.map_append]
theorem visits_bound {x n : Nat} {ws : List Nat} {k : KQ} (hk : (k.1.map (·.1)).Nodup) (hb : ∀ v ∈ k.1.map (·.1), v < n) (hw : ∀ v ∈ ws, v < n) : (ws.foldl (visit x) k).1.length ≤ n ∧ ∀ m, k.2.length + k.1.length ≤ m → (ws.foldl (visit x) k).2.length ≤ m + n := by
  obtain ⟨news, e, h1, h2⟩ := visit_all x ws k hk
  have hn : ((k.1.map (·.1)) ++ news).Nodup := List.nodup_append.mpr ⟨hk, h1, fun a ha b hb z => ((h2 b).mp hb).2 (z ▸ ha)⟩
  have := nodup_bound hn (n := n) fun v hv => (List.mem_append.mp hv).elim (hb v) fun z => hw v ((h2 v).mp z).1
  rw [List.length_append, List.length_map] at this
  rw [e]
  simp only [List.length_append, List.length_map]
  exact ⟨by omega, fun m hm => by omega⟩
theorem wf_loop (s0 s1 s2 : Sl) (v n : Nat) (hn : n ≤ 100) : ∀ (ws : List Nat) (k : KQ) (s6 : Sl), (k.1.map (·.1)).Nodup → (∀ v ∈ k.1.map (·.1), v < n) → (∀ v ∈ ws, v < n) → k.2.length + ws.length < 10000 →
    ∃ s6', forGo (.one 6) w_ways_from_1 (ws.map nD) [s0, s1, s2, .ow false (dD k.1), .ow false (.lst (k.2.map nD)), .va (.int (v : Int)), s6] = .nx [s0, s1, s2, .ow false (dD (ws.foldl (visit v) k).1), .ow false (.lst ((ws.foldl (visit v) k).2.map nD)), .va (.int (v : Int)), s6']
  | [], k, s6, _, _, _, _ => ⟨s6, rfl⟩
  | w :: ws, k, s6, hk, hb, hw, hq => by
    have h1 := nodup_bound hk hb
    rw [List.length_map] at h1
    rw [List.length_cons] at hq
    obtain ⟨r2, e1, e2⟩ := wf_body s0 s1 s2 v k w (by unfold SZ; omega) (by unfold SZ; omega)
    have hv : ((visit v k w).1.map (·.1)).Nodup ∧ (∀ u ∈ (visit v k w).1.map (·.1), u < n) ∧ (visit v k w).2.length ≤ k.2.length + 1 := by
      by_cases h : w ∈ k.1.map (·.1)
      · rw [show visit v k w = k from if_pos h]; exact ⟨hk, hb, Nat.le_succ _⟩
      · rw [show visit v k w = (k.1 ++ [(w, v)], k.2 ++ [w]) from if_neg h]
        refine ⟨?_, fun u hu => ?_, by simp⟩
        · rw [List.map_append, List.nodup_append]
          exact ⟨hk, by simp, fun a ha b hb z => by simp at hb; subst hb; exact h (z ▸ ha)⟩
        · rw [List.map_append] at hu
          rcases List.mem_append.mp hu with z | z
          · exact hb u z
          · simp at z; subst z; exact hw u List.mem_cons_self
    obtain ⟨s6', e3⟩ := wf_loop s0 s1 s2 v n hn ws (visit v k w) (.va (nD w)) hv.1 hv.2.1 (fun u hu => hw u (List.mem_cons_of_mem _ hu)) (by omega)
    refine ⟨s6', ?_⟩
    rw [List.map_cons, K.forGo_cons, K.put_one, K.go0_some]
    show K.go1 _ _ _ (w_ways_from_1 [s0, s1, s2, .ow false (dD k.1), .ow false (.lst (k.2.map nD)), .va (.int (v : Int)), .va (.int (w : Int))]) = _
    rw [e1, K.go1_nx, e2, e3]; rfl
theorem wf_is {rows : D} {ls : List Link} (h : isRow rows (ls.map linkD)) {n : Nat} (hn : n ≤ 100) (ok : okL n ls) (lv : Option Int) {s : Nat} (hs : s < n) :
    ∃ kvs, d_ways_from [rows, .int (s : Int), lvD lv] = .ok (.tm (dD kvs)) [] ∧ (kvs.map (·.1)).Nodup ∧ ∀ v, v ∈ kvs.map (·.1) ↔ Reach (strong lv ls) s v := by
  have W : ∃ r', sWhile t_ways_from_1 w_ways_from_2 [.va rows, .va (.int (s : Int)), .va (lvD lv), .ow false (dD [(s, s)]), .ow false (.lst ([s].map nD)), .no, .no] = .nx r' ∧ ∃ kvs s5 s6, r' = [.va rows, .va (.int (s : Int)), .va (lvD lv), .ow false (dD kvs), .ow false (.lst []), s5, s6] ∧ WfI (strong lv ls) s kvs [] := by
    refine while_run (fun m r => ∃ kvs q s5 s6, r = [.va rows, .va (.int (s : Int)), .va (lvD lv), .ow false (dD kvs), .ow false (.lst (q.map nD)), s5, s6] ∧ WfI (strong lv ls) s kvs q ∧ q.Nodup ∧ q.length + 2 * (n - kvs.length) = m) _ ?_ (1 + 2 * (n - 1)) _ ⟨[(s, s)], [s], _, _, rfl, .start, by simp, rfl⟩
    rintro m r ⟨kvs, q, s5, s6, rfl, I, qnd, hm⟩
    cases q with
    | nil =>
      refine .inl ⟨[.va rows, .va (.int (s : Int)), .va (lvD lv), .ow false (dD kvs), .ow false (.lst []), s5, s6], ?_, kvs, s5, s6, rfl, I⟩
      unfold t_ways_from_1
      have e := gNe_nil []
      rw [List.map_nil] at e
      push_cast [e]
    | cons v q =>
      have lt : ∀ u ∈ kvs.map (·.1), u < n := fun u hu => Reach.lt (strong_lt ok) hs (I.ways u hu)
      have hlen := nodup_bound I.nd lt
      rw [List.length_map] at hlen
      have hv := lt v (I.sub v List.mem_cons_self)
      have hws : ∀ u ∈ srt (nb lv v ls), u < n := fun u hu => by
        have a := nb_mem.mp (mem_srt.mp hu)
        exact a.elim (fun k => (strong_lt ok _ k).2) fun k => (strong_lt ok _ k).1
      have hl5 : (srt (nb lv v ls)).length < 5000 := by rw [srt_len]; have := nb_len lv v ls; have := ok.2; omega
      have hq : q.length ≤ n := by
        rw [List.nodup_cons] at qnd
        exact nodup_bound qnd.2 fun u hu => lt u (I.sub u (List.mem_cons_of_mem _ hu))
      obtain ⟨news, e, h1, h2⟩ := visit_all v (srt (nb lv v ls)) (kvs, q) I.nd
      have h2' : ∀ w, w ∈ news ↔ Adj (strong lv ls) v w ∧ w ∉ kvs.map (·.1) := fun w => by rw [h2, mem_srt, nb_mem]
      have J := I.next (x := v) h1 h2'
      obtain ⟨s6', e2⟩ := wf_loop (.va rows) (.va (.int (s : Int))) (.va (lvD lv)) v n hn (srt (nb lv v ls)) (kvs, q) s6 I.nd lt hws (by show q.length + _ < _; omega)
      rw [e] at e2
      have lt2 : ∀ u ∈ (kvs ++ news.map fun w => (w, v)).map (·.1), u < n := fun u hu => Reach.lt (strong_lt ok) hs (J.ways u hu)
      have hlen2 := nodup_bound J.nd lt2
      rw [List.length_map, List.length_append, List.length_map] at hlen2
      refine .inr ⟨[.va rows, .va (.int (s : Int)), .va (lvD lv), .ow false (dD kvs), .ow false (.lst ((v :: q).map nD)), s5, s6], ?_, [.va rows, .va (.int (s : Int)), .va (lvD lv), .ow false (dD (kvs ++ news.map fun w => (w, v))), .ow false (.lst ((q ++ news).map nD)), .va (.int (v : Int)), s6'], (q ++ news).length + 2 * (n - (kvs ++ news.map fun w => (w, v)).length), .inl ?_, ?_, _, _, _, _, rfl, J, ?_, rfl⟩
      · unfold t_ways_from_1
        have e := gNe_nil (v :: q)
        rw [List.map_cons] at e
        push_cast [e]
      · unfold w_ways_from_2
        have e1 := nn_is h lv v ok.2
        push_cast [gPopAt0, e1, e2]
      · rw [← hm]; simp only [List.length_append, List.length_map, List.length_cons]; omega
      · rw [List.nodup_cons] at qnd
        exact List.nodup_append.mpr ⟨qnd.2, h1, fun a ha b hb z => ((h2 b).mp hb).2 (z ▸ I.sub a (List.mem_cons_of_mem _ ha))⟩
  obtain ⟨r', e, kvs, s5, s6, rfl, I⟩ := W
  refine ⟨kvs, ?_, I.nd, I.end⟩
  unfold d_ways_from b_ways_from
  rw [show [s].map nD = [D.int (s : Int)] from rfl] at e
  push_cast [dD_one, e]
end TT
/-! The law's backhaul and its own search. -/
namespace TT
open DL PySem GR
def bhD (n : Nat) (ls : List Link) : D := .tup [.int (n : Int), .tup (ls.map linkD)]
/-- what has been drawn: the pool goes on, the links so far -/
def LkI (n k : Nat) (ls : List Link) : Prop := (∀ l ∈ ls, l.1 < l.2.1 ∧ l.2.1 < n) ∧ ls.length ≤ k
theorem bh_in (n i : Nat) (hn : n ≤ 20) (dn : Int) (hd : 0 < dn) (hd2 : dn < 100) (s1 : Sl) : ∀ (m j : Nat) (p : D) (ls : List Link) (s6 : Sl) (c : Nat), i < j → j + m ≤ n → PoolIs p → LkI n c ls → c + m ≤ 1000 →
    ∃ p' ls' s6', PoolIs p' ∧ LkI n (c + m) ls' ∧ forGo (.one 6) w__law_backhaul_1 (upFrom (j : Int) m) [.ow true p, s1, .va (.int (n : Int)), .ow false (.lst (ls.map linkD)), .va (.int dn), .va (.int (i : Int)), s6] = .nx [.ow true p', s1, .va (.int (n : Int)), .ow false (.lst (ls'.map linkD)), .va (.int dn), .va (.int (i : Int)), s6']
  | 0, j, p, ls, s6, c, _, _, hp, hl, _ => ⟨p, ls, s6, hp, hl, rfl⟩
  | m + 1, j, p, ls, s6, c, hij, hjn, hp, hl, hc => by
    obtain ⟨v, p1, hp1, v0, v1, e1⟩ := draw_is hp hd (by omega)
    rw [upFrom, K.forGo_cons, K.put_one, K.go0_some]
    by_cases h : v = 0
    · subst h
      obtain ⟨w, p2, hp2, w0, w1, e2⟩ := draw_is hp1 (m := 6) (by decide) (by decide)
      have hl2 : LkI n (c + 1) (ls ++ [(i, j, 10 * w)]) := by
        refine ⟨fun l hm => ?_, by simp; have := hl.2; omega⟩
        rcases List.mem_append.mp hm with z | z
        · exact hl.1 l z
        · simp at z; subst z; exact ⟨hij, by show j < n; omega⟩
      obtain ⟨p', ls', s6', a1, a2, a3⟩ := bh_in n i hn dn hd hd2 s1 m (j + 1) p2 (ls ++ [(i, j, 10 * w)]) (.va (.int (j : Int))) (c + 1) (by omega) (by omega) hp2 hl2 (by omega)
      refine ⟨p', ls', s6', a1, by rw [show c + (m + 1) = c + 1 + m by omega]; exact a2, ?_⟩
      have hs : (ls.map linkD).length < SZ := by rw [List.length_map]; have := hl.2; unfold SZ; omega
      have e : w__law_backhaul_1 [.ow true p, s1, .va (.int (n : Int)), .ow false (.lst (ls.map linkD)), .va (.int dn), .va (.int (i : Int)), .va (.int (j : Int))] = .nx [.ow true p2, s1, .va (.int (n : Int)), .ow false (.lst ((ls ++ [(i, j, 10 * w)]).map linkD)), .va (.int dn), .va (.int (i : Int)), .va (.int (j : Int))] := by
        unfold w__law_backhaul_1
        push_cast [e1, e2, hs, List.map_append]
        rfl
      show K.go1 _ _ _ (w__law_backhaul_1 [.ow true p, s1, .va (.int (n : Int)), .ow false (.lst (ls.map linkD)), .va (.int dn), .va (.int (i : Int)), .va (.int (j : Int))]) = _
      rw [e, K.go1_nx]; exact a3
    · obtain ⟨p', ls', s6', a1, a2, a3⟩ := bh_in n i hn dn hd hd2 s1 m (j + 1) p1 ls (.va (.int (j : Int))) (c + 1) (by omega) (by omega) hp1 ⟨hl.1, by have := hl.2; omega⟩ (by omega)
      refine ⟨p', ls', s6', a1, by rw [show c + (m + 1) = c + 1 + m by omega]; exact a2, ?_⟩
      have e : w__law_backhaul_1 [.ow true p, s1, .va (.int (n : Int)), .ow false (.lst (ls.map linkD)), .va (.int dn), .va (.int (i : Int)), .va (.int (j : Int))] = .nx [.ow true p1, s1, .va (.int (n : Int)), .ow false (.lst (ls.map linkD)), .va (.int dn), .va (.int (i : Int)), .va (.int (j : Int))] := by
        unfold w__law_backhaul_1
        push_cast [e1, h]
      show K.go1 _ _ _ (w__law_backhaul_1 [.ow true p, s1, .va (.int (n : Int)), .ow false (.lst (ls.map linkD)), .va (.int dn), .va (.int (i : Int)), .va (.int (j : Int))]) = _
      rw [e, K.go1_nx]; exact a3
theorem bh_out (n : Nat) (hn : n ≤ 20) (dn : Int) (hd : 0 < dn) (hd2 : dn < 100) (s1 : Sl) : ∀ (m i : Nat) (p : D) (ls : List Link) (s5 s6 : Sl), i + m = n → PoolIs p → LkI n (i * 20) ls →
    ∃ p' ls' s5' s6', PoolIs p' ∧ LkI n 400 ls' ∧ forGo (.one 5) w__law_backhaul_2 (upFrom (i : Int) m) [.ow true p, s1, .va (.int (n : Int)), .ow false (.lst (ls.map linkD)), .va (.int dn), s5, s6] = .nx [.ow true p', s1, .va (.int (n : Int)), .ow false (.lst (ls'.map linkD)), .va (.int dn), s5', s6']
  | 0, i, p, ls, s5, s6, hi, hp, hl => ⟨p, ls, s5, s6, hp, ⟨hl.1, by have := hl.2; omega⟩, rfl⟩
  | m + 1, i, p, ls, s5, s6, hi, hp, hl => by
    rw [upFrom, K.forGo_cons, K.put_one, K.go0_some]
    obtain ⟨p1, ls1, s6a, b1, b2, b3⟩ := bh_in n i hn dn hd hd2 s1 (n - (i + 1)) (i + 1) p ls s6 (i * 20) (by omega) (by omega) hp hl (by omega)
    obtain ⟨p', ls', s5', s6', a1, a2, a3⟩ := bh_out n hn dn hd hd2 s1 m (i + 1) p1 ls1 (.va (.int (i : Int))) s6a (by omega) b1 ⟨b2.1, by have := b2.2; omega⟩
    refine ⟨p', ls', s5', s6', a1, a2, ?_⟩
    have e : w__law_backhaul_2 [.ow true p, s1, .va (.int (n : Int)), .ow false (.lst (ls.map linkD)), .va (.int dn), .va (.int (i : Int)), s6] = .nx [.ow true p1, s1, .va (.int (n : Int)), .ow false (.lst (ls1.map linkD)), .va (.int dn), .va (.int (i : Int)), s6a] := by
      have h1 : -4611686018427387904 ≤ (i : Int) + 1 := by omega
      have h2 : (i : Int) + 1 < 4611686018427387904 := by omega
      have h3 : -4611686018427387904 ≤ (n : Int) := by omega
      have h4 : (n : Int) < 4611686018427387904 := by omega
      have h5 : ((n : Int) - ((i : Int) + 1)).toNat = n - (i + 1) := by omega
      have b3' : forGo (.one 6) w__law_backhaul_1 (upFrom ((i : Int) + 1) (n - (i + 1))) _ = _ := b3
      unfold w__law_backhaul_2
      push_cast [h1, h2, h3, h4, h5, b3']
    show K.go1 _ _ _ (w__law_backhaul_2 [.ow true p, s1, .va (.int (n : Int)), .ow false (.lst (ls.map linkD)), .va (.int dn), .va (.int (i : Int)), s6]) = _
    rw [e, K.go1_nx]; exact a3
theorem bh_is {p : D} (hp : PoolIs p) {most : Nat} (h1 : 0 < most) (h2 : most ≤ 20) : ∃ p' n ls, PoolIs p' ∧ 0 < n ∧ n ≤ 20 ∧ okL n ls ∧ ls.length ≤ 400 ∧ d__law_backhaul [p, .int (most : Int)] = .ok (.fz (bhD n ls)) [p'] := by
  obtain ⟨v, p1, hp1, v0, v1, e1⟩ := draw_is hp (m := 4) (by decide) (by decide)
  have hm : ∃ m : Int, 0 < m ∧ m ≤ 20 ∧ ([D.int (most : Int), .int (most : Int), .int (most : Int), .int 20] : List D)[v.toNat]? = some (.int m) := by
    rcases (by omega : v = 0 ∨ v = 1 ∨ v = 2 ∨ v = 3) with h | h | h | h <;> subst h
    · exact ⟨_, by omega, by omega, rfl⟩
    · exact ⟨_, by omega, by omega, rfl⟩
    · exact ⟨_, by omega, by omega, rfl⟩
    · exact ⟨20, by omega, by omega, rfl⟩
  obtain ⟨m, m0, m1, em⟩ := hm
  obtain ⟨w, p2, hp2, w0, w1, e2⟩ := draw_is hp1 (m := m) m0 (by omega)
  obtain ⟨u, p3, hp3, u0, u1, e3⟩ := draw_is hp2 (m := 3) (by decide) (by decide)
  have hn : (1 + w) = (((1 + w).toNat : Nat) : Int) := by omega
  have fin : ∀ dn : Int, 0 < dn → dn < 100 → ∃ p' ls s5 s6, PoolIs p' ∧ okL (1 + w).toNat ls ∧ ls.length ≤ 400 ∧ forGo (.one 5) w__law_backhaul_2 (upFrom 0 (1 + w).toNat) [.ow true p3, .va (.int (most : Int)), .va (.int (1 + w)), .ow false (.lst []), .va (.int dn), .no, .no] = .nx [.ow true p', .va (.int (most : Int)), .va (.int (1 + w)), .ow false (.lst (ls.map linkD)), .va (.int dn), s5, s6] := by
    intro dn d0 d1
    obtain ⟨p', ls', s5', s6', a1, a2, a3⟩ := bh_out (1 + w).toNat (by omega) dn d0 d1 (.va (.int (most : Int))) (1 + w).toNat 0 p3 [] .no .no (by omega) hp3 ⟨fun _ h => (nomatch h), by simp⟩
    rw [← hn] at a3
    exact ⟨p', ls', s5', s6', a1, ⟨a2.1, by have := a2.2; omega⟩, a2.2, a3⟩
  have q1 : -4611686018427387904 ≤ 1 + w := by omega
  have q2 : 1 + w < 4611686018427387904 := by omega
  have q3 : v < 4 := by omega
  by_cases h10 : 10 < 1 + w
  · obtain ⟨p', ls, s5, s6, a1, a2, a3, a4⟩ := fin (2 + u + 6) (by omega) (by omega)
    refine ⟨p', (1 + w).toNat, ls, a1, by omega, by omega, a2, a3, ?_⟩
    unfold d__law_backhaul b__law_backhaul
    have g1 : gInt [D.bl true] = some (.fz (.int 1)) := rfl
    push_cast [e1, v0, q3, em, e2, e3, h10, q1, q2, g1, a4]
    unfold bhD; rw [← hn]
  · obtain ⟨p', ls, s5, s6, a1, a2, a3, a4⟩ := fin (2 + u + 0) (by omega) (by omega)
    refine ⟨p', (1 + w).toNat, ls, a1, by omega, by omega, a2, a3, ?_⟩
    unfold d__law_backhaul b__law_backhaul
    have g1 : gInt [D.bl false] = some (.fz (.int 0)) := rfl
    push_cast [e1, v0, q3, em, e2, e3, h10, q1, q2, g1, a4]
    unfold bhD; rw [← hn]
/-! ### the law's part -/
def pairD (p : Nat × Nat) : D := .tup [.int (p.1 : Int), .int (p.2 : Int)]
theorem part_body (s0 s1 s3 : Sl) (l : List Nat) (p : Nat × Nat) (hl : l.length < SZ) : w__law_part_1 [s0, s1, .ow false (.lst (l.map nD)), s3, .va (pairD p)] = .nx [s0, s1, .ow false (.lst ((addP l p).map nD)), s3, .va (pairD p)] := by
  have hs : (l.map nD).length < SZ := by rw [List.length_map]; exact hl
  unfold w__law_part_1 pairD
  by_cases a : p.1 ∈ l <;> by_cases b : p.2 ∈ l
  · rw [show addP l p = l by unfold addP; simp [a, b]]
    push_cast [gIn_nD, gNotIn_nD, a, b]
  · rw [show addP l p = l ++ [p.2] by unfold addP; simp [a, b]]
    push_cast [gIn_nD, gNotIn_nD, a, b, hs, List.map_append]
  · rw [show addP l p = l ++ [p.1] by unfold addP; simp [a, b]]
    push_cast [gIn_nD, gNotIn_nD, a, b, hs, List.map_append]
  · rw [show addP l p = l by unfold addP; simp [a, b]]
    push_cast [gIn_nD, gNotIn_nD, a, b]
theorem addP_le (l : List Nat) (p : Nat × Nat) : (addP l p).length ≤ l.length + 1 := by
  unfold addP; split
  · simp
  · split
    · simp
    · omega
theorem pass_le : ∀ (E : Es) (l : List Nat), (pass E l).length ≤ l.length + E.length
  | [], _ => Nat.le_refl _
  | p :: E, l => by
    have h1 := pass_le E (addP l p)
    have h2 := addP_le l p
    show (pass E (addP l p)).length ≤ _
    rw [List.length_cons]; omega
theorem part_in (s0 s1 s3 : Sl) : ∀ (E : Es) (l : List Nat) (s4 : Sl), l.length + E.length < SZ → ∃ s4', forGo (.one 4) w__law_part_1 (E.map pairD) [s0, s1, .ow false (.lst (l.map nD)), s3, s4] = .nx [s0, s1, .ow false (.lst ((pass E l).map nD)), s3, s4']
  | [], l, s4, _ => ⟨s4, rfl⟩
  | p :: E, l, s4, h => by
    rw [List.length_cons] at h
    obtain ⟨s4', e⟩ := part_in s0 s1 s3 E (addP l p) (.va (pairD p)) (by have := addP_le l p; omega)
    refine ⟨s4', ?_⟩
    rw [List.map_cons, K.forGo_cons, K.put_one, K.go0_some]
    show K.go1 _ _ _ (w__law_part_1 [s0, s1, .ow false (.lst (l.map nD)), s3, .va (pairD p)]) = _
    rw [part_body s0 s1 s3 l p (by omega), K.go1_nx, e]; rfl
theorem passes_snoc (E : Es) : ∀ (t : Nat) (l : List Nat), passes E (t + 1) l = pass E (passes E t l)
  | 0, _ => rfl
  | t + 1, l => by rw [passes, passes_snoc E t (pass E l)]; rfl
theorem part_is {rows : D} {E : Es} (h : isRow rows (E.map pairD)) (s : Nat) (hE : E.length ≤ 400) : d__law_part [rows, .int (s : Int)] = .ok (.tm (.lst ((srt (passes E (E.length + 1) [s])).map nD))) [] := by
  have bd : ∀ t, (passes E t [s]).length ≤ 1 + t * E.length := by
    intro t
    induction t with
    | zero => simp [passes]
    | succ t ih =>
      rw [passes_snoc]
      have := pass_le E (passes E t [s])
      rw [Nat.succ_mul]; omega
  obtain ⟨r', e, s3, s4, hr⟩ := for_inv (t := .one 3) (b := w__law_part_2) nD (fun pre r => ∃ s3 s4, r = [.va rows, .va (.int (s : Int)), .ow false (.lst ((passes E pre.length [s]).map nD)), s3, s4]) (List.range (E.length + 1)) (r := [.va rows, .va (.int (s : Int)), .ow false (.lst [.int (s : Int)]), .no, .no]) ⟨_, _, rfl⟩ (by
    rintro pre k post e r ⟨s3, s4, rfl⟩
    have hp : pre.length ≤ E.length := by
      have := congrArg List.length e
      rw [List.length_range, List.length_append, List.length_cons] at this; omega
    obtain ⟨s4', e2⟩ := part_in (.va rows) (.va (.int (s : Int))) (.va (nD k)) E (passes E pre.length [s]) s4 (by
      have h1 := bd pre.length
      have h2 : pre.length * E.length ≤ 400 * 400 := Nat.mul_le_mul (by omega) hE
      unfold SZ; omega)
    refine ⟨_, rfl, [.va rows, .va (.int (s : Int)), .ow false (.lst ((passes E (pre ++ [k]).length [s]).map nD)), .va (nD k), s4'], .inl ?_, _, _, rfl⟩
    rw [List.length_append, List.length_singleton, passes_snoc]
    unfold w__law_part_2
    rcases h with rfl | rfl
    · push_cast [e2]
    · push_cast [e2])
  subst hr
  rw [List.length_range] at e
  have h1 : -4611686018427387904 ≤ (E.length : Int) + 1 := by omega
  have h2 : (E.length : Int) + 1 < 4611686018427387904 := by omega
  have h3 : ((E.length : Int) + 1).toNat = E.length + 1 := by omega
  unfold d__law_part b__law_part
  rcases h with rfl | rfl
  · push_cast [List.length_map, h1, h2, h3, upFrom_nD, e, gSorted_nD]
  · push_cast [List.length_map, h1, h2, h3, upFrom_nD, e, gSorted_nD]
end TT

section
set_option autoImplicit false
set_option linter.all false
set_option maxRecDepth 20000
local macro_rules | `(tactic| push_cast [$ls,*]) => `(tactic| simp only [$ls,*, DL.K.eBin_K, DL.K.bin1_ok, DL.K.bin1_err, DL.K.opt_some, DL.K.bin2_ok, DL.K.bin2_err, DL.K.bin3_some, DL.K.eUn_K, DL.K.un1_ok, DL.K.un1_err, DL.K.un2_some, DL.K.aCons_K, DL.K.cons1_ok, DL.K.cons1_err, DL.K.cons2_ok, DL.K.cons2_err, DL.K.aNil_K, DL.K.ePure_K, DL.K.pure1_ok, DL.K.pure1_err, DL.K.pure2_some, DL.K.eTup_K, DL.K.tup1_ok, DL.K.tup1_err, DL.K.tup2_some, DL.K.eLst_K, DL.K.lst1_ok, DL.K.lst1_err, DL.K.lst2_some, DL.K.eName_K, DL.K.name1_va, DL.K.name1_ow, DL.K.eC_K, DL.K.rsv_fz, DL.K.rsv_tm, DL.K.rsv_br, DL.K.rsv1_ow, DL.K.rsv1_va, DL.K.rsvs_nil, DL.K.rsvs_cons, DL.K.rsvs1_some, DL.K.rsvs2_some, DL.K.fzo_fz, DL.K.fzo_tm, DL.K.fzo_br, DL.K.fzo1_ow, DL.K.fzo1_va, DL.K.fzos_nil, DL.K.fzos_cons, DL.K.fzos1_some, DL.K.fzos2_some, DL.K.tTru_K, DL.K.tru1_ok, DL.K.tru1_err, DL.K.tru2_some, DL.K.tru3_some, DL.K.tBl_K, DL.K.tbl1_ok, DL.K.tbl1_err, DL.K.tAnd_K, DL.K.and1_t, DL.K.and1_f, DL.K.and1_err, DL.K.tOr_K, DL.K.or1_t, DL.K.or1_f, DL.K.or1_err, DL.K.tNot_K, DL.K.not1_ok, DL.K.not1_err, DL.K.tYes_K, DL.K.eAnd_K, DL.K.eand1_t, DL.K.eand1_f, DL.K.eand1_err, DL.K.eOr_K, DL.K.eor1_t, DL.K.eor1_f, DL.K.eor1_err, DL.K.eNot_K, DL.K.eNotE_K, DL.K.enot1_ok, DL.K.enot1_err, DL.K.eIf_K, DL.K.eif1_t, DL.K.eif1_f, DL.K.eif1_err, DL.K.eCh_K, DL.K.ch1_ok, DL.K.ch1_err, DL.K.chLast_K, DL.K.chLink_K, DL.K.link1_ok, DL.K.link2_some, DL.K.link3_t, DL.K.link3_f, DL.K.eCall_K, DL.K.call1_ok, DL.K.call1_err, DL.K.call2_nil, DL.K.call2_one, DL.K.call3_ok0, DL.K.call3_err0, DL.K.call3_ok1, DL.K.call3_err1, DL.K.put1_ow, DL.K.isOw_ow, DL.K.iosOf_nil, DL.K.iosOf_f, DL.K.iosOf_t, DL.K.argsOf_nil, DL.K.argsOf_f, DL.K.args1_some, DL.K.args2_some, DL.K.argsOf_t, DL.K.args3_ow, DL.K.sSeq_K, DL.K.seq1_nx, DL.K.seq1_ret, DL.K.seq1_brk, DL.K.seq1_cnt, DL.K.seq1_err, DL.K.sNext_K, DL.K.sBreak_K, DL.K.sCont_K, DL.K.sRetN_K, DL.K.sRaise_K, DL.K.sExpr_K, DL.K.expr1_ok, DL.K.expr1_err, DL.K.sSet_K, DL.K.set1_fz, DL.K.set1_tm, DL.K.set1_br, DL.K.set2_some, DL.K.set1_err, DL.K.sUnp_K, DL.K.unp1_ok, DL.K.unp1_err, DL.K.unp2_some, DL.K.nxo_some, DL.K.put_one, DL.K.put_tup, DL.K.put_ktp, DL.K.setAll_nil, DL.K.setAll_cons, DL.K.sPar_K, DL.K.par1_ok, DL.K.par1_err, DL.K.par2_ok, DL.K.par2_err, DL.K.par3_some, DL.K.keep2_fz, DL.K.keep2_tm, DL.K.sAug_K, DL.K.aug0_va, DL.K.aug1_ok, DL.K.aug1_err, DL.K.aug2_some, DL.K.aug3_some, DL.K.sRet_K, DL.K.ret1_fz, DL.K.ret1_tm, DL.K.ret1_br, DL.K.ret1_err, DL.K.ret2_ow, DL.K.ret2_va, DL.K.sIf_K, DL.K.if1_t, DL.K.if1_f, DL.K.if1_err, DL.K.sSub_K, DL.K.sub1_ok, DL.K.sub1_err, DL.K.sub2_ok, DL.K.sub2_err, DL.K.sub3_some, DL.K.sub4_some, DL.K.sub5_some, DL.K.eMut_K, DL.K.isL_lst, DL.K.mut0_ok, DL.K.mut0_err, DL.K.mut1_some, DL.K.mut2_some, DL.K.mut3_some, DL.K.sFor_K, DL.K.for1_ok, DL.K.for1_err, DL.K.forGo_nil, DL.K.forGo_cons, DL.K.go0_some, DL.K.go1_nx, DL.K.go1_cnt, DL.K.go1_brk, DL.K.go1_ret, DL.K.go1_err, DL.K.whN_K, DL.K.wh1_t, DL.K.wh1_f, DL.K.wh2_nx, DL.K.wh2_cnt, DL.K.wh2_brk, DL.K.wh2_ret, DL.K.wh2_err, DL.K.iSeq_K, DL.K.iseq1_ok, DL.K.iseq1_err, DL.K.iseq2_lst, DL.K.iseq2_tup, DL.K.iseq2_kls, DL.K.iseq2_ktp, DL.K.iRng1_K, DL.K.rg1_ok, DL.K.rg1_err, DL.K.iRng2_K, DL.K.rg2_ok, DL.K.rg2_err, DL.K.rg3_ok, DL.K.rg3_err, DL.K.pNo_K, DL.K.pSome_K, DL.K.psome1_ok, DL.K.eSlice_K, DL.K.sl1_ok, DL.K.sl1_err, DL.K.sl2_ok, DL.K.sl3_ok, DL.K.eLc_K, DL.K.lc0_err, DL.K.lc0_ok, DL.K.lcGo_nil, DL.K.lcGo_cons, DL.K.lc1_some, DL.K.lc2_t, DL.K.lc2_f, DL.K.lc3_ok, DL.K.lc4_some, DL.K.wipeE_nil, DL.K.wipeE_cons, DL.K.backE_nil, DL.K.backE_cons, DL.K.backSl_some, DL.K.isOw_va, DL.K.isOw_no, DL.K.eNewK_K, DL.K.eNewT_K, DL.K.eDisp1_K, DL.K.disp1_ok, DL.K.disp2_ok, DL.K.disp4_i, DL.K.gDictOf_K, DL.K.gRev_lst, DL.K.eLstR1_K, DL.K.lstr1_ok, DL.K.iZip_K, DL.K.zip1_ok, DL.K.zip2_ok, DL.K.zip3_some, DL.K.zip3b_some, DL.K.zip4_lstlst, DL.K.zip4_lstkls, DL.K.zip4_klslst, DL.K.zip4_klskls, DL.K.zip4_tuptup, DL.K.zip4_tupktp, DL.K.zip4_ktptup, DL.K.zip4_ktpktp, DL.K.iEnum_K, DL.K.enum1_ok, DL.K.enum2_lst, DL.K.enum2_kls, DL.K.eLcN_K, DL.K.lcn2_some, DL.K.iKeysD_K, DL.K.kd1_va, DL.K.isK_vaint, DL.K.isK_owint, DL.K.isK_vastr, DL.K.isK_owstr, DL.K.isK_vatup, DL.K.isK_owtup, DL.K.isK_valst, DL.K.isK_owlst, DL.K.isK_vakls, DL.K.isK_owkls, DL.K.isK_vaktp, DL.K.isK_owktp, DL.K.isK_vabl, DL.K.isK_owbl, DL.K.isK_vanon, DL.K.isK_vadct, DL.K.isK_owdct, DL.K.gLen_dct, DL.K.gIn_dct, DL.K.gNotIn_dct, DL.K.gIx_dct, DL.K.ixd_some, DL.K.gSet_dct, DL.K.sTry_K, DL.K.try1_nx, DL.K.try1_ret, DL.K.try1_brk, DL.K.try1_cnt, DL.K.try1_err, DL.K.try3_t, DL.K.try3_f, DL.K.try2_nx, DL.K.try2_ret, DL.K.try2_brk, DL.K.try2_cnt, DL.K.fnD_K, DL.K.fn1_ret, DL.K.fn1_nx, DL.K.fn1_err, DL.K.fn3_some, DL.K.fn4_some, DL.K.iosAt_nil, DL.K.iosAt_f, DL.K.iosAt_t, DL.K.ios1_ow, DL.K.argSl_f, DL.K.argSl_t, DL.K.argSl_nil, DL.K.gAdd_i, DL.K.gAdd_t, DL.K.gAdd_l, DL.K.gSub_i, DL.K.gIAdd_i, DL.K.gLt_i, DL.K.gLe_i, DL.K.gGt_i, DL.K.gGe_i, DL.K.gIx_lst, DL.K.gLen_lst, DL.K.gList_lst, DL.K.gIx_kls, DL.K.gLen_kls, DL.K.gList_kls, DL.K.gIx_tup, DL.K.gLen_tup, DL.K.gList_tup, DL.K.gIx_ktp, DL.K.gLen_ktp, DL.K.gList_ktp, DL.K.ix1_some, DL.K.ix2_some, DL.K.gSlice_lst, DL.K.gSlice_kls, DL.K.gSlice_tup, DL.K.gTuple_tup, DL.K.gTuple_ktp, DL.K.gTuple_lst, DL.K.gTuple_kls, DL.K.gInt_i, DL.K.gAbs_i, DL.K.gNeg_i, DL.K.gGcd_i, DL.K.gMax_i, DL.K.gMin_i, DL.K.gIs_nn, DL.K.gIsNot_nn, DL.K.gIs_bb, DL.K.gIs_intn, DL.K.gIsNot_intn, DL.K.gIs_strn, DL.K.gIsNot_strn, DL.K.gIs_tupn, DL.K.gIsNot_tupn, DL.K.gIs_lstn, DL.K.gIsNot_lstn, DL.K.gIs_klsn, DL.K.gIsNot_klsn, DL.K.gIs_ktpn, DL.K.gIsNot_ktpn, DL.K.gIs_bln, DL.K.gIsNot_bln, DL.K.gIs_dctn, DL.K.gIsNot_dctn, DL.K.gIs_dttn, DL.K.gIsNot_dttn, DL.K.gEq_ii, DL.K.gNe_ii, DL.K.gNe_bb, DL.K.gEq_bb, DL.K.dtr_bl, DL.K.dtr_int, DL.K.dtr_non, DL.K.dtr_lst, DL.K.dtr_kls, DL.K.dtr_tup, DL.K.dtr_ktp, DL.K.eIsi_K, DL.K.gSet_lst, DL.K.set5_some, DL.K.gAppend_K, DL.K.small0, DL.K.less0, DL.K.small1, DL.K.less1, DL.K.small2, DL.K.less2, DL.K.small3, DL.K.less3, DL.K.small4, DL.K.less4, DL.K.small5, DL.K.less5, DL.K.small6, DL.K.less6, DL.K.small7, DL.K.less7, DL.K.small8, DL.K.less8, DL.K.small9, DL.K.less9, DL.K.small10, DL.K.less10, DL.K.small11, DL.K.less11, DL.K.small12, DL.K.less12, DL.K.small13, DL.K.less13, DL.K.small14, DL.K.less14, DL.K.small15, DL.K.less15, DL.K.small16, DL.K.less16, DL.K.isD_bool_non, DL.K.isD_bool_bl, DL.K.isD_bool_int, DL.K.isD_bool_str, DL.K.isD_bool_tup, DL.K.isD_bool_lst, DL.K.isD_bool_kls, DL.K.isD_bool_ktp, DL.K.isD_bool_dct, DL.K.isD_bool_dtt, DL.K.isD_int_non, DL.K.isD_int_bl, DL.K.isD_int_int, DL.K.isD_int_str, DL.K.isD_int_tup, DL.K.isD_int_lst, DL.K.isD_int_kls, DL.K.isD_int_ktp, DL.K.isD_int_dct, DL.K.isD_int_dtt, DL.K.isD_str_non, DL.K.isD_str_bl, DL.K.isD_str_int, DL.K.isD_str_str, DL.K.isD_str_tup, DL.K.isD_str_lst, DL.K.isD_str_kls, DL.K.isD_str_ktp, DL.K.isD_str_dct, DL.K.isD_str_dtt, DL.K.isD_list_non, DL.K.isD_list_bl, DL.K.isD_list_int, DL.K.isD_list_str, DL.K.isD_list_tup, DL.K.isD_list_lst, DL.K.isD_list_kls, DL.K.isD_list_ktp, DL.K.isD_list_dct, DL.K.isD_list_dtt, DL.K.isD_tuple_non, DL.K.isD_tuple_bl, DL.K.isD_tuple_int, DL.K.isD_tuple_str, DL.K.isD_tuple_tup, DL.K.isD_tuple_lst, DL.K.isD_tuple_kls, DL.K.isD_tuple_ktp, DL.K.isD_tuple_dct, DL.K.isD_tuple_dtt, DL.K.isD_dict_non, DL.K.isD_dict_bl, DL.K.isD_dict_int, DL.K.isD_dict_str, DL.K.isD_dict_tup, DL.K.isD_dict_lst, DL.K.isD_dict_kls, DL.K.isD_dict_ktp, DL.K.isD_dict_dct, DL.K.isD_dict_dtt, DL.K.eQ_K, DL.K.q1_lst, DL.K.frzAll_cons, DL.K.frzAll_nil, DL.K.frzS_va, DL.K.frzS_ow, DL.K.frzS_no, DL.K.gMul_r, DL.K.gMul_l, DL.K.gMod_i, DL.K.gFdiv_s, DL.ixI, List.getElem?_cons_zero, List.getElem?_cons_succ, List.set_cons_zero, List.set_cons_succ, List.length_cons, List.length_nil, List.cons_append, List.nil_append, List.replicate_succ, List.replicate_zero, List.map_cons, List.map_nil, List.all_cons, List.all_nil, List.isEmpty_cons, List.isEmpty_nil, Nat.reduceAdd, Nat.reduceSub, Nat.reduceLT, Nat.reduceLeDiff, Nat.reduceEqDiff, Nat.reducePow, Nat.zero_add, Int.reduceNeg, Int.reduceLT, Int.reduceLE, Int.reduceEq, Int.reduceNe, Int.reducePow, Int.reduceAdd, Int.reduceSub, Int.reduceMul, Int.reduceToNat, Int.cast_ofNat_Int, Int.natCast_add, Int.natCast_one, Int.natCast_zero, Int.natAbs_neg, Int.reduceAbs, Int.zero_add, not_false_eq_true, not_true_eq_false, and_self, ne_eq, or_false, false_or, or_true, true_or, if_true, if_false, reduceIte, Bool.not_true, Bool.not_false, decide_eq_true_eq, decide_true, decide_false, true_and, and_true, and_false, false_and, implies_true, Option.some.injEq, reduceCtorEq, List.nodup_nil, List.not_mem_nil, bne_self_eq_false, beq_self_eq_true, Bool.true_and, Bool.and_true, Bool.false_and, Bool.and_false, Bool.true_or, Bool.or_true, Bool.false_or, Bool.or_false])
/-! hops: search in breadth with numbers of links. -/
namespace TT
open DL PySem GR
theorem hop_body (s0 s1 s2 : Sl) (v f : Nat) (k : KQ) (w : Nat) (hf : k.1.lookup v = some f) (hk : k.1.length < SZ) (hq : k.2.length < SZ) :
    w_hops_1 [s0, s1, s2, .ow false (dD k.1), .ow false (.lst (k.2.map nD)), .va (.int (v : Int)), .va (.int (w : Int))] = .nx [s0, s1, s2, .ow false (dD (visit (f + 1) k w).1), .ow false (.lst ((visit (f + 1) k w).2.map nD)), .va (.int (v : Int)), .va (.int (w : Int))] := by
  unfold w_hops_1
  have hs : (k.2.map nD).length < SZ := by rw [List.length_map]; exact hq
  by_cases h : w ∈ k.1.map (·.1)
  · rw [show visit (f + 1) k w = k from if_pos h]
    push_cast [gNotIn_dD, h]
  · rw [show visit (f + 1) k w = (k.1 ++ [(w, f + 1)], k.2 ++ [w]) from if_neg h]
    have e := gSet_dD_new (f + 1) h hk
    rw [show ((f + 1 : Nat) : Int) = (f : Int) + 1 from rfl] at e
    push_cast [gNotIn_dD, h, gIx_dD hf, e, hs, List.map_append]
theorem lookup_visit {v f x w : Nat} {k : KQ} (h : k.1.lookup v = some f) : (visit x k w).1.lookup v = some f := by
  by_cases q : w ∈ k.1.map (·.1)
  · rw [show visit x k w = k from if_pos q]; exact h
  · rw [show visit x k w = (k.1 ++ [(w, x)], k.2 ++ [w]) from if_neg q]
    show (k.1 ++ [(w, x)]).lookup v = _
    rw [List.lookup_append, h]; rfl
theorem hop_loop (s0 s1 s2 : Sl) (v f n : Nat) (hn : n ≤ 100) : ∀ (ws : List Nat) (k : KQ) (s6 : Sl), k.1.lookup v = some f → (k.1.map (·.1)).Nodup → (∀ v ∈ k.1.map (·.1), v < n) → (∀ v ∈ ws, v < n) → k.2.length + ws.length < 10000 →
    ∃ s6', forGo (.one 6) w_hops_1 (ws.map nD) [s0, s1, s2, .ow false (dD k.1), .ow false (.lst (k.2.map nD)), .va (.int (v : Int)), s6] = .nx [s0, s1, s2, .ow false (dD (ws.foldl (visit (f + 1)) k).1), .ow false (.lst ((ws.foldl (visit (f + 1)) k).2.map nD)), .va (.int (v : Int)), s6']
  | [], k, s6, _, _, _, _, _ => ⟨s6, rfl⟩
  | w :: ws, k, s6, hf, hk, hb, hw, hq => by
    have h1 := nodup_bound hk hb
    rw [List.length_map] at h1
    rw [List.length_cons] at hq
    have e1 := hop_body s0 s1 s2 v f k w hf (by unfold SZ; omega) (by unfold SZ; omega)
    have hv : ((visit (f + 1) k w).1.map (·.1)).Nodup ∧ (∀ u ∈ (visit (f + 1) k w).1.map (·.1), u < n) ∧ (visit (f + 1) k w).2.length ≤ k.2.length + 1 := by
      by_cases h : w ∈ k.1.map (·.1)
      · rw [show visit (f + 1) k w = k from if_pos h]; exact ⟨hk, hb, Nat.le_succ _⟩
      · rw [show visit (f + 1) k w = (k.1 ++ [(w, f + 1)], k.2 ++ [w]) from if_neg h]
        refine ⟨?_, fun u hu => ?_, by simp⟩
        · rw [List.map_append, List.nodup_append]
          exact ⟨hk, by simp, fun a ha b hb z => by simp at hb; subst hb; exact h (z ▸ ha)⟩
        · rw [List.map_append] at hu
          rcases List.mem_append.mp hu with z | z
          · exact hb u z
          · simp at z; subst z; exact hw u List.mem_cons_self
    obtain ⟨s6', e3⟩ := hop_loop s0 s1 s2 v f n hn ws (visit (f + 1) k w) (.va (nD w)) (lookup_visit hf) hv.1 hv.2.1 (fun u hu => hw u (List.mem_cons_of_mem _ hu)) (by omega)
    refine ⟨s6', ?_⟩
    rw [List.map_cons, K.forGo_cons, K.put_one, K.go0_some]
    show K.go1 _ _ _ (w_hops_1 [s0, s1, s2, .ow false (dD k.1), .ow false (.lst (k.2.map nD)), .va (.int (v : Int)), .va (.int (w : Int))]) = _
    rw [e1, K.go1_nx, e3]; rfl
theorem hops_is {ls : List Link} {n : Nat} (hn : n ≤ 100) (ok : okL n ls) (lv : Int) {s : Nat} (hs : s < n) :
    ∃ kvs, d_hops [bhD n ls, .int (s : Int), .int lv] = .ok (.tm (dD kvs)) [] ∧ (kvs.map (·.1)).Nodup ∧ (∀ p ∈ kvs, Dist (strong (some lv) ls) s p.1 p.2) ∧ ∀ v, Reach (strong (some lv) ls) s v → ∃ k, (v, k) ∈ kvs := by
  have W : ∃ r', sWhile t_hops_1 w_hops_2 [.va (bhD n ls), .va (.int (s : Int)), .va (.int lv), .ow false (dD [(s, 0)]), .ow false (.lst ([s].map nD)), .no, .no] = .nx r' ∧ ∃ kvs s5 s6, r' = [.va (bhD n ls), .va (.int (s : Int)), .va (.int lv), .ow false (dD kvs), .ow false (.lst []), s5, s6] ∧ BfsI (strong (some lv) ls) n s kvs [] := by
    refine while_run (fun m r => ∃ kvs qs s5 s6, r = [.va (bhD n ls), .va (.int (s : Int)), .va (.int lv), .ow false (dD kvs), .ow false (.lst ((qs.map (·.1)).map nD)), s5, s6] ∧ BfsI (strong (some lv) ls) n s kvs qs ∧ qs.length + 2 * (n - kvs.length) = m) _ ?_ (1 + 2 * (n - 1)) _ ⟨[(s, 0)], [(s, 0)], _, _, rfl, .start, rfl⟩
    rintro m r ⟨kvs, qs, s5, s6, rfl, I, hm⟩
    cases qs with
    | nil =>
      refine .inl ⟨[.va (bhD n ls), .va (.int (s : Int)), .va (.int lv), .ow false (dD kvs), .ow false (.lst []), s5, s6], ?_, kvs, s5, s6, rfl, I⟩
      unfold t_hops_1
      have e := gNe_nil []
      rw [List.map_nil] at e
      push_cast [e]
    | cons vf qs =>
      obtain ⟨v, f⟩ := vf
      have lt : ∀ u ∈ kvs.map (·.1), u < n := fun u hu => by
        obtain ⟨p, hp, rfl⟩ := List.mem_map.mp hu
        exact Reach.lt (strong_lt ok) hs ⟨_, I.ways p hp⟩
      have hlen := nodup_bound I.nd lt
      rw [List.length_map] at hlen
      have hvk := I.sub (v, f) List.mem_cons_self
      have hv := lt v (List.mem_map.mpr ⟨_, hvk, rfl⟩)
      have hlk := lookup_of_mem I.nd hvk
      have hws : ∀ u ∈ srt (nb (some lv) v ls), u < n := fun u hu => by
        have a := nb_mem.mp (mem_srt.mp hu)
        exact a.elim (fun k => (strong_lt ok _ k).2) fun k => (strong_lt ok _ k).1
      have hl5 : (srt (nb (some lv) v ls)).length < 5000 := by rw [srt_len]; have := nb_len (some lv) v ls; have := ok.2; omega
      have hq : qs.length ≤ n := by
        have q := I.qnd
        rw [List.map_cons, List.nodup_cons] at q
        have := nodup_bound q.2 (n := n) fun u hu => by
          obtain ⟨p, hp, rfl⟩ := List.mem_map.mp hu
          exact lt _ (List.mem_map.mpr ⟨p, I.sub p (List.mem_cons_of_mem _ hp), rfl⟩)
        rw [List.length_map] at this; exact this
      obtain ⟨news, e, h1, h2⟩ := visit_all (f + 1) (srt (nb (some lv) v ls)) (kvs, qs.map (·.1)) I.nd
      have h2' : ∀ w, w ∈ news ↔ Adj (strong (some lv) ls) v w ∧ w ∉ kvs.map (·.1) := fun w => by rw [h2, mem_srt, nb_mem]
      have J := I.next h1 h2'
      obtain ⟨s6', e2⟩ := hop_loop (.va (bhD n ls)) (.va (.int (s : Int))) (.va (.int lv)) v f n hn (srt (nb (some lv) v ls)) (kvs, qs.map (·.1)) s6 hlk I.nd lt hws (by show (qs.map (·.1)).length + _ < _; rw [List.length_map]; omega)
      rw [e] at e2
      have lt2 : ∀ u ∈ (kvs ++ news.map fun w => (w, f + 1)).map (·.1), u < n := fun u hu => by
        obtain ⟨p, hp, rfl⟩ := List.mem_map.mp hu
        exact Reach.lt (strong_lt ok) hs ⟨_, J.ways p hp⟩
      have hlen2 := nodup_bound J.nd lt2
      rw [List.length_map, List.length_append, List.length_map] at hlen2
      have mm : (qs ++ news.map fun w => (w, f + 1)).map (·.1) = qs.map (·.1) ++ news := by
        rw [List.map_append, List.map_map]; congr 1; exact List.map_id'' (fun _ => rfl) _
      refine .inr ⟨[.va (bhD n ls), .va (.int (s : Int)), .va (.int lv), .ow false (dD kvs), .ow false (.lst ((((v, f) :: qs).map (·.1)).map nD)), s5, s6], ?_, [.va (bhD n ls), .va (.int (s : Int)), .va (.int lv), .ow false (dD (kvs ++ news.map fun w => (w, f + 1))), .ow false (.lst (((qs ++ news.map fun w => (w, f + 1)).map (·.1)).map nD)), .va (.int (v : Int)), s6'], (qs ++ news.map fun w => (w, f + 1)).length + 2 * (n - (kvs ++ news.map fun w => (w, f + 1)).length), .inl ?_, ?_, _, _, _, _, rfl, J, rfl⟩
      · unfold t_hops_1
        have e := gNe_nil (v :: qs.map (·.1))
        rw [List.map_cons] at e
        push_cast [e]
      · unfold w_hops_2
        have e1 := nn_is (rows := .tup (ls.map linkD)) (.inr rfl) (some lv) v ok.2
        rw [show lvD (some lv) = .int lv from rfl] at e1
        unfold bhD at e2 ⊢
        rw [mm]
        push_cast [gPopAt0, e1, e2]
      · rw [← hm]; simp only [List.length_append, List.length_map, List.length_cons]; omega
  obtain ⟨r', e, kvs, s5, s6, rfl, I⟩ := W
  refine ⟨kvs, ?_, I.nd, I.dist.1, I.dist.2⟩
  unfold d_hops b_hops
  rw [show [s].map nD = [D.int (s : Int)] from rfl] at e
  have z : dD [(s, 0)] = .dct [(.inl (s : Int), .int 0)] := rfl
  rw [z] at e
  push_cast [e]
/-! ### step after step -/
def vis (x : Nat) (kvs : List (Nat × Nat)) (w : Nat) : List (Nat × Nat) := if w ∈ kvs.map (·.1) then kvs else kvs ++ [(w, x)]
theorem vis_all (x : Nat) (ws : List Nat) (kvs : List (Nat × Nat)) (h : (kvs.map (·.1)).Nodup) : ∃ news : List Nat, ws.foldl (vis x) kvs = kvs ++ (news.map fun w => (w, x)) ∧ news.Nodup ∧ ∀ w, w ∈ news ↔ w ∈ ws ∧ w ∉ kvs.map (·.1) := by
  obtain ⟨news, e, h1, h2⟩ := visit_all x ws (kvs, []) h
  refine ⟨news, ?_, h1, h2⟩
  have H : ∀ (ws : List Nat) (s : KQ), (ws.foldl (visit x) s).1 = ws.foldl (vis x) s.1 := by
    intro ws
    induction ws with
    | nil => intro s; rfl
    | cons w ws ih =>
      intro s
      rw [List.foldl_cons, List.foldl_cons, ih]
      congr 1
      unfold visit vis
      split <;> rfl
  have := H ws (kvs, [])
  rw [e] at this
  exact this.symm
structure DueI (E : Es) (s t : Nat) (kvs : List (Nat × Nat)) : Prop where
  nd : (kvs.map (·.1)).Nodup
  ways : ∀ p ∈ kvs, p.2 ≤ t ∧ Way E s p.2 p.1
  all : ∀ k v, k ≤ t → Way E s k v → ∃ j, j ≤ k ∧ (v, j) ∈ kvs
theorem DueI.start {E : Es} {s : Nat} : DueI E s 0 [(s, 0)] where
  nd := by simp
  ways := fun p h => by simp at h; subst h; exact ⟨Nat.le_refl _, .zero⟩
  all := fun k v hk w => by
    have : k = 0 := by omega
    subst this
    cases w
    exact ⟨0, Nat.le_refl _, by simp⟩
def here (t : Nat) (kvs : List (Nat × Nat)) : List Nat := (kvs.filter fun p => decide (p.2 = t)).map (·.1)
theorem DueI.next {E : Es} {s t : Nat} {kvs : List (Nat × Nat)} (I : DueI E s t kvs) {news : List Nat} (h1 : news.Nodup) (h2 : ∀ w, w ∈ news ↔ (∃ u ∈ here t kvs, Adj E u w) ∧ w ∉ kvs.map (·.1)) : DueI E s (t + 1) (kvs ++ news.map fun w => (w, t + 1)) where
  nd := by
    rw [List.map_append, List.map_map, show ((fun x : Nat × Nat => x.1) ∘ fun w : Nat => (w, t + 1)) = id from rfl, List.map_id, List.nodup_append]
    exact ⟨I.nd, h1, fun a ha b hb z => ((h2 b).mp hb).2 (z ▸ ha)⟩
  ways := fun p hp => by
    rcases List.mem_append.mp hp with h | h
    · have := I.ways p h; exact ⟨by omega, this.2⟩
    · obtain ⟨w, hw, rfl⟩ := List.mem_map.mp h
      obtain ⟨⟨u, hu, a⟩, _⟩ := (h2 w).mp hw
      unfold here at hu
      obtain ⟨q, hq, rfl⟩ := List.mem_map.mp hu
      obtain ⟨hq, e⟩ := List.mem_filter.mp hq
      have e := of_decide_eq_true e
      exact ⟨Nat.le_refl _, by have := (I.ways q hq).2; rw [e] at this; exact this.step a⟩
  all := fun k v hk w => by
    have old : ∀ j v, j ≤ t → Way E s j v → ∃ i, i ≤ j ∧ (v, i) ∈ kvs ++ news.map fun w => (w, t + 1) := fun j v hj w => by
      obtain ⟨i, a, b⟩ := I.all j v hj w
      exact ⟨i, a, List.mem_append_left _ b⟩
    by_cases hkt : k ≤ t
    · exact old k v hkt w
    · cases w with
      | zero => exact old 0 _ (Nat.zero_le _) .zero
      | @step j u _ w a =>
        obtain ⟨i, hi, hm⟩ := I.all j u (by omega) w
        by_cases e : i = t
        · by_cases q : v ∈ kvs.map (·.1)
          · obtain ⟨p, hp, rfl⟩ := List.mem_map.mp q
            have := I.ways p hp
            exact ⟨p.2, by omega, List.mem_append_left _ hp⟩
          · refine ⟨t + 1, by omega, List.mem_append_right _ (List.mem_map.mpr ⟨v, (h2 v).mpr ⟨⟨u, ?_, a⟩, q⟩, rfl⟩)⟩
            unfold here
            exact List.mem_map.mpr ⟨(u, i), List.mem_filter.mpr ⟨hm, decide_eq_true e⟩, rfl⟩
        · obtain ⟨i2, a2, b2⟩ := old (i + 1) v (by omega) ((I.ways _ hm).2.step a)
          exact ⟨i2, by omega, b2⟩
end TT
end

section
set_option autoImplicit false
set_option linter.all false
set_option maxRecDepth 20000
local macro_rules | `(tactic| push_cast [$ls,*]) => `(tactic| simp only [$ls,*, DL.K.eBin_K, DL.K.bin1_ok, DL.K.bin1_err, DL.K.opt_some, DL.K.bin2_ok, DL.K.bin2_err, DL.K.bin3_some, DL.K.eUn_K, DL.K.un1_ok, DL.K.un1_err, DL.K.un2_some, DL.K.aCons_K, DL.K.cons1_ok, DL.K.cons1_err, DL.K.cons2_ok, DL.K.cons2_err, DL.K.aNil_K, DL.K.ePure_K, DL.K.pure1_ok, DL.K.pure1_err, DL.K.pure2_some, DL.K.eTup_K, DL.K.tup1_ok, DL.K.tup1_err, DL.K.tup2_some, DL.K.eLst_K, DL.K.lst1_ok, DL.K.lst1_err, DL.K.lst2_some, DL.K.eName_K, DL.K.name1_va, DL.K.name1_ow, DL.K.eC_K, DL.K.rsv_fz, DL.K.rsv_tm, DL.K.rsv_br, DL.K.rsv1_ow, DL.K.rsv1_va, DL.K.rsvs_nil, DL.K.rsvs_cons, DL.K.rsvs1_some, DL.K.rsvs2_some, DL.K.fzo_fz, DL.K.fzo_tm, DL.K.fzo_br, DL.K.fzo1_ow, DL.K.fzo1_va, DL.K.fzos_nil, DL.K.fzos_cons, DL.K.fzos1_some, DL.K.fzos2_some, DL.K.tTru_K, DL.K.tru1_ok, DL.K.tru1_err, DL.K.tru2_some, DL.K.tru3_some, DL.K.tBl_K, DL.K.tbl1_ok, DL.K.tbl1_err, DL.K.tAnd_K, DL.K.and1_t, DL.K.and1_f, DL.K.and1_err, DL.K.tOr_K, DL.K.or1_t, DL.K.or1_f, DL.K.or1_err, DL.K.tNot_K, DL.K.not1_ok, DL.K.not1_err, DL.K.tYes_K, DL.K.eAnd_K, DL.K.eand1_t, DL.K.eand1_f, DL.K.eand1_err, DL.K.eOr_K, DL.K.eor1_t, DL.K.eor1_f, DL.K.eor1_err, DL.K.eNot_K, DL.K.eNotE_K, DL.K.enot1_ok, DL.K.enot1_err, DL.K.eIf_K, DL.K.eif1_t, DL.K.eif1_f, DL.K.eif1_err, DL.K.eCh_K, DL.K.ch1_ok, DL.K.ch1_err, DL.K.chLast_K, DL.K.chLink_K, DL.K.link1_ok, DL.K.link2_some, DL.K.link3_t, DL.K.link3_f, DL.K.eCall_K, DL.K.call1_ok, DL.K.call1_err, DL.K.call2_nil, DL.K.call2_one, DL.K.call3_ok0, DL.K.call3_err0, DL.K.call3_ok1, DL.K.call3_err1, DL.K.put1_ow, DL.K.isOw_ow, DL.K.iosOf_nil, DL.K.iosOf_f, DL.K.iosOf_t, DL.K.argsOf_nil, DL.K.argsOf_f, DL.K.args1_some, DL.K.args2_some, DL.K.argsOf_t, DL.K.args3_ow, DL.K.sSeq_K, DL.K.seq1_nx, DL.K.seq1_ret, DL.K.seq1_brk, DL.K.seq1_cnt, DL.K.seq1_err, DL.K.sNext_K, DL.K.sBreak_K, DL.K.sCont_K, DL.K.sRetN_K, DL.K.sRaise_K, DL.K.sExpr_K, DL.K.expr1_ok, DL.K.expr1_err, DL.K.sSet_K, DL.K.set1_fz, DL.K.set1_tm, DL.K.set1_br, DL.K.set2_some, DL.K.set1_err, DL.K.sUnp_K, DL.K.unp1_ok, DL.K.unp1_err, DL.K.unp2_some, DL.K.nxo_some, DL.K.put_one, DL.K.put_tup, DL.K.put_ktp, DL.K.setAll_nil, DL.K.setAll_cons, DL.K.sPar_K, DL.K.par1_ok, DL.K.par1_err, DL.K.par2_ok, DL.K.par2_err, DL.K.par3_some, DL.K.keep2_fz, DL.K.keep2_tm, DL.K.sAug_K, DL.K.aug0_va, DL.K.aug1_ok, DL.K.aug1_err, DL.K.aug2_some, DL.K.aug3_some, DL.K.sRet_K, DL.K.ret1_fz, DL.K.ret1_tm, DL.K.ret1_br, DL.K.ret1_err, DL.K.ret2_ow, DL.K.ret2_va, DL.K.sIf_K, DL.K.if1_t, DL.K.if1_f, DL.K.if1_err, DL.K.sSub_K, DL.K.sub1_ok, DL.K.sub1_err, DL.K.sub2_ok, DL.K.sub2_err, DL.K.sub3_some, DL.K.sub4_some, DL.K.sub5_some, DL.K.eMut_K, DL.K.isL_lst, DL.K.mut0_ok, DL.K.mut0_err, DL.K.mut1_some, DL.K.mut2_some, DL.K.mut3_some, DL.K.sFor_K, DL.K.for1_ok, DL.K.for1_err, DL.K.forGo_nil, DL.K.forGo_cons, DL.K.go0_some, DL.K.go1_nx, DL.K.go1_cnt, DL.K.go1_brk, DL.K.go1_ret, DL.K.go1_err, DL.K.whN_K, DL.K.wh1_t, DL.K.wh1_f, DL.K.wh2_nx, DL.K.wh2_cnt, DL.K.wh2_brk, DL.K.wh2_ret, DL.K.wh2_err, DL.K.iSeq_K, DL.K.iseq1_ok, DL.K.iseq1_err, DL.K.iseq2_lst, DL.K.iseq2_tup, DL.K.iseq2_kls, DL.K.iseq2_ktp, DL.K.iRng1_K, DL.K.rg1_ok, DL.K.rg1_err, DL.K.iRng2_K, DL.K.rg2_ok, DL.K.rg2_err, DL.K.rg3_ok, DL.K.rg3_err, DL.K.pNo_K, DL.K.pSome_K, DL.K.psome1_ok, DL.K.eSlice_K, DL.K.sl1_ok, DL.K.sl1_err, DL.K.sl2_ok, DL.K.sl3_ok, DL.K.eLc_K, DL.K.lc0_err, DL.K.lc0_ok, DL.K.lcGo_nil, DL.K.lcGo_cons, DL.K.lc1_some, DL.K.lc2_t, DL.K.lc2_f, DL.K.lc3_ok, DL.K.lc4_some, DL.K.wipeE_nil, DL.K.wipeE_cons, DL.K.backE_nil, DL.K.backE_cons, DL.K.backSl_some, DL.K.isOw_va, DL.K.isOw_no, DL.K.eNewK_K, DL.K.eNewT_K, DL.K.eDisp1_K, DL.K.disp1_ok, DL.K.disp2_ok, DL.K.disp4_i, DL.K.gDictOf_K, DL.K.gRev_lst, DL.K.eLstR1_K, DL.K.lstr1_ok, DL.K.iZip_K, DL.K.zip1_ok, DL.K.zip2_ok, DL.K.zip3_some, DL.K.zip3b_some, DL.K.zip4_lstlst, DL.K.zip4_lstkls, DL.K.zip4_klslst, DL.K.zip4_klskls, DL.K.zip4_tuptup, DL.K.zip4_tupktp, DL.K.zip4_ktptup, DL.K.zip4_ktpktp, DL.K.iEnum_K, DL.K.enum1_ok, DL.K.enum2_lst, DL.K.enum2_kls, DL.K.eLcN_K, DL.K.lcn2_some, DL.K.iKeysD_K, DL.K.kd1_va, DL.K.isK_vaint, DL.K.isK_owint, DL.K.isK_vastr, DL.K.isK_owstr, DL.K.isK_vatup, DL.K.isK_owtup, DL.K.isK_valst, DL.K.isK_owlst, DL.K.isK_vakls, DL.K.isK_owkls, DL.K.isK_vaktp, DL.K.isK_owktp, DL.K.isK_vabl, DL.K.isK_owbl, DL.K.isK_vanon, DL.K.isK_vadct, DL.K.isK_owdct, DL.K.gLen_dct, DL.K.gIn_dct, DL.K.gNotIn_dct, DL.K.gIx_dct, DL.K.ixd_some, DL.K.gSet_dct, DL.K.sTry_K, DL.K.try1_nx, DL.K.try1_ret, DL.K.try1_brk, DL.K.try1_cnt, DL.K.try1_err, DL.K.try3_t, DL.K.try3_f, DL.K.try2_nx, DL.K.try2_ret, DL.K.try2_brk, DL.K.try2_cnt, DL.K.fnD_K, DL.K.fn1_ret, DL.K.fn1_nx, DL.K.fn1_err, DL.K.fn3_some, DL.K.fn4_some, DL.K.iosAt_nil, DL.K.iosAt_f, DL.K.iosAt_t, DL.K.ios1_ow, DL.K.argSl_f, DL.K.argSl_t, DL.K.argSl_nil, DL.K.gAdd_i, DL.K.gAdd_t, DL.K.gAdd_l, DL.K.gSub_i, DL.K.gIAdd_i, DL.K.gLt_i, DL.K.gLe_i, DL.K.gGt_i, DL.K.gGe_i, DL.K.gIx_lst, DL.K.gLen_lst, DL.K.gList_lst, DL.K.gIx_kls, DL.K.gLen_kls, DL.K.gList_kls, DL.K.gIx_tup, DL.K.gLen_tup, DL.K.gList_tup, DL.K.gIx_ktp, DL.K.gLen_ktp, DL.K.gList_ktp, DL.K.ix1_some, DL.K.ix2_some, DL.K.gSlice_lst, DL.K.gSlice_kls, DL.K.gSlice_tup, DL.K.gTuple_tup, DL.K.gTuple_ktp, DL.K.gTuple_lst, DL.K.gTuple_kls, DL.K.gInt_i, DL.K.gAbs_i, DL.K.gNeg_i, DL.K.gGcd_i, DL.K.gMax_i, DL.K.gMin_i, DL.K.gIs_nn, DL.K.gIsNot_nn, DL.K.gIs_bb, DL.K.gIs_intn, DL.K.gIsNot_intn, DL.K.gIs_strn, DL.K.gIsNot_strn, DL.K.gIs_tupn, DL.K.gIsNot_tupn, DL.K.gIs_lstn, DL.K.gIsNot_lstn, DL.K.gIs_klsn, DL.K.gIsNot_klsn, DL.K.gIs_ktpn, DL.K.gIsNot_ktpn, DL.K.gIs_bln, DL.K.gIsNot_bln, DL.K.gIs_dctn, DL.K.gIsNot_dctn, DL.K.gIs_dttn, DL.K.gIsNot_dttn, DL.K.gEq_ii, DL.K.gNe_ii, DL.K.gNe_bb, DL.K.gEq_bb, DL.K.dtr_bl, DL.K.dtr_int, DL.K.dtr_non, DL.K.dtr_lst, DL.K.dtr_kls, DL.K.dtr_tup, DL.K.dtr_ktp, DL.K.eIsi_K, DL.K.gSet_lst, DL.K.set5_some, DL.K.gAppend_K, DL.K.small0, DL.K.less0, DL.K.small1, DL.K.less1, DL.K.small2, DL.K.less2, DL.K.small3, DL.K.less3, DL.K.small4, DL.K.less4, DL.K.small5, DL.K.less5, DL.K.small6, DL.K.less6, DL.K.small7, DL.K.less7, DL.K.small8, DL.K.less8, DL.K.small9, DL.K.less9, DL.K.small10, DL.K.less10, DL.K.small11, DL.K.less11, DL.K.small12, DL.K.less12, DL.K.small13, DL.K.less13, DL.K.small14, DL.K.less14, DL.K.small15, DL.K.less15, DL.K.small16, DL.K.less16, DL.K.isD_bool_non, DL.K.isD_bool_bl, DL.K.isD_bool_int, DL.K.isD_bool_str, DL.K.isD_bool_tup, DL.K.isD_bool_lst, DL.K.isD_bool_kls, DL.K.isD_bool_ktp, DL.K.isD_bool_dct, DL.K.isD_bool_dtt, DL.K.isD_int_non, DL.K.isD_int_bl, DL.K.isD_int_int, DL.K.isD_int_str, DL.K.isD_int_tup, DL.K.isD_int_lst, DL.K.isD_int_kls, DL.K.isD_int_ktp, DL.K.isD_int_dct, DL.K.isD_int_dtt, DL.K.isD_str_non, DL.K.isD_str_bl, DL.K.isD_str_int, DL.K.isD_str_str, DL.K.isD_str_tup, DL.K.isD_str_lst, DL.K.isD_str_kls, DL.K.isD_str_ktp, DL.K.isD_str_dct, DL.K.isD_str_dtt, DL.K.isD_list_non, DL.K.isD_list_bl, DL.K.isD_list_int, DL.K.isD_list_str, DL.K.isD_list_tup, DL.K.isD_list_lst, DL.K.isD_list_kls, DL.K.isD_list_ktp, DL.K.isD_list_dct, DL.K.isD_list_dtt, DL.K.isD_tuple_non, DL.K.isD_tuple_bl, DL.K.isD_tuple_int, DL.K.isD_tuple_str, DL.K.isD_tuple_tup, DL.K.isD_tuple_lst, DL.K.isD_tuple_kls, DL.K.isD_tuple_ktp, DL.K.isD_tuple_dct, DL.K.isD_tuple_dtt, DL.K.isD_dict_non, DL.K.isD_dict_bl, DL.K.isD_dict_int, DL.K.isD_dict_str, DL.K.isD_dict_tup, DL.K.isD_dict_lst, DL.K.isD_dict_kls, DL.K.isD_dict_ktp, DL.K.isD_dict_dct, DL.K.isD_dict_dtt, DL.K.eQ_K, DL.K.q1_lst, DL.K.frzAll_cons, DL.K.frzAll_nil, DL.K.frzS_va, DL.K.frzS_ow, DL.K.frzS_no, DL.K.gMul_r, DL.K.gMul_l, DL.K.gMod_i, DL.K.gFdiv_s, DL.ixI, List.getElem?_cons_zero, List.getElem?_cons_succ, List.set_cons_zero, List.set_cons_succ, List.length_cons, List.length_nil, List.cons_append, List.nil_append, List.replicate_succ, List.replicate_zero, List.map_cons, List.map_nil, List.all_cons, List.all_nil, List.isEmpty_cons, List.isEmpty_nil, Nat.reduceAdd, Nat.reduceSub, Nat.reduceLT, Nat.reduceLeDiff, Nat.reduceEqDiff, Nat.reducePow, Nat.zero_add, Int.reduceNeg, Int.reduceLT, Int.reduceLE, Int.reduceEq, Int.reduceNe, Int.reducePow, Int.reduceAdd, Int.reduceSub, Int.reduceMul, Int.reduceToNat, Int.cast_ofNat_Int, Int.natCast_add, Int.natCast_one, Int.natCast_zero, Int.natAbs_neg, Int.reduceAbs, Int.zero_add, not_false_eq_true, not_true_eq_false, and_self, ne_eq, or_false, false_or, or_true, true_or, if_true, if_false, reduceIte, Bool.not_true, Bool.not_false, decide_eq_true_eq, decide_true, decide_false, true_and, and_true, and_false, false_and, implies_true, Option.some.injEq, reduceCtorEq, List.nodup_nil, List.not_mem_nil, bne_self_eq_false, beq_self_eq_true, Bool.true_and, Bool.and_true, Bool.false_and, Bool.and_false, Bool.true_or, Bool.or_true, Bool.false_or, Bool.or_false])
/-! k75: the law. -/
namespace TT
open DL PySem GR
/-- the nodes that pairs join with one -/
def oth (v : Nat) (ps : Es) : List Nat := (ps.filter fun p => decide (v = p.1 ∨ v = p.2)).map fun p => p.1 + p.2 - v
theorem oth_mem {v w : Nat} {ps : Es} : w ∈ oth v ps ↔ Adj ps v w := by
  unfold oth Adj
  simp only [List.mem_map, List.mem_filter, decide_eq_true_eq]
  constructor
  · rintro ⟨p, ⟨h1, h3⟩, rfl⟩
    rcases h3 with h3 | h3
    · exact .inl (by rw [h3]; rw [show p.1 + p.2 - p.1 = p.2 by omega]; exact h1)
    · exact .inr (by rw [h3]; rw [show p.1 + p.2 - p.2 = p.1 by omega]; exact h1)
  · rintro (h | h)
    · exact ⟨_, ⟨h, .inl rfl⟩, by simp⟩
    · exact ⟨_, ⟨h, .inr rfl⟩, by simp⟩
theorem oth_snoc (v : Nat) (ps : Es) (p : Nat × Nat) : oth v (ps ++ [p]) = oth v ps ++ (if v = p.1 ∨ v = p.2 then [p.1 + p.2 - v] else []) := by
  unfold oth
  rw [List.filter_append, List.map_append]
  congr 1
  by_cases h : v = p.1 ∨ v = p.2 <;> simp [h]
abbrev due (x0 x1 x2 x3 x4 x5 x6 : Sl) (kvs : List (Nat × Nat)) (x8 x9 x10 x11 x12 x13 x14 x15 x16 x17 : Sl) : Ev := [x0, x1, x2, x3, x4, x5, x6, .ow false (dD kvs), x8, x9, x10, x11, x12, x13, x14, x15, x16, x17]
theorem due_body (x0 x1 x2 x3 x4 x5 x6 : Sl) (kvs : List (Nat × Nat)) (t v : Nat) (p : Nat × Nat) (x9 x12 x13 x14 x15 x16 x17 : Sl) (hk : kvs.length < SZ) :
    ∃ x12', w_law_1 (due x0 x1 x2 x3 x4 x5 x6 kvs (.va (.int (t : Int))) x9 (.va (.int (v : Int))) (.va (pairD p)) x12 x13 x14 x15 x16 x17) = .nx (due x0 x1 x2 x3 x4 x5 x6 (if v = p.1 ∨ v = p.2 then vis (t + 1) kvs (p.1 + p.2 - v) else kvs) (.va (.int (t : Int))) x9 (.va (.int (v : Int))) (.va (pairD p)) x12' x13 x14 x15 x16 x17) := by
  unfold w_law_1 pairD
  by_cases h : v = p.1 ∨ v = p.2
  · rw [if_pos h]
    have e : (p.1 : Int) + (p.2 : Int) - (v : Int) = ((p.1 + p.2 - v : Nat) : Int) := by omega
    by_cases q : p.1 + p.2 - v ∈ kvs.map (·.1)
    · rw [show vis (t + 1) kvs (p.1 + p.2 - v) = kvs from if_pos q]
      refine ⟨.va (.int ((p.1 + p.2 - v : Nat) : Int)), ?_⟩
      push_cast [gIn_p, h, e, gNotIn_dD, q]
    · rw [show vis (t + 1) kvs (p.1 + p.2 - v) = kvs ++ [(p.1 + p.2 - v, t + 1)] from if_neg q]
      have e2 := gSet_dD_new (t + 1) q hk
      rw [show ((t + 1 : Nat) : Int) = (t : Int) + 1 from rfl] at e2
      refine ⟨.va (.int ((p.1 + p.2 - v : Nat) : Int)), ?_⟩
      push_cast [gIn_p, h, e, gNotIn_dD, q, e2]
  · rw [if_neg h]
    refine ⟨x12, ?_⟩
    push_cast [gIn_p, h]
theorem vis_keys {x n w : Nat} {kvs : List (Nat × Nat)} (hk : (kvs.map (·.1)).Nodup) (hb : ∀ v ∈ kvs.map (·.1), v < n) (hw : w < n) : ((vis x kvs w).map (·.1)).Nodup ∧ ∀ v ∈ (vis x kvs w).map (·.1), v < n := by
  unfold vis
  split
  · exact ⟨hk, hb⟩
  · rename_i h
    refine ⟨?_, fun u hu => ?_⟩
    · rw [List.map_append, List.nodup_append]
      exact ⟨hk, by simp, fun a ha b hb z => by simp at hb; subst hb; exact h (z ▸ ha)⟩
    · rw [List.map_append] at hu
      rcases List.mem_append.mp hu with z | z
      · exact hb u z
      · simp at z; subst z; exact hw
theorem viss_keys {x n : Nat} : ∀ (ws : List Nat) {kvs : List (Nat × Nat)}, (kvs.map (·.1)).Nodup → (∀ v ∈ kvs.map (·.1), v < n) → (∀ w ∈ ws, w < n) → ((ws.foldl (vis x) kvs).map (·.1)).Nodup ∧ ∀ v ∈ (ws.foldl (vis x) kvs).map (·.1), v < n
  | [], _, h1, h2, _ => ⟨h1, h2⟩
  | w :: ws, kvs, h1, h2, h3 => by
    obtain ⟨a, b⟩ := vis_keys (x := x) h1 h2 (h3 w List.mem_cons_self)
    exact viss_keys ws a b fun u hu => h3 u (List.mem_cons_of_mem _ hu)
def isPs (n : Nat) (ps : Es) : Prop := ∀ p ∈ ps, p.1 < n ∧ p.2 < n
theorem oth_lt {n v : Nat} {ps : Es} (h : isPs n ps) : ∀ w ∈ oth v ps, w < n := fun w hw => (oth_mem.mp hw).elim (fun k => (h _ k).2) fun k => (h _ k).1
theorem due_in (x0 x1 x2 x3 x4 x5 : Sl) (ps : Es) (n : Nat) (hn : n ≤ 100) (hps : isPs n ps) (kvs : List (Nat × Nat)) (t v : Nat) (x9 x11 x12 x13 x14 x15 x16 x17 : Sl) (hk : (kvs.map (·.1)).Nodup) (hb : ∀ v ∈ kvs.map (·.1), v < n) :
    ∃ x11' x12', w_law_2 (due x0 x1 x2 x3 x4 x5 (.ow false (.lst (ps.map pairD))) kvs (.va (.int (t : Int))) x9 (.va (.int (v : Int))) x11 x12 x13 x14 x15 x16 x17) = .nx (due x0 x1 x2 x3 x4 x5 (.va (.lst (ps.map pairD))) ((oth v ps).foldl (vis (t + 1)) kvs) (.va (.int (t : Int))) x9 (.va (.int (v : Int))) x11' x12' x13 x14 x15 x16 x17) ∧
      w_law_2 (due x0 x1 x2 x3 x4 x5 (.va (.lst (ps.map pairD))) kvs (.va (.int (t : Int))) x9 (.va (.int (v : Int))) x11 x12 x13 x14 x15 x16 x17) = .nx (due x0 x1 x2 x3 x4 x5 (.va (.lst (ps.map pairD))) ((oth v ps).foldl (vis (t + 1)) kvs) (.va (.int (t : Int))) x9 (.va (.int (v : Int))) x11' x12' x13 x14 x15 x16 x17) := by
  obtain ⟨r', e, x11', x12', rfl⟩ := for_inv (t := .one 11) (b := w_law_1) pairD (fun pre r => ∃ x11 x12, r = due x0 x1 x2 x3 x4 x5 (.va (.lst (ps.map pairD))) ((oth v pre).foldl (vis (t + 1)) kvs) (.va (.int (t : Int))) x9 (.va (.int (v : Int))) x11 x12 x13 x14 x15 x16 x17) ps (r := due x0 x1 x2 x3 x4 x5 (.va (.lst (ps.map pairD))) kvs (.va (.int (t : Int))) x9 (.va (.int (v : Int))) x11 x12 x13 x14 x15 x16 x17) ⟨_, _, rfl⟩ (by
    rintro pre p post e r ⟨x11, x12, rfl⟩
    have hpre : isPs n pre := fun q hq => hps q (by rw [e]; exact List.mem_append_left _ hq)
    obtain ⟨a, b⟩ := viss_keys (x := t + 1) (oth v pre) hk hb (oth_lt hpre)
    have hl := nodup_bound a b
    rw [List.length_map] at hl
    obtain ⟨x12', e2⟩ := due_body x0 x1 x2 x3 x4 x5 (.va (.lst (ps.map pairD))) ((oth v pre).foldl (vis (t + 1)) kvs) t v p x9 x12 x13 x14 x15 x16 x17 (by unfold SZ; omega)
    refine ⟨_, rfl, _, .inl e2, .va (pairD p), x12', ?_⟩
    rw [oth_snoc, List.foldl_append]
    by_cases h : v = p.1 ∨ v = p.2
    · rw [if_pos h, if_pos h]; rfl
    · rw [if_neg h, if_neg h]; rfl)
  refine ⟨x11', x12', ?_, ?_⟩
  · unfold w_law_2
    push_cast [e]
  · unfold w_law_2
    push_cast [e]
def psSl (x6 : Sl) (ps : Es) : Prop := x6 = .va (.lst (ps.map pairD)) ∨ x6 = .ow false (.lst (ps.map pairD))
theorem isOw_frz (s : Sl) : isOw (some (frzS s)) = false := by cases s <;> rfl
abbrev dueF (x0 x1 x2 x3 x4 x5 x6 : Sl) (kvs : List (Nat × Nat)) (x8 x9 x10 x11 x12 x13 x14 x15 x16 x17 : Sl) : Ev := [frzS x0, frzS x1, frzS x2, frzS x3, frzS x4, frzS x5, frzS x6, .va (dD kvs), x8, frzS x9, x10, frzS x11, frzS x12, frzS x13, frzS x14, frzS x15, frzS x16, frzS x17]
theorem here_q (x0 x1 x2 x3 x4 x5 x6 : Sl) (kvs : List (Nat × Nat)) (t : Nat) (x9 x10 x11 x12 x13 x14 x15 x16 x17 : Sl) (hk : (kvs.map (·.1)).Nodup) (hl : kvs.length < 1000) :
    eQ (eLcN [10] (.one 10) 7 t_law_2 (eName 10)) (due x0 x1 x2 x3 x4 x5 x6 kvs (.va (.int (t : Int))) x9 x10 x11 x12 x13 x14 x15 x16 x17) = .ok (.tm (.lst ((here t kvs).map nD))) (due x0 x1 x2 x3 x4 x5 x6 kvs (.va (.int (t : Int))) x9 x10 x11 x12 x13 x14 x15 x16 x17) := by
  have e := lc_is (vs := [10]) (t := .one 10) (c := t_law_2) (e := eName 10) (r0 := dueF x0 x1 x2 x3 x4 x5 x6 kvs (.va (.int (t : Int))) x9 (frzS x10) x11 x12 x13 x14 x15 x16 x17) (fun p : Nat × Nat => nD p.1) (fun p => decide (p.2 = t)) (fun p => nD p.1) kvs (by unfold SZ; omega) (by
    intro p hp
    refine ⟨dueF x0 x1 x2 x3 x4 x5 x6 kvs (.va (.int (t : Int))) x9 (.va (nD p.1)) x11 x12 x13 x14 x15 x16 x17, rfl, rfl, ?_, fun _ => ⟨.fz (nD p.1), ?_, rfl⟩⟩
    · have h := gIx_dD (lookup_of_mem hk hp)
      unfold t_law_2
      push_cast [h, Int.natCast_inj]
    · push_cast [K.eC_K])
  rw [show kvs.map (fun p : Nat × Nat => nD p.1) = (kvs.map (·.1)).map nD by rw [List.map_map]; rfl, show (kvs.filter fun p => decide (p.2 = t)).map (fun p : Nat × Nat => nD p.1) = (here t kvs).map nD by unfold here; rw [List.map_map]; rfl] at e
  push_cast [isK_dDva, kd1_dD, isOw_frz, Bool.not_false, Bool.and_true, e, flat_nD]
theorem here_lt {n t : Nat} {kvs : List (Nat × Nat)} (hb : ∀ v ∈ kvs.map (·.1), v < n) : ∀ u ∈ here t kvs, u < n := fun u hu => by
  unfold here at hu
  obtain ⟨p, hp, rfl⟩ := List.mem_map.mp hu
  exact hb _ (List.mem_map.mpr ⟨p, (List.mem_filter.mp hp).1, rfl⟩)
theorem fold_flat (x : Nat) (f : Nat → List Nat) : ∀ (hs : List Nat) (kvs : List (Nat × Nat)), hs.foldl (fun k v => (f v).foldl (vis x) k) kvs = (hs.flatMap f).foldl (vis x) kvs
  | [], _ => rfl
  | h :: hs, kvs => by rw [List.foldl_cons, List.flatMap_cons, List.foldl_append, fold_flat x f hs]
theorem due_step (x0 x1 x2 x3 x4 x5 : Sl) (ps : Es) (n s : Nat) (hn : n ≤ 100) (hs : s < n) (hps : isPs n ps) (kvs : List (Nat × Nat)) (t : Nat) (x6 : Sl) (hx6 : psSl x6 ps) (I : DueI ps s t kvs) (x9 x10 x11 x12 x13 x14 x15 x16 x17 : Sl) :
    ∃ kvs' x6' x9' x10' x11' x12', DueI ps s (t + 1) kvs' ∧ psSl x6' ps ∧ w_law_3 (due x0 x1 x2 x3 x4 x5 x6 kvs (.va (.int (t : Int))) x9 x10 x11 x12 x13 x14 x15 x16 x17) = .nx (due x0 x1 x2 x3 x4 x5 x6' kvs' (.va (.int (t : Int))) x9' x10' x11' x12' x13 x14 x15 x16 x17) := by
  have hb : ∀ v ∈ kvs.map (·.1), v < n := fun v hv => by
    obtain ⟨p, hp, rfl⟩ := List.mem_map.mp hv
    exact Reach.lt hps hs ⟨_, (I.ways p hp).2⟩
  have hlen := nodup_bound I.nd hb
  rw [List.length_map] at hlen
  have e1 := here_q x0 x1 x2 x3 x4 x5 x6 kvs t x9 x10 x11 x12 x13 x14 x15 x16 x17 I.nd (by omega)
  have L : ∃ r', forGo (.one 10) w_law_2 ((here t kvs).map nD) (due x0 x1 x2 x3 x4 x5 x6 kvs (.va (.int (t : Int))) (.va (.lst ((here t kvs).map nD))) x10 x11 x12 x13 x14 x15 x16 x17) = .nx r' ∧ ∃ x6' x10' x11' x12', psSl x6' ps ∧ r' = due x0 x1 x2 x3 x4 x5 x6' ((here t kvs).foldl (fun k v => (oth v ps).foldl (vis (t + 1)) k) kvs) (.va (.int (t : Int))) (.va (.lst ((here t kvs).map nD))) x10' x11' x12' x13 x14 x15 x16 x17 := by
    refine for_inv nD (fun pre r => ∃ x6' x10' x11' x12', psSl x6' ps ∧ r = due x0 x1 x2 x3 x4 x5 x6' (pre.foldl (fun k v => (oth v ps).foldl (vis (t + 1)) k) kvs) (.va (.int (t : Int))) (.va (.lst ((here t kvs).map nD))) x10' x11' x12' x13 x14 x15 x16 x17) (here t kvs) ⟨x6, x10, x11, x12, hx6, rfl⟩ ?_
    rintro pre v post e r ⟨x6', x10', x11', x12', h6, rfl⟩
    have hpre : ∀ u ∈ pre.flatMap (fun v => oth v ps), u < n := fun u hu => by
      obtain ⟨v, _, hv⟩ := List.mem_flatMap.mp hu
      exact oth_lt hps u hv
    obtain ⟨a, b⟩ := viss_keys (x := t + 1) (pre.flatMap fun v => oth v ps) I.nd hb hpre
    rw [← fold_flat] at a b
    obtain ⟨y11, y12, e2, e3⟩ := due_in x0 x1 x2 x3 x4 x5 ps n hn hps (pre.foldl (fun k v => (oth v ps).foldl (vis (t + 1)) k) kvs) t v (.va (.lst ((here t kvs).map nD))) x11' x12' x13 x14 x15 x16 x17 a b
    have e4 : w_law_2 (due x0 x1 x2 x3 x4 x5 x6' (pre.foldl (fun k v => (oth v ps).foldl (vis (t + 1)) k) kvs) (.va (.int (t : Int))) (.va (.lst ((here t kvs).map nD))) (.va (.int (v : Int))) x11' x12' x13 x14 x15 x16 x17) = .nx (due x0 x1 x2 x3 x4 x5 (.va (.lst (ps.map pairD))) ((oth v ps).foldl (vis (t + 1)) (pre.foldl (fun k v => (oth v ps).foldl (vis (t + 1)) k) kvs)) (.va (.int (t : Int))) (.va (.lst ((here t kvs).map nD))) (.va (.int (v : Int))) y11 y12 x13 x14 x15 x16 x17) := by
      rcases h6 with rfl | rfl
      · exact e3
      · exact e2
    refine ⟨_, rfl, _, .inl e4, .va (.lst (ps.map pairD)), .va (nD v), y11, y12, .inl rfl, ?_⟩
    rw [List.foldl_append]; rfl
  obtain ⟨r', e2, x6', x10', x11', x12', h6, rfl⟩ := L
  obtain ⟨news, e3, h1, h2⟩ := vis_all (t + 1) ((here t kvs).flatMap fun v => oth v ps) kvs I.nd
  rw [fold_flat, e3] at e2
  refine ⟨_, x6', .va (.lst ((here t kvs).map nD)), x10', x11', x12', I.next h1 (fun w => ?_), h6, ?_⟩
  · rw [h2 w, List.mem_flatMap]
    simp only [oth_mem]
  · unfold w_law_3
    push_cast [e1, e2]
theorem due_all (x0 x1 x2 x3 x4 x5 : Sl) (ps : Es) (n s : Nat) (hn : n ≤ 100) (hs : s < n) (hps : isPs n ps) (x8 x9 x10 x11 x12 x13 x14 x15 x16 x17 : Sl) :
    ∃ kvs x6' x8' x9' x10' x11' x12', DueI ps s n kvs ∧ psSl x6' ps ∧ forGo (.one 8) w_law_3 ((List.range n).map nD) (due x0 x1 x2 x3 x4 x5 (.ow false (.lst (ps.map pairD))) [(s, 0)] x8 x9 x10 x11 x12 x13 x14 x15 x16 x17) = .nx (due x0 x1 x2 x3 x4 x5 x6' kvs x8' x9' x10' x11' x12' x13 x14 x15 x16 x17) := by
  obtain ⟨r', e, kvs, x6', x8', x9', x10', x11', x12', h1, h2, rfl⟩ := for_inv (t := .one 8) (b := w_law_3) nD (fun pre r => ∃ kvs x6' x8' x9' x10' x11' x12', DueI ps s pre.length kvs ∧ psSl x6' ps ∧ r = due x0 x1 x2 x3 x4 x5 x6' kvs x8' x9' x10' x11' x12' x13 x14 x15 x16 x17) (List.range n) (r := due x0 x1 x2 x3 x4 x5 (.ow false (.lst (ps.map pairD))) [(s, 0)] x8 x9 x10 x11 x12 x13 x14 x15 x16 x17) ⟨_, _, _, _, _, _, _, .start, .inr rfl, rfl⟩ (by
    rintro pre k post e r ⟨kvs, x6', x8', x9', x10', x11', x12', h1, h2, rfl⟩
    have hk : k = pre.length := by
      have h3 : (List.range n)[pre.length]? = some k := by rw [e]; simp
      have h4 := List.getElem?_eq_some_iff.mp h3
      obtain ⟨h5, h6⟩ := h4
      rw [List.getElem_range] at h6; exact h6.symm
    subst hk
    obtain ⟨kvs', y6, y9, y10, y11, y12, a1, a2, a3⟩ := due_step x0 x1 x2 x3 x4 x5 ps n s hn hs hps kvs pre.length x6' h2 h1 x9' x10' x11' x12' x13 x14 x15 x16 x17
    exact ⟨_, rfl, _, .inl a3, kvs', y6, _, y9, y10, y11, y12, by rw [List.length_append]; exact a1, a2, rfl⟩)
  rw [List.length_range] at h1
  exact ⟨kvs, x6', x8', x9', x10', x11', x12', h1, h2, e⟩
/-- both dicts agree -/
theorem agree {E : Es} {n s : Nat} (hE : ∀ p ∈ E, p.1 < n ∧ p.2 < n) (hs : s < n) {T D : List (Nat × Nat)} (hT : (T.map (·.1)).Nodup) (d : ∀ p ∈ T, Dist E s p.1 p.2) (r : ∀ v, Reach E s v → ∃ k, (v, k) ∈ T) (I : DueI E s n D) :
    srt (T.map (·.1)) = srt (D.map (·.1)) ∧ ∀ p ∈ D, T.lookup p.1 = some p.2 ∧ D.lookup p.1 = some p.2 := by
  have all : ∀ v, Reach E s v → ∃ k, (v, k) ∈ T ∧ (v, k) ∈ D := fun v hv => by
    obtain ⟨k, hk⟩ := r v hv
    have dk := d _ hk
    have hlt := dk.lt hE hs
    obtain ⟨j, hj, hm⟩ := I.all k v (by omega) dk.1
    have h2 : k ≤ j := dk.2 j (I.ways _ hm).2
    have : j = k := by omega
    subst this
    exact ⟨j, hk, hm⟩
  refine ⟨srt_ext hT I.nd fun v => ⟨fun h => ?_, fun h => ?_⟩, fun p hp => ?_⟩
  · obtain ⟨p, hp, rfl⟩ := List.mem_map.mp h
    obtain ⟨k, _, h2⟩ := all p.1 ⟨_, (d p hp).1⟩
    exact List.mem_map.mpr ⟨_, h2, rfl⟩
  · obtain ⟨p, hp, rfl⟩ := List.mem_map.mp h
    obtain ⟨k, h2, _⟩ := all p.1 ⟨_, (I.ways p hp).2⟩
    exact List.mem_map.mpr ⟨_, h2, rfl⟩
  · have e2 := lookup_of_mem I.nd (show (p.1, p.2) ∈ D from hp)
    obtain ⟨k, h1, h2⟩ := all p.1 ⟨_, (I.ways p hp).2⟩
    have e3 := lookup_of_mem I.nd h2
    rw [e2] at e3; cases e3
    exact ⟨lookup_of_mem hT h1, e2⟩
theorem okS_nD (n : Nat) (l : List Nat) (hl : l.length < 100000) : okS (n + 1) (.lst (l.map nD)) = true := by
  unfold okS
  rw [Bool.and_eq_true, decide_eq_true_eq, List.length_map]
  exact ⟨hl, okSs_iff.mpr fun d hd => by obtain ⟨k, _, rfl⟩ := List.mem_map.mp hd; cases n <;> rfl⟩
theorem cut2 (a b c : D) : cutD [a, b, c] none (some 2) = [a, b] := rfl
abbrev W75 (p : D) (n : Nat) (ls : List Link) (s : Nat) (x0 x4 x5 x6 x7 x8 x9 x10 x11 x12 x13 : Sl) : Ev := [x0, .ow false p, .va (bhD n ls), .va (.int (s : Int)), x4, x5, x6, x7, x8, x9, x10, x11, x12, x13, .no, .no, .no, .no]
theorem told_q (x0 x1 x2 x3 x4 x5 x6 : Sl) (D T : List (Nat × Nat)) (x8 x9 x10 x11 x12 x14 x15 x16 x17 : Sl) (h : ∀ p ∈ D, T.lookup p.1 = some p.2 ∧ D.lookup p.1 = some p.2) (hl : D.length < 1000) :
    eQ (eLcN [10] (.one 10) 7 t_law_3 (eName 10)) (due x0 x1 x2 x3 x4 x5 x6 D x8 x9 x10 x11 x12 (.ow false (dD T)) x14 x15 x16 x17) = .ok (.tm (.lst [])) (due x0 x1 x2 x3 x4 x5 x6 D x8 x9 x10 x11 x12 (.ow false (dD T)) x14 x15 x16 x17) := by
  have e := lc_is (vs := [10]) (t := .one 10) (c := t_law_3) (e := eName 10) (r0 := dueF x0 x1 x2 x3 x4 x5 x6 D (frzS x8) x9 (frzS x10) x11 x12 (.ow false (dD T)) x14 x15 x16 x17) (fun p : Nat × Nat => nD p.1) (fun p => false) (fun p => nD p.1) D (by unfold SZ; omega) (by
    intro p hp
    refine ⟨dueF x0 x1 x2 x3 x4 x5 x6 D (frzS x8) x9 (.va (nD p.1)) x11 x12 (.ow false (dD T)) x14 x15 x16 x17, rfl, rfl, ?_, fun h => by cases h⟩
    have h1 := gIx_dD (h p hp).1
    have h2 := gIx_dD (h p hp).2
    have h3 := same_refl 39 (.int (p.2 : Int)) rfl
    rw [show 39 + 1 = 40 from rfl] at h3
    unfold t_law_3
    push_cast [h1, h2, h3, K.frzS_ow])
  rw [show D.map (fun p : Nat × Nat => nD p.1) = (D.map (·.1)).map nD by rw [List.map_map]; rfl, show (D.filter fun _ => false).map (fun p : Nat × Nat => nD p.1) = [] by rw [List.filter_eq_nil_iff.mpr (fun _ _ => by decide)]; rfl] at e
  unfold dueF at e
  rw [K.frzS_ow] at e
  push_cast [isK_dDva, kd1_dD, isOw_frz, Bool.not_false, Bool.and_true, e]
theorem turn_is {p : D} (hp : PoolIs p) {n : Nat} {ls : List Link} (hn : n ≤ 20) (ok : okL n ls) {s : Nat} (hs : s < n) (x0 x4 x5 x6 x7 x8 x9 x10 x11 x12 x13 : Sl) :
    ∃ p' y5 y6 y7 y8 y9 y10 y11 y12 y13, PoolIs p' ∧ w_law_4 (W75 p n ls s x0 x4 x5 x6 x7 x8 x9 x10 x11 x12 x13) = .nx (W75 p' n ls s x0 x4 y5 y6 y7 y8 y9 y10 y11 y12 y13) := by
  obtain ⟨v, p1, hp1, v0, v1, e1⟩ := draw_is hp (m := 7) (by decide) (by decide)
  obtain ⟨w, p2, hp2, w0, w1, e2⟩ := draw_is hp1 (m := 2) (by decide) (by decide)
  have hps : isPs n (strong (some (10 * v - 5 * w)) ls) := strong_lt ok
  obtain ⟨D, x6', x8', x9', x10', x11', x12', I, h6, e4⟩ := due_all x0 (.ow false p2) (.va (bhD n ls)) (.va (.int (s : Int))) x4 (.va (.int (10 * v - 5 * w))) (strong (some (10 * v - 5 * w)) ls) n s (by omega) hs hps x8 x9 x10 x11 x12 x13 .no .no .no .no
  obtain ⟨T, e5, hT, hd, hr⟩ := hops_is (n := n) (by omega) ok (10 * v - 5 * w) hs
  obtain ⟨ag1, ag2⟩ := agree hps hs hT hd hr I
  have hb : ∀ v ∈ D.map (·.1), v < n := fun v hv => by
    obtain ⟨p, hp, rfl⟩ := List.mem_map.mp hv
    exact Reach.lt hps hs ⟨_, (I.ways p hp).2⟩
  have hlen := nodup_bound I.nd hb
  rw [List.length_map] at hlen
  have e3 : lcGo [17] (.one 17) t_law_1 x_law_1 (W75 p2 n ls s x0 x4 (.va (.int (10 * v - 5 * w))) x6 x7 x8 x9 x10 x11 x12 x13) (ls.map linkD) [] (W75 p2 n ls s x0 x4 (.va (.int (10 * v - 5 * w))) x6 x7 x8 x9 x10 x11 x12 x13) = .ok (.tm (.lst ((strong (some (10 * v - 5 * w)) ls).map pairD))) (W75 p2 n ls s x0 x4 (.va (.int (10 * v - 5 * w))) x6 x7 x8 x9 x10 x11 x12 x13) := by
    rw [lc_is linkD (fun l => decide (10 * v - 5 * w ≤ l.2.2)) (fun l => pairD (l.1, l.2.1)) ls (by have := ok.2; unfold SZ; omega) ?_]
    · unfold strong lvok; rw [List.map_map]; rfl
    · intro l hl
      refine ⟨[x0, .ow false p2, .va (bhD n ls), .va (.int (s : Int)), x4, .va (.int (10 * v - 5 * w)), x6, x7, x8, x9, x10, x11, x12, x13, .no, .no, .no, .va (linkD l)], rfl, rfl, ?_, fun _ => ⟨.fz (pairD (l.1, l.2.1)), ?_, rfl⟩⟩
      · unfold t_law_1 linkD
        push_cast [K.eC_K]
      · unfold x_law_1 linkD pairD
        push_cast [cut2]
  have e7 := equal_refl 39 (.lst ((srt (D.map (·.1))).map nD)) (okS_nD 38 _ (by rw [srt_len, List.length_map]; omega))
  rw [show 39 + 1 = 40 from rfl] at e7
  have e8 := told_q x0 (.ow false p2) (.va (bhD n ls)) (.va (.int (s : Int))) x4 (.va (.int (10 * v - 5 * w))) x6' D T x8' x9' x10' x11' x12' .no .no .no .no ag2 (by omega)
  refine ⟨p2, .va (.int (10 * v - 5 * w)), x6', .ow false (dD D), x8', x9', x10', x11', x12', .ow false (dD T), hp2, ?_⟩
  have q1 : -4611686018427387904 ≤ (n : Int) := by omega
  have q2 : (n : Int) < 4611686018427387904 := by omega
  have z : (.dct [(.inl (s : Int), .int 0)] : DL.D) = dD [(s, 0)] := rfl
  unfold W75 bhD at e3
  unfold W75
  unfold bhD at e4 e5 e8 ⊢
  unfold w_law_4
  push_cast [e1, e2, e3, z, q1, q2, Int.toNat_natCast, upFrom_nD, e4, e5, isD_dD, gSorted_dD, ag1, e7, e8]
end TT
end

section
set_option autoImplicit false
set_option linter.all false
set_option maxRecDepth 20000
local macro_rules | `(tactic| push_cast [$ls,*]) => `(tactic| simp only [$ls,*, DL.K.eBin_K, DL.K.bin1_ok, DL.K.bin1_err, DL.K.opt_some, DL.K.bin2_ok, DL.K.bin2_err, DL.K.bin3_some, DL.K.eUn_K, DL.K.un1_ok, DL.K.un1_err, DL.K.un2_some, DL.K.aCons_K, DL.K.cons1_ok, DL.K.cons1_err, DL.K.cons2_ok, DL.K.cons2_err, DL.K.aNil_K, DL.K.ePure_K, DL.K.pure1_ok, DL.K.pure1_err, DL.K.pure2_some, DL.K.eTup_K, DL.K.tup1_ok, DL.K.tup1_err, DL.K.tup2_some, DL.K.eLst_K, DL.K.lst1_ok, DL.K.lst1_err, DL.K.lst2_some, DL.K.eName_K, DL.K.name1_va, DL.K.name1_ow, DL.K.eC_K, DL.K.rsv_fz, DL.K.rsv_tm, DL.K.rsv_br, DL.K.rsv1_ow, DL.K.rsv1_va, DL.K.rsvs_nil, DL.K.rsvs_cons, DL.K.rsvs1_some, DL.K.rsvs2_some, DL.K.fzo_fz, DL.K.fzo_tm, DL.K.fzo_br, DL.K.fzo1_ow, DL.K.fzo1_va, DL.K.fzos_nil, DL.K.fzos_cons, DL.K.fzos1_some, DL.K.fzos2_some, DL.K.tTru_K, DL.K.tru1_ok, DL.K.tru1_err, DL.K.tru2_some, DL.K.tru3_some, DL.K.tBl_K, DL.K.tbl1_ok, DL.K.tbl1_err, DL.K.tAnd_K, DL.K.and1_t, DL.K.and1_f, DL.K.and1_err, DL.K.tOr_K, DL.K.or1_t, DL.K.or1_f, DL.K.or1_err, DL.K.tNot_K, DL.K.not1_ok, DL.K.not1_err, DL.K.tYes_K, DL.K.eAnd_K, DL.K.eand1_t, DL.K.eand1_f, DL.K.eand1_err, DL.K.eOr_K, DL.K.eor1_t, DL.K.eor1_f, DL.K.eor1_err, DL.K.eNot_K, DL.K.eNotE_K, DL.K.enot1_ok, DL.K.enot1_err, DL.K.eIf_K, DL.K.eif1_t, DL.K.eif1_f, DL.K.eif1_err, DL.K.eCh_K, DL.K.ch1_ok, DL.K.ch1_err, DL.K.chLast_K, DL.K.chLink_K, DL.K.link1_ok, DL.K.link2_some, DL.K.link3_t, DL.K.link3_f, DL.K.eCall_K, DL.K.call1_ok, DL.K.call1_err, DL.K.call2_nil, DL.K.call2_one, DL.K.call3_ok0, DL.K.call3_err0, DL.K.call3_ok1, DL.K.call3_err1, DL.K.put1_ow, DL.K.isOw_ow, DL.K.iosOf_nil, DL.K.iosOf_f, DL.K.iosOf_t, DL.K.argsOf_nil, DL.K.argsOf_f, DL.K.args1_some, DL.K.args2_some, DL.K.argsOf_t, DL.K.args3_ow, DL.K.sSeq_K, DL.K.seq1_nx, DL.K.seq1_ret, DL.K.seq1_brk, DL.K.seq1_cnt, DL.K.seq1_err, DL.K.sNext_K, DL.K.sBreak_K, DL.K.sCont_K, DL.K.sRetN_K, DL.K.sRaise_K, DL.K.sExpr_K, DL.K.expr1_ok, DL.K.expr1_err, DL.K.sSet_K, DL.K.set1_fz, DL.K.set1_tm, DL.K.set1_br, DL.K.set2_some, DL.K.set1_err, DL.K.sUnp_K, DL.K.unp1_ok, DL.K.unp1_err, DL.K.unp2_some, DL.K.nxo_some, DL.K.put_one, DL.K.put_tup, DL.K.put_ktp, DL.K.setAll_nil, DL.K.setAll_cons, DL.K.sPar_K, DL.K.par1_ok, DL.K.par1_err, DL.K.par2_ok, DL.K.par2_err, DL.K.par3_some, DL.K.keep2_fz, DL.K.keep2_tm, DL.K.sAug_K, DL.K.aug0_va, DL.K.aug1_ok, DL.K.aug1_err, DL.K.aug2_some, DL.K.aug3_some, DL.K.sRet_K, DL.K.ret1_fz, DL.K.ret1_tm, DL.K.ret1_br, DL.K.ret1_err, DL.K.ret2_ow, DL.K.ret2_va, DL.K.sIf_K, DL.K.if1_t, DL.K.if1_f, DL.K.if1_err, DL.K.sSub_K, DL.K.sub1_ok, DL.K.sub1_err, DL.K.sub2_ok, DL.K.sub2_err, DL.K.sub3_some, DL.K.sub4_some, DL.K.sub5_some, DL.K.eMut_K, DL.K.isL_lst, DL.K.mut0_ok, DL.K.mut0_err, DL.K.mut1_some, DL.K.mut2_some, DL.K.mut3_some, DL.K.sFor_K, DL.K.for1_ok, DL.K.for1_err, DL.K.forGo_nil, DL.K.forGo_cons, DL.K.go0_some, DL.K.go1_nx, DL.K.go1_cnt, DL.K.go1_brk, DL.K.go1_ret, DL.K.go1_err, DL.K.whN_K, DL.K.wh1_t, DL.K.wh1_f, DL.K.wh2_nx, DL.K.wh2_cnt, DL.K.wh2_brk, DL.K.wh2_ret, DL.K.wh2_err, DL.K.iSeq_K, DL.K.iseq1_ok, DL.K.iseq1_err, DL.K.iseq2_lst, DL.K.iseq2_tup, DL.K.iseq2_kls, DL.K.iseq2_ktp, DL.K.iRng1_K, DL.K.rg1_ok, DL.K.rg1_err, DL.K.iRng2_K, DL.K.rg2_ok, DL.K.rg2_err, DL.K.rg3_ok, DL.K.rg3_err, DL.K.pNo_K, DL.K.pSome_K, DL.K.psome1_ok, DL.K.eSlice_K, DL.K.sl1_ok, DL.K.sl1_err, DL.K.sl2_ok, DL.K.sl3_ok, DL.K.eLc_K, DL.K.lc0_err, DL.K.lc0_ok, DL.K.lcGo_nil, DL.K.lcGo_cons, DL.K.lc1_some, DL.K.lc2_t, DL.K.lc2_f, DL.K.lc3_ok, DL.K.lc4_some, DL.K.wipeE_nil, DL.K.wipeE_cons, DL.K.backE_nil, DL.K.backE_cons, DL.K.backSl_some, DL.K.isOw_va, DL.K.isOw_no, DL.K.eNewK_K, DL.K.eNewT_K, DL.K.eDisp1_K, DL.K.disp1_ok, DL.K.disp2_ok, DL.K.disp4_i, DL.K.gDictOf_K, DL.K.gRev_lst, DL.K.eLstR1_K, DL.K.lstr1_ok, DL.K.iZip_K, DL.K.zip1_ok, DL.K.zip2_ok, DL.K.zip3_some, DL.K.zip3b_some, DL.K.zip4_lstlst, DL.K.zip4_lstkls, DL.K.zip4_klslst, DL.K.zip4_klskls, DL.K.zip4_tuptup, DL.K.zip4_tupktp, DL.K.zip4_ktptup, DL.K.zip4_ktpktp, DL.K.iEnum_K, DL.K.enum1_ok, DL.K.enum2_lst, DL.K.enum2_kls, DL.K.eLcN_K, DL.K.lcn2_some, DL.K.iKeysD_K, DL.K.kd1_va, DL.K.isK_vaint, DL.K.isK_owint, DL.K.isK_vastr, DL.K.isK_owstr, DL.K.isK_vatup, DL.K.isK_owtup, DL.K.isK_valst, DL.K.isK_owlst, DL.K.isK_vakls, DL.K.isK_owkls, DL.K.isK_vaktp, DL.K.isK_owktp, DL.K.isK_vabl, DL.K.isK_owbl, DL.K.isK_vanon, DL.K.isK_vadct, DL.K.isK_owdct, DL.K.gLen_dct, DL.K.gIn_dct, DL.K.gNotIn_dct, DL.K.gIx_dct, DL.K.ixd_some, DL.K.gSet_dct, DL.K.sTry_K, DL.K.try1_nx, DL.K.try1_ret, DL.K.try1_brk, DL.K.try1_cnt, DL.K.try1_err, DL.K.try3_t, DL.K.try3_f, DL.K.try2_nx, DL.K.try2_ret, DL.K.try2_brk, DL.K.try2_cnt, DL.K.fnD_K, DL.K.fn1_ret, DL.K.fn1_nx, DL.K.fn1_err, DL.K.fn3_some, DL.K.fn4_some, DL.K.iosAt_nil, DL.K.iosAt_f, DL.K.iosAt_t, DL.K.ios1_ow, DL.K.argSl_f, DL.K.argSl_t, DL.K.argSl_nil, DL.K.gAdd_i, DL.K.gAdd_t, DL.K.gAdd_l, DL.K.gSub_i, DL.K.gIAdd_i, DL.K.gLt_i, DL.K.gLe_i, DL.K.gGt_i, DL.K.gGe_i, DL.K.gIx_lst, DL.K.gLen_lst, DL.K.gList_lst, DL.K.gIx_kls, DL.K.gLen_kls, DL.K.gList_kls, DL.K.gIx_tup, DL.K.gLen_tup, DL.K.gList_tup, DL.K.gIx_ktp, DL.K.gLen_ktp, DL.K.gList_ktp, DL.K.ix1_some, DL.K.ix2_some, DL.K.gSlice_lst, DL.K.gSlice_kls, DL.K.gSlice_tup, DL.K.gTuple_tup, DL.K.gTuple_ktp, DL.K.gTuple_lst, DL.K.gTuple_kls, DL.K.gInt_i, DL.K.gAbs_i, DL.K.gNeg_i, DL.K.gGcd_i, DL.K.gMax_i, DL.K.gMin_i, DL.K.gIs_nn, DL.K.gIsNot_nn, DL.K.gIs_bb, DL.K.gIs_intn, DL.K.gIsNot_intn, DL.K.gIs_strn, DL.K.gIsNot_strn, DL.K.gIs_tupn, DL.K.gIsNot_tupn, DL.K.gIs_lstn, DL.K.gIsNot_lstn, DL.K.gIs_klsn, DL.K.gIsNot_klsn, DL.K.gIs_ktpn, DL.K.gIsNot_ktpn, DL.K.gIs_bln, DL.K.gIsNot_bln, DL.K.gIs_dctn, DL.K.gIsNot_dctn, DL.K.gIs_dttn, DL.K.gIsNot_dttn, DL.K.gEq_ii, DL.K.gNe_ii, DL.K.gNe_bb, DL.K.gEq_bb, DL.K.dtr_bl, DL.K.dtr_int, DL.K.dtr_non, DL.K.dtr_lst, DL.K.dtr_kls, DL.K.dtr_tup, DL.K.dtr_ktp, DL.K.eIsi_K, DL.K.gSet_lst, DL.K.set5_some, DL.K.gAppend_K, DL.K.small0, DL.K.less0, DL.K.small1, DL.K.less1, DL.K.small2, DL.K.less2, DL.K.small3, DL.K.less3, DL.K.small4, DL.K.less4, DL.K.small5, DL.K.less5, DL.K.small6, DL.K.less6, DL.K.small7, DL.K.less7, DL.K.small8, DL.K.less8, DL.K.small9, DL.K.less9, DL.K.small10, DL.K.less10, DL.K.small11, DL.K.less11, DL.K.small12, DL.K.less12, DL.K.small13, DL.K.less13, DL.K.small14, DL.K.less14, DL.K.small15, DL.K.less15, DL.K.small16, DL.K.less16, DL.K.isD_bool_non, DL.K.isD_bool_bl, DL.K.isD_bool_int, DL.K.isD_bool_str, DL.K.isD_bool_tup, DL.K.isD_bool_lst, DL.K.isD_bool_kls, DL.K.isD_bool_ktp, DL.K.isD_bool_dct, DL.K.isD_bool_dtt, DL.K.isD_int_non, DL.K.isD_int_bl, DL.K.isD_int_int, DL.K.isD_int_str, DL.K.isD_int_tup, DL.K.isD_int_lst, DL.K.isD_int_kls, DL.K.isD_int_ktp, DL.K.isD_int_dct, DL.K.isD_int_dtt, DL.K.isD_str_non, DL.K.isD_str_bl, DL.K.isD_str_int, DL.K.isD_str_str, DL.K.isD_str_tup, DL.K.isD_str_lst, DL.K.isD_str_kls, DL.K.isD_str_ktp, DL.K.isD_str_dct, DL.K.isD_str_dtt, DL.K.isD_list_non, DL.K.isD_list_bl, DL.K.isD_list_int, DL.K.isD_list_str, DL.K.isD_list_tup, DL.K.isD_list_lst, DL.K.isD_list_kls, DL.K.isD_list_ktp, DL.K.isD_list_dct, DL.K.isD_list_dtt, DL.K.isD_tuple_non, DL.K.isD_tuple_bl, DL.K.isD_tuple_int, DL.K.isD_tuple_str, DL.K.isD_tuple_tup, DL.K.isD_tuple_lst, DL.K.isD_tuple_kls, DL.K.isD_tuple_ktp, DL.K.isD_tuple_dct, DL.K.isD_tuple_dtt, DL.K.isD_dict_non, DL.K.isD_dict_bl, DL.K.isD_dict_int, DL.K.isD_dict_str, DL.K.isD_dict_tup, DL.K.isD_dict_lst, DL.K.isD_dict_kls, DL.K.isD_dict_ktp, DL.K.isD_dict_dct, DL.K.isD_dict_dtt, DL.K.eQ_K, DL.K.q1_lst, DL.K.frzAll_cons, DL.K.frzAll_nil, DL.K.frzS_va, DL.K.frzS_ow, DL.K.frzS_no, DL.K.gMul_r, DL.K.gMul_l, DL.K.gMod_i, DL.K.gFdiv_s, DL.ixI, List.getElem?_cons_zero, List.getElem?_cons_succ, List.set_cons_zero, List.set_cons_succ, List.length_cons, List.length_nil, List.cons_append, List.nil_append, List.replicate_succ, List.replicate_zero, List.map_cons, List.map_nil, List.all_cons, List.all_nil, List.isEmpty_cons, List.isEmpty_nil, Nat.reduceAdd, Nat.reduceSub, Nat.reduceLT, Nat.reduceLeDiff, Nat.reduceEqDiff, Nat.reducePow, Nat.zero_add, Int.reduceNeg, Int.reduceLT, Int.reduceLE, Int.reduceEq, Int.reduceNe, Int.reducePow, Int.reduceAdd, Int.reduceSub, Int.reduceMul, Int.reduceToNat, Int.cast_ofNat_Int, Int.natCast_add, Int.natCast_one, Int.natCast_zero, Int.natAbs_neg, Int.reduceAbs, Int.zero_add, not_false_eq_true, not_true_eq_false, and_self, ne_eq, or_false, false_or, or_true, true_or, if_true, if_false, reduceIte, Bool.not_true, Bool.not_false, decide_eq_true_eq, decide_true, decide_false, true_and, and_true, and_false, false_and, implies_true, Option.some.injEq, reduceCtorEq, List.nodup_nil, List.not_mem_nil, bne_self_eq_false, beq_self_eq_true, Bool.true_and, Bool.and_true, Bool.false_and, Bool.and_false, Bool.true_or, Bool.or_true, Bool.false_or, Bool.or_false])
/-! k75: single points, and the law. -/
namespace TT
open DL PySem GR
def prs (ls : List Link) : Es := ls.map fun l => (l.1, l.2.1)
theorem strong_none (ls : List Link) : strong none ls = prs ls := by
  unfold strong prs lvok
  rw [List.filter_eq_self.mpr (fun _ _ => rfl)]
def without (v : Nat) (ls : List Link) : List Link := ls.filter fun l => !decide (v = l.1 ∨ v = l.2.1)
theorem okL_without {n : Nat} {ls : List Link} (h : okL n ls) (v : Nat) : okL n (without v ls) :=
  ⟨fun l hl => h.1 l (List.mem_filter.mp hl).1, Nat.lt_of_le_of_lt (List.length_filter_le _ _) h.2⟩
def reachN (ls : List Link) (s : Nat) : List Nat := passes (prs ls) ((prs ls).length + 1) [s]
theorem reachN_mem (ls : List Link) (s v : Nat) : v ∈ reachN ls s ↔ Reach (prs ls) s v := part_mem _ _ _
theorem reachN_nd (ls : List Link) (s : Nat) : (reachN ls s).Nodup := part_nd _ _
def isPt (ls : List Link) (s v : Nat) : Bool := !decide (v = s) && decide ((reachN (without v ls) s).length + 1 < (reachN ls s).length)
theorem reachN_len {n : Nat} {ls : List Link} (h : okL n ls) {s : Nat} (hs : s < n) : (reachN ls s).length ≤ n := nodup_bound (reachN_nd ls s) fun v hv => by
  have := (reachN_mem ls s v).mp hv
  rw [← strong_none] at this
  exact Reach.lt (strong_lt h) hs this
theorem without_len (v : Nat) (ls : List Link) : (without v ls).length ≤ ls.length := List.length_filter_le _ _
theorem keys_len {ls : List Link} {s : Nat} {kvs : List (Nat × Nat)} (nd : (kvs.map (·.1)).Nodup) (h : ∀ v, v ∈ kvs.map (·.1) ↔ Reach (strong none ls) s v) : kvs.length = (reachN ls s).length ∧ srt (kvs.map (·.1)) = srt (reachN ls s) := by
  have e : ∀ v, v ∈ kvs.map (·.1) ↔ v ∈ reachN ls s := fun v => by rw [h v, reachN_mem, strong_none]
  have := len_ext nd (reachN_nd ls s) e
  rw [List.length_map] at this
  exact ⟨this, srt_ext nd (reachN_nd ls s) e⟩
theorem filter_snoc {α : Type} (p : α → Bool) (xs : List α) (x : α) : (xs ++ [x]).filter p = xs.filter p ++ (if p x = true then [x] else []) := by
  rw [List.filter_append]
  congr 1
  cases h : p x <;> simp [h]
theorem sp_body (n : Nat) (hn : n ≤ 100) (ls : List Link) (ok : okL n ls) (s : Nat) (hs : s < n) (W : List (Nat × Nat)) (hW : W.length = (reachN ls s).length) (acc : List Nat) (hl : acc.length < 1000) (v : Nat) (s5 : Sl) (hs5 : s5 = .no ∨ ∃ d, s5 = .va d ∨ s5 = .ow false d) :
    ∃ s5', (s5' = .no ∨ ∃ d, s5' = .va d ∨ s5' = .ow false d) ∧ w_single_points_1 [.va (bhD n ls), .va (.int (s : Int)), .ow false (dD W), .ow false (.lst (acc.map nD)), .va (.int (v : Int)), s5, .no] = .nx [.va (bhD n ls), .va (.int (s : Int)), .ow false (dD W), .ow false (.lst ((acc ++ (if isPt ls s v = true then [v] else [])).map nD)), .va (.int (v : Int)), s5', .no] := by
  by_cases h : v = s
  · refine ⟨s5, hs5, ?_⟩
    unfold w_single_points_1 isPt
    push_cast [h, List.map_append, List.append_nil] <;> simp
  · have e1 : lcGo [6] (.one 6) t_single_points_1 (eName 6) [.va (bhD n ls), .va (.int (s : Int)), .ow false (dD W), .ow false (.lst (acc.map nD)), .va (.int (v : Int)), s5, .no] (ls.map linkD) [] [.va (bhD n ls), .va (.int (s : Int)), .ow false (dD W), .ow false (.lst (acc.map nD)), .va (.int (v : Int)), s5, .no] = .ok (.tm (.lst ((without v ls).map linkD))) [.va (bhD n ls), .va (.int (s : Int)), .ow false (dD W), .ow false (.lst (acc.map nD)), .va (.int (v : Int)), s5, .no] := by
      refine lc_is linkD (fun l => !decide (v = l.1 ∨ v = l.2.1)) linkD ls (by have := ok.2; unfold SZ; omega) ?_
      intro l hl
      refine ⟨[.va (bhD n ls), .va (.int (s : Int)), .ow false (dD W), .ow false (.lst (acc.map nD)), .va (.int (v : Int)), s5, .va (linkD l)], rfl, rfl, ?_, fun _ => ⟨.fz (linkD l), ?_, rfl⟩⟩
      · unfold t_single_points_1 linkD
        push_cast [cut2, gNotIn_p]
      · push_cast [K.eC_K]
    obtain ⟨kvs, e2, nd, hk⟩ := wf_is (rows := .lst ((without v ls).map linkD)) (.inl rfl) hn (okL_without ok v) none hs
    obtain ⟨k1, k2⟩ := keys_len nd hk
    rw [show lvD none = .non from rfl] at e2
    refine ⟨.va (.lst ((without v ls).map linkD)), .inr ⟨_, .inl rfl⟩, ?_⟩
    have hne : ¬ ((v : Int) = (s : Int)) := by omega
    have hs2 : (acc.map nD).length < SZ := by rw [List.length_map]; unfold SZ; omega
    unfold bhD at e1 ⊢
    unfold w_single_points_1 isPt
    by_cases q : (reachN (without v ls) s).length + 1 < (reachN ls s).length
    · have q2 : (kvs.length : Int) < (W.length : Int) - 1 := by omega
      push_cast [hne, e1, e2, gLen_dD, q2, hs2, h, q, List.map_append] <;> simp
    · have q2 : ¬ (kvs.length : Int) < (W.length : Int) - 1 := by omega
      push_cast [hne, e1, e2, gLen_dD, q2, hs2, h, q, List.map_append] <;> simp
def pts (ls : List Link) (s : Nat) : List Nat := (srt (reachN ls s)).filter (isPt ls s)
theorem sp_is {n : Nat} (hn : n ≤ 100) {ls : List Link} (ok : okL n ls) {s : Nat} (hs : s < n) : d_single_points [bhD n ls, .int (s : Int)] = .ok (.tm (.lst ((pts ls s).map nD))) [] := by
  obtain ⟨W, e1, nd, hk⟩ := wf_is (rows := .tup (ls.map linkD)) (.inr rfl) hn ok none hs
  obtain ⟨k1, k2⟩ := keys_len nd hk
  have hlen := reachN_len ok hs
  obtain ⟨r', e2, s4, s5, h5, rfl⟩ := for_inv (t := .one 4) (b := w_single_points_1) nD (fun pre r => ∃ s4 s5, (s5 = .no ∨ ∃ d, s5 = .va d ∨ s5 = .ow false d) ∧ r = [.va (bhD n ls), .va (.int (s : Int)), .ow false (dD W), .ow false (.lst ((pre.filter (isPt ls s)).map nD)), s4, s5, .no]) (srt (reachN ls s)) (r := [.va (bhD n ls), .va (.int (s : Int)), .ow false (dD W), .ow false (.lst []), .no, .no, .no]) ⟨_, _, .inl rfl, rfl⟩ (by
    rintro pre v post e r ⟨s4, s5, h5, rfl⟩
    have hp : (pre.filter (isPt ls s)).length < 1000 := by
      have h1 := List.length_filter_le (isPt ls s) pre
      have h2 := congrArg List.length e
      rw [srt_len, List.length_append] at h2
      omega
    obtain ⟨s5', h5', e3⟩ := sp_body n hn ls ok s hs W k1 (pre.filter (isPt ls s)) hp v s5 h5
    refine ⟨_, rfl, _, .inl e3, .va (nD v), s5', h5', ?_⟩
    rw [filter_snoc])
  rw [show lvD none = .non from rfl] at e1
  unfold bhD at e2 ⊢
  unfold d_single_points b_single_points
  push_cast [e1, gSorted_dD, k2, e2]
  rfl
abbrev P75 (x0 x1 x4 x5 x6 x7 x8 x9 x10 x11 x12 x13 : Sl) (n : Nat) (ls : List Link) (s : Nat) (acc : List Nat) (x14 x16 : Sl) : Ev := [x0, x1, .va (bhD n ls), .va (.int (s : Int)), x4, x5, x6, x7, x8, x9, x10, x11, x12, x13, x14, .ow false (.lst (acc.map nD)), x16, .no]
theorem pt_body (x0 x1 x4 x5 x6 x7 x8 x9 x11 x12 x13 : Sl) (n : Nat) (hn : n ≤ 100) (ls : List Link) (ok : okL n ls) (h400 : ls.length ≤ 400) (s : Nat) (hs : s < n) (acc : List Nat) (hl : acc.length < 1000) (v : Nat) (x16 : Sl) :
    ∃ x16', w_law_5 (P75 x0 x1 x4 x5 x6 x7 x8 x9 (.va (.int (v : Int))) x11 x12 x13 n ls s acc (.va (.lst ((srt (reachN ls s)).map nD))) x16) = .nx (P75 x0 x1 x4 x5 x6 x7 x8 x9 (.va (.int (v : Int))) x11 x12 x13 n ls s (acc ++ (if isPt ls s v = true then [v] else [])) (.va (.lst ((srt (reachN ls s)).map nD))) x16') := by
  by_cases h : v = s
  · refine ⟨x16, ?_⟩
    unfold w_law_5 isPt
    push_cast [h, List.map_append, List.append_nil] <;> simp
  · have e1 : lcGo [17] (.one 17) t_law_4 x_law_3 (P75 x0 x1 x4 x5 x6 x7 x8 x9 (.va (.int (v : Int))) x11 x12 x13 n ls s acc (.va (.lst ((srt (reachN ls s)).map nD))) x16) (ls.map linkD) [] (P75 x0 x1 x4 x5 x6 x7 x8 x9 (.va (.int (v : Int))) x11 x12 x13 n ls s acc (.va (.lst ((srt (reachN ls s)).map nD))) x16) = .ok (.tm (.lst ((prs (without v ls)).map pairD))) (P75 x0 x1 x4 x5 x6 x7 x8 x9 (.va (.int (v : Int))) x11 x12 x13 n ls s acc (.va (.lst ((srt (reachN ls s)).map nD))) x16) := by
      rw [lc_is linkD (fun l => !decide (v = l.1 ∨ v = l.2.1)) (fun l => pairD (l.1, l.2.1)) ls (by have := ok.2; unfold SZ; omega) ?_]
      · unfold prs; rw [List.map_map]; rfl
      intro l hl
      refine ⟨[x0, x1, .va (bhD n ls), .va (.int (s : Int)), x4, x5, x6, x7, x8, x9, .va (.int (v : Int)), x11, x12, x13, .va (.lst ((srt (reachN ls s)).map nD)), .ow false (.lst (acc.map nD)), x16, .va (linkD l)], rfl, rfl, ?_, fun _ => ⟨.fz (pairD (l.1, l.2.1)), ?_, rfl⟩⟩
      · unfold t_law_4 linkD
        push_cast [cut2, gNotIn_p]
      · unfold x_law_3 linkD pairD
        push_cast [cut2]
    have hlen : (prs (without v ls)).length ≤ 400 := by unfold prs; rw [List.length_map]; have := without_len v ls; omega
    have e2 := part_is (rows := .lst ((prs (without v ls)).map pairD)) (.inl rfl) s hlen
    rw [show passes (prs (without v ls)) ((prs (without v ls)).length + 1) [s] = reachN (without v ls) s from rfl] at e2
    refine ⟨.ow false (.lst ((srt (reachN (without v ls) s)).map nD)), ?_⟩
    have hne : ¬ ((v : Int) = (s : Int)) := by omega
    have hs2 : acc.length < SZ := by unfold SZ; omega
    unfold P75 bhD at e1
    unfold P75 bhD
    unfold w_law_5 isPt
    by_cases q : (reachN (without v ls) s).length + 1 < (reachN ls s).length
    · have q2 : ((reachN (without v ls) s).length : Int) < ((reachN ls s).length : Int) - 1 := by omega
      push_cast [hne, e1, e2, List.length_map, srt_len, q2, hs2, h, q, List.map_append] <;> simp
    · have q2 : ¬ ((reachN (without v ls) s).length : Int) < ((reachN ls s).length : Int) - 1 := by omega
      push_cast [hne, e1, e2, List.length_map, srt_len, q2, hs2, h, q, List.map_append] <;> simp
theorem law_is (ns : List Int) : d_law [.kls (ns.map .int)] = .ok (.fz (.bl true)) [] := by
  obtain ⟨p0, hp0, e0⟩ := pool_is ns
  obtain ⟨p1, n, ls, hp1, n0, n20, ok, h400, e1⟩ := bh_is hp0 (most := 8) (by decide) (by decide)
  obtain ⟨sv, p2, hp2, s0, s1, e2⟩ := draw_is hp1 (m := (n : Int)) (by omega) (by omega)
  obtain ⟨s, rfl⟩ : ∃ s : Nat, sv = (s : Int) := ⟨sv.toNat, by omega⟩
  have hs : s < n := by omega
  obtain ⟨r', e3, p3, x4, x5, x6, x7, x8, x9, x10, x11, x12, x13, hp3, rfl⟩ := for_inv (t := .one 4) (b := w_law_4) nD (fun pre r => ∃ p x4 x5 x6 x7 x8 x9 x10 x11 x12 x13, PoolIs p ∧ r = W75 p n ls s (.va (.kls (ns.map .int))) x4 x5 x6 x7 x8 x9 x10 x11 x12 x13) (List.range 3) (r := W75 p2 n ls s (.va (.kls (ns.map .int))) .no .no .no .no .no .no .no .no .no .no) ⟨p2, _, _, _, _, _, _, _, _, _, _, hp2, rfl⟩ (by
    rintro pre k post e r ⟨p, x4, x5, x6, x7, x8, x9, x10, x11, x12, x13, hp, rfl⟩
    obtain ⟨p', y5, y6, y7, y8, y9, y10, y11, y12, y13, hp', e4⟩ := turn_is hp n20 ok hs (.va (.kls (ns.map .int))) (.va (nD k)) x5 x6 x7 x8 x9 x10 x11 x12 x13
    exact ⟨_, rfl, _, .inl e4, p', _, y5, y6, y7, y8, y9, y10, y11, y12, y13, hp', rfl⟩)
  have e5 : lcGo [17] (.one 17) tYes x_law_2 (W75 p3 n ls s (.va (.kls (ns.map .int))) x4 x5 x6 x7 x8 x9 x10 x11 x12 x13) (ls.map linkD) [] (W75 p3 n ls s (.va (.kls (ns.map .int))) x4 x5 x6 x7 x8 x9 x10 x11 x12 x13) = .ok (.tm (.lst ((prs ls).map pairD))) (W75 p3 n ls s (.va (.kls (ns.map .int))) x4 x5 x6 x7 x8 x9 x10 x11 x12 x13) := by
    rw [lc_is linkD (fun l => true) (fun l => pairD (l.1, l.2.1)) ls (by have := ok.2; unfold SZ; omega) ?_]
    · unfold prs; rw [List.filter_eq_self.mpr (fun _ _ => rfl), List.map_map]; rfl
    · intro l hl
      refine ⟨[.va (.kls (ns.map .int)), .ow false p3, .va (bhD n ls), .va (.int (s : Int)), x4, x5, x6, x7, x8, x9, x10, x11, x12, x13, .no, .no, .no, .va (linkD l)], rfl, rfl, rfl, fun _ => ⟨.fz (pairD (l.1, l.2.1)), ?_, rfl⟩⟩
      unfold x_law_2 linkD pairD
      push_cast [cut2]
  have e6 := part_is (rows := .lst ((prs ls).map pairD)) (.inl rfl) s (by unfold prs; rw [List.length_map]; exact h400)
  rw [show passes (prs ls) ((prs ls).length + 1) [s] = reachN ls s from rfl] at e6
  have hlen := reachN_len ok hs
  obtain ⟨r', e7, y10, y16, rfl⟩ := for_inv (t := .one 10) (b := w_law_5) nD (fun pre r => ∃ y10 y16, r = P75 (.va (.kls (ns.map .int))) (.ow false p3) x4 x5 x6 x7 x8 x9 y10 x11 x12 x13 n ls s (pre.filter (isPt ls s)) (.va (.lst ((srt (reachN ls s)).map nD))) y16) (srt (reachN ls s)) (r := P75 (.va (.kls (ns.map .int))) (.ow false p3) x4 x5 x6 x7 x8 x9 x10 x11 x12 x13 n ls s [] (.va (.lst ((srt (reachN ls s)).map nD))) .no) ⟨_, _, rfl⟩ (by
    rintro pre v post e r ⟨y10, y16, rfl⟩
    have hp : (pre.filter (isPt ls s)).length < 1000 := by
      have h1 := List.length_filter_le (isPt ls s) pre
      have h2 := congrArg List.length e
      rw [srt_len, List.length_append] at h2
      omega
    obtain ⟨x16', e8⟩ := pt_body (.va (.kls (ns.map .int))) (.ow false p3) x4 x5 x6 x7 x8 x9 x11 x12 x13 n (by omega) ls ok h400 s hs (pre.filter (isPt ls s)) hp v y16
    refine ⟨_, rfl, _, .inl e8, .va (nD v), x16', ?_⟩
    rw [filter_snoc])
  have e9 := sp_is (n := n) (by omega) ok hs
  have e10 := same_refl 39 (.lst ((pts ls s).map nD)) (okS_nD 38 _ (by unfold pts; have := List.length_filter_le (isPt ls s) (srt (reachN ls s)); rw [srt_len] at this; omega))
  rw [show 39 + 1 = 40 from rfl] at e10
  rw [show (srt (reachN ls s)).filter (isPt ls s) = pts ls s from rfl] at e7
  have u3 : upFrom 0 3 = (List.range 3).map nD := upFrom_nD 3
  unfold W75 bhD at e3 e5
  unfold P75 bhD at e7
  rw [show ((8 : Nat) : Int) = 8 from rfl] at e1
  unfold bhD at e1 e9
  rw [List.map_nil] at e7
  unfold d_law b_law
  push_cast [e0, e1, e2, u3, e3, e5, e6, e7, e9, e10]
end TT
end

section
/-! Printed by gen.py: the walks. -/
set_option Elab.async false
set_option linter.all false
set_option maxRecDepth 100000
set_option maxHeartbeats 4000000
set_option autoImplicit false
namespace TT
open PySem PySem.Spec PyProof.Rows L2 DL
def topS (i : Nat) : Stmt := PySem.Challenge.pw_airwave_k75_hops_and_single_points.main.body.getD i (.Pass ⟨0, 0, 0, 0⟩)
abbrev s__law_pool : Stmt := topS 10
abbrev N__law_pool : List Str := ["script", "salt", "cell"]
theorem sc__law_pool : FnScope N__law_pool ["script"] (defScope s__law_pool) := ⟨rfl, rfl, rfl, by decide +kernel, rfl, by decide +kernel, by decide +kernel⟩
abbrev s__law_spread : Stmt := topS 11
abbrev N__law_spread : List Str := ["cell", "mixed", "total", "k"]
theorem sc__law_spread : FnScope N__law_spread ["cell"] (defScope s__law_spread) := ⟨rfl, rfl, rfl, by decide +kernel, rfl, by decide +kernel, by decide +kernel⟩
abbrev s__law_draw : Stmt := topS 12
abbrev N__law_draw : List Str := ["pool", "many", "cell", "mixed", "value"]
theorem sc__law_draw : FnScope N__law_draw ["pool", "many"] (defScope s__law_draw) := ⟨rfl, rfl, rfl, by decide +kernel, rfl, by decide +kernel, by decide +kernel⟩
abbrev s__law_backhaul : Stmt := topS 13
abbrev N__law_backhaul : List Str := ["pool", "most", "count", "links", "dense", "i", "j"]
theorem sc__law_backhaul : FnScope N__law_backhaul ["pool", "most"] (defScope s__law_backhaul) := ⟨rfl, rfl, rfl, by decide +kernel, rfl, by decide +kernel, by decide +kernel⟩
abbrev s__law_part : Stmt := topS 14
abbrev N__law_part : List Str := ["pairs", "start", "found", "turn", "pair"]
theorem sc__law_part : FnScope N__law_part ["pairs", "start"] (defScope s__law_part) := ⟨rfl, rfl, rfl, by decide +kernel, rfl, by decide +kernel, by decide +kernel⟩
abbrev s__law_same : Stmt := topS 8
abbrev N__law_same : List Str := ["actual", "due", "k"]
theorem sc__law_same : FnScope N__law_same ["actual", "due"] (defScope s__law_same) := ⟨rfl, rfl, rfl, by decide +kernel, rfl, by decide +kernel, by decide +kernel⟩
abbrev s_next_nodes : Stmt := topS 1
abbrev N_next_nodes : List Str := ["links", "node", "level", "found", "i", "j", "own"]
theorem sc_next_nodes : FnScope N_next_nodes ["links", "node", "level"] (defScope s_next_nodes) := ⟨rfl, rfl, rfl, by decide +kernel, rfl, by decide +kernel, by decide +kernel⟩
abbrev s_hops : Stmt := topS 4
abbrev N_hops : List Str := ["backhaul", "root", "level", "found", "waiting", "node", "other"]
theorem sc_hops : FnScope N_hops ["backhaul", "root", "level"] (defScope s_hops) := ⟨rfl, rfl, rfl, by decide +kernel, rfl, by decide +kernel, by decide +kernel⟩
abbrev s_ways_from : Stmt := topS 2
abbrev N_ways_from : List Str := ["links", "start", "level", "before", "waiting", "node", "other"]
theorem sc_ways_from : FnScope N_ways_from ["links", "start", "level"] (defScope s_ways_from) := ⟨rfl, rfl, rfl, by decide +kernel, rfl, by decide +kernel, by decide +kernel⟩
abbrev s_single_points : Stmt := topS 5
abbrev N_single_points : List Str := ["backhaul", "root", "whole", "found", "node", "rest", "row"]
theorem sc_single_points : FnScope N_single_points ["backhaul", "root"] (defScope s_single_points) := ⟨rfl, rfl, rfl, by decide +kernel, rfl, by decide +kernel, by decide +kernel⟩
abbrev s__law_equal : Stmt := topS 7
abbrev N__law_equal : List Str := ["x", "y", "k", "key"]
theorem sc__law_equal : FnScope N__law_equal ["x", "y"] (defScope s__law_equal) := ⟨rfl, rfl, rfl, by decide +kernel, rfl, by decide +kernel, by decide +kernel⟩
abbrev s_law : Stmt := topS 16
abbrev N_law : List Str := ["script", "pool", "backhaul", "root", "turn", "level", "pairs", "due", "step", "here", "node", "pair", "other", "told", "whole", "points", "rest", "row"]
theorem sc_law : FnScope N_law ["script"] (defScope s_law) := ⟨rfl, rfl, rfl, by decide +kernel, rfl, by decide +kernel, by decide +kernel⟩
/-- what the top has left -/
structure Txt (K : PySem.W.Frag) (mg : Str → Option Value) where
  a__law_pool : Addr
  fd__law_pool : FuncData
  F__law_pool : Fun K "_law_pool" "_law_pool" s__law_pool a__law_pool fd__law_pool
  b__law_pool : Binds K fd__law_pool ["script"] []
  a__law_spread : Addr
  fd__law_spread : FuncData
  F__law_spread : Fun K "_law_spread" "_law_spread" s__law_spread a__law_spread fd__law_spread
  b__law_spread : Binds K fd__law_spread ["cell"] []
  a__law_draw : Addr
  fd__law_draw : FuncData
  F__law_draw : Fun K "_law_draw" "_law_draw" s__law_draw a__law_draw fd__law_draw
  b__law_draw : Binds K fd__law_draw ["pool", "many"] []
  a__law_backhaul : Addr
  fd__law_backhaul : FuncData
  F__law_backhaul : Fun K "_law_backhaul" "_law_backhaul" s__law_backhaul a__law_backhaul fd__law_backhaul
  b__law_backhaul : Binds K fd__law_backhaul ["pool", "most"] []
  a__law_part : Addr
  fd__law_part : FuncData
  F__law_part : Fun K "_law_part" "_law_part" s__law_part a__law_part fd__law_part
  b__law_part : Binds K fd__law_part ["pairs", "start"] []
  a__law_same : Addr
  fd__law_same : FuncData
  F__law_same : Fun K "_law_same" "_law_same" s__law_same a__law_same fd__law_same
  b__law_same : Binds K fd__law_same ["actual", "due"] []
  a_next_nodes : Addr
  fd_next_nodes : FuncData
  F_next_nodes : Fun K "next_nodes" "next_nodes" s_next_nodes a_next_nodes fd_next_nodes
  b_next_nodes : Binds K fd_next_nodes ["links", "node", "level"] []
  a_hops : Addr
  fd_hops : FuncData
  F_hops : Fun K "hops" "hops" s_hops a_hops fd_hops
  b_hops : Binds K fd_hops ["backhaul", "root", "level"] []
  a_ways_from : Addr
  fd_ways_from : FuncData
  F_ways_from : Fun K "ways_from" "ways_from" s_ways_from a_ways_from fd_ways_from
  b_ways_from : Binds K fd_ways_from ["links", "start", "level"] []
  a_single_points : Addr
  fd_single_points : FuncData
  F_single_points : Fun K "single_points" "single_points" s_single_points a_single_points fd_single_points
  b_single_points : Binds K fd_single_points ["backhaul", "root"] []
  a__law_equal : Addr
  fd__law_equal : FuncData
  F__law_equal : Fun K "_law_equal" "_law_equal" s__law_equal a__law_equal fd__law_equal
  b__law_equal : Binds K fd__law_equal ["x", "y"] []
  a_law : Addr
  fd_law : FuncData
  F_law : Fun K "law" "law" s_law a_law fd_law
  b_law : Binds K fd_law ["script"] []
  m__law_backhaul : mg "_law_backhaul" = some (.ref a__law_backhaul)
  m__law_draw : mg "_law_draw" = some (.ref a__law_draw)
  m__law_equal : mg "_law_equal" = some (.ref a__law_equal)
  m__law_part : mg "_law_part" = some (.ref a__law_part)
  m__law_pool : mg "_law_pool" = some (.ref a__law_pool)
  m__law_same : mg "_law_same" = some (.ref a__law_same)
  m__law_spread : mg "_law_spread" = some (.ref a__law_spread)
  m_hops : mg "hops" = some (.ref a_hops)
  m_next_nodes : mg "next_nodes" = some (.ref a_next_nodes)
  m_single_points : mg "single_points" = some (.ref a_single_points)
  m_ways_from : mg "ways_from" = some (.ref a_ways_from)
  m_law : mg "law" = some (.ref a_law)
  n_all : mg "all" = none
  n_bool : mg "bool" = none
  n_dict : mg "dict" = none
  n_int : mg "int" = none
  n_isinstance : mg "isinstance" = none
  n_len : mg "len" = none
  n_list : mg "list" = none
  n_range : mg "range" = none
  n_sorted : mg "sorted" = none
  n_str : mg "str" = none
  n_tuple : mg "tuple" = none
section
variable {P : Program} {w : World} {K : PySem.W.Frag} {mg : Str → Option Value} {base : Heap}
theorem ok__law_pool (T : Txt K mg) : FnOk P w K mg base (L2.CX P w) 1 T.a__law_pool T.fd__law_pool ["script"] (spD mg K [false] d__law_pool) :=
  fn_ok (k := 0) T.F__law_pool sc__law_pool rfl (by decide) (by decide) <| fun cdv A outer s H E hr => by
    have tk := takes_of (X := cxOf (L2.CX P w) P w K mg base N__law_pool "_law_pool" (defScope s__law_pool) T.a__law_pool cdv A outer s H E) rfl rfl rfl rfl
    have po : PassesOwn (model P w) (A.deeper (envOfC "_law_pool" (defScope s__law_pool) s.heap.objs.size T.a__law_pool cdv)) (envOfC "_law_pool" (defScope s__law_pool) s.heap.objs.size T.a__law_pool cdv) (cxOf (L2.CX P w) P w K mg base N__law_pool "_law_pool" (defScope s__law_pool) T.a__law_pool cdv A outer s H E).xe := passes_of rfl
    have hu0 := hr.units0
    have hu1 := hu_of hr
    have hu64 := hr.units
    have hu65 : (A.deeper (envOfC "_law_pool" (defScope s__law_pool) s.heap.objs.size T.a__law_pool cdv)).units + 65 < cLine := by have := hr.un; omega
    have sc := sc__law_pool
    exact (db_cons (ds_set (i := 1) sc.nd rfl (.inl rfl) de_int)
  (db_cons (ds_for po rfl (di_seq (de_slice (de_name (pv 0)) dp_no (dp_some de_int))) (dg_one (pg_name (i := 2) sc.nd rfl (.inl rfl)))
  (db_one (ds_set (i := 1) sc.nd rfl (.inl rfl) (de_bin opd_mod (de_callTy cd_int (by rfl) T.n_int (by decide +kernel) (da_cons (de_bin opd_add (de_bin opd_mul (de_name (pv 1)) de_int) (de_name (pv 2))) da_nil)) de_int))))
  (db_one (ds_ret (de_lst (da_cons (de_callTy cd_list (by rfl) T.n_list (by decide +kernel) (da_cons (de_name (pv 0)) da_nil)) (da_cons de_int (da_cons de_int (da_cons de_int (da_cons (de_name (pv 1)) da_nil))))))))))
theorem ok__law_spread (T : Txt K mg) : FnOk P w K mg base (L2.CX P w) 1 T.a__law_spread T.fd__law_spread ["cell"] (spD mg K [false] d__law_spread) :=
  fn_ok (k := 0) T.F__law_spread sc__law_spread rfl (by decide) (by decide) <| fun cdv A outer s H E hr => by
    have tk := takes_of (X := cxOf (L2.CX P w) P w K mg base N__law_spread "_law_spread" (defScope s__law_spread) T.a__law_spread cdv A outer s H E) rfl rfl rfl rfl
    have po : PassesOwn (model P w) (A.deeper (envOfC "_law_spread" (defScope s__law_spread) s.heap.objs.size T.a__law_spread cdv)) (envOfC "_law_spread" (defScope s__law_spread) s.heap.objs.size T.a__law_spread cdv) (cxOf (L2.CX P w) P w K mg base N__law_spread "_law_spread" (defScope s__law_spread) T.a__law_spread cdv A outer s H E).xe := passes_of rfl
    have hu0 := hr.units0
    have hu1 := hu_of hr
    have hu64 := hr.units
    have hu65 : (A.deeper (envOfC "_law_spread" (defScope s__law_spread) s.heap.objs.size T.a__law_spread cdv)).units + 65 < cLine := by have := hr.un; omega
    have sc := sc__law_spread
    exact (db_cons (ds_set (i := 1) sc.nd rfl (.inl rfl) (de_bin opd_mod (de_callTy cd_int (by rfl) T.n_int (by decide +kernel) (da_cons (de_name (pv 0)) da_nil)) de_int))
  (db_cons (ds_set (i := 2) sc.nd rfl (.inl rfl) de_int)
  (db_cons (ds_for po rfl (di_rng1 (by rfl) T.n_range de_int) (dg_one (pg_name (i := 3) sc.nd rfl (.inl rfl)))
  (db_cons (ds_set (i := 1) sc.nd rfl (.inl rfl) (de_bin opd_mod (de_callTy cd_int (by rfl) T.n_int (by decide +kernel) (da_cons (de_bin opd_add (de_bin opd_add (de_bin opd_mul (de_name (pv 1)) de_int) de_int) (de_name (pv 3))) da_nil)) de_int))
  (db_one (ds_set (i := 2) sc.nd rfl (.inl rfl) (de_bin opd_add (de_bin opd_mul (de_name (pv 2)) de_int) (de_name (pv 1)))))))
  (db_one (ds_ret (de_name (pv 2)))))))
theorem ok__law_draw (T : Txt K mg) : FnOk P w K mg base (L2.CX P w) 2 T.a__law_draw T.fd__law_draw ["pool", "many"] (spD mg K [true, false] d__law_draw) :=
  fn_ok (k := 1) T.F__law_draw sc__law_draw rfl (by decide) (by decide) <| fun cdv A outer s H E hr => by
    have tk := takes_of (X := cxOf (L2.CX P w) P w K mg base N__law_draw "_law_draw" (defScope s__law_draw) T.a__law_draw cdv A outer s H E) rfl rfl rfl rfl
    have po : PassesOwn (model P w) (A.deeper (envOfC "_law_draw" (defScope s__law_draw) s.heap.objs.size T.a__law_draw cdv)) (envOfC "_law_draw" (defScope s__law_draw) s.heap.objs.size T.a__law_draw cdv) (cxOf (L2.CX P w) P w K mg base N__law_draw "_law_draw" (defScope s__law_draw) T.a__law_draw cdv A outer s H E).xe := passes_of rfl
    have hu0 := hr.units0
    have hu1 := hu_of hr
    have hu64 := hr.units
    have hu65 : (A.deeper (envOfC "_law_draw" (defScope s__law_draw) s.heap.objs.size T.a__law_draw cdv)).units + 65 < cLine := by have := hr.un; omega
    have sc := sc__law_draw
    exact (db_cons (ds_if (DW.dt (dw_and (dt_cmp opd_le (de_ix hu1 (de_name (pv 0)) de_int) de_int (nomark _)) (dw_and1 (dt_cmp (opd_lt hu0) (de_ix hu1 (de_name (pv 0)) de_int) (de_callB cd_len (by rfl) T.n_len (by decide +kernel) (da_cons (de_ix hu1 (de_name (pv 0)) de_int) da_nil)) (nomark _)))))
  (db_cons (ds_set (i := 2) sc.nd rfl (.inl rfl) (de_ix hu1 (de_ix hu1 (de_name (pv 0)) de_int) (de_ix hu1 (de_name (pv 0)) de_int)))
  (db_cons (ds_sub hu1 (pv 0) de_int (de_bin opd_add (de_ix hu1 (de_name (pv 0)) de_int) de_int))
  (db_cons (ds_sub hu1 (pv 0) de_int (de_name (pv 2)))
  (db_one (ds_if (dt_cmp (opd_lt hu0) (de_name (pv 2)) de_int (nomark _))
  (db_one (ds_sub hu1 (pv 0) de_int (de_call (ok__law_spread T) (hr.mono (by first | decide | omega)) tk (by rfl) T.m__law_spread T.F__law_spread.kp T.b__law_spread (da_cons (de_name (pv 2)) da_nil))))
  db_nil)))))
  db_nil)
  (db_cons (ds_sub hu1 (pv 0) de_int (de_bin opd_add (de_ix hu1 (de_name (pv 0)) de_int) de_int))
  (db_cons (ds_if (dt_cmp opd_le (de_ix hu1 (de_name (pv 0)) de_int) de_int (nomark _))
  (db_cons (ds_set (i := 3) sc.nd rfl (.inl rfl) (de_bin opd_mod (de_callTy cd_int (by rfl) T.n_int (by decide +kernel) (da_cons (de_bin opd_add (de_bin opd_add (de_bin opd_mul (de_ix hu1 (de_name (pv 0)) de_int) de_int) (de_bin opd_mul (de_ix hu1 (de_name (pv 0)) de_int) de_int)) de_int) da_nil)) de_int))
  (db_cons (ds_set (i := 3) sc.nd rfl (.inl rfl) (de_bin opd_mod (de_callTy cd_int (by rfl) T.n_int (by decide +kernel) (da_cons (de_bin opd_add (de_bin opd_mul (de_name (pv 3)) de_int) (de_ix hu1 (de_name (pv 0)) de_int)) da_nil)) de_int))
  (db_one (ds_ret (de_bin opd_mod (de_bin opd_fdiv (de_name (pv 3)) de_int) (de_name (pv 1)))))))
  db_nil)
  (db_cons (ds_set (i := 4) sc.nd rfl (.inl rfl) (de_bin opd_mod (de_callTy cd_int (by rfl) T.n_int (by decide +kernel) (da_cons (de_ix hu1 (de_name (pv 0)) de_int) da_nil)) (de_name (pv 1))))
  (db_cons (ds_sub hu1 (pv 0) de_int (de_bin opd_fdiv (de_ix hu1 (de_name (pv 0)) de_int) (de_name (pv 1))))
  (db_one (ds_ret (de_name (pv 4)))))))))
theorem ok__law_backhaul (T : Txt K mg) : FnOk P w K mg base (L2.CX P w) 3 T.a__law_backhaul T.fd__law_backhaul ["pool", "most"] (spD mg K [true, false] d__law_backhaul) :=
  fn_ok (k := 2) T.F__law_backhaul sc__law_backhaul rfl (by decide) (by decide) <| fun cdv A outer s H E hr => by
    have tk := takes_of (X := cxOf (L2.CX P w) P w K mg base N__law_backhaul "_law_backhaul" (defScope s__law_backhaul) T.a__law_backhaul cdv A outer s H E) rfl rfl rfl rfl
    have po : PassesOwn (model P w) (A.deeper (envOfC "_law_backhaul" (defScope s__law_backhaul) s.heap.objs.size T.a__law_backhaul cdv)) (envOfC "_law_backhaul" (defScope s__law_backhaul) s.heap.objs.size T.a__law_backhaul cdv) (cxOf (L2.CX P w) P w K mg base N__law_backhaul "_law_backhaul" (defScope s__law_backhaul) T.a__law_backhaul cdv A outer s H E).xe := passes_of rfl
    have hu0 := hr.units0
    have hu1 := hu_of hr
    have hu64 := hr.units
    have hu65 : (A.deeper (envOfC "_law_backhaul" (defScope s__law_backhaul) s.heap.objs.size T.a__law_backhaul cdv)).units + 65 < cLine := by have := hr.un; omega
    have sc := sc__law_backhaul
    exact (db_cons (ds_set (i := 2) sc.nd rfl (.inl rfl) (de_bin opd_add de_int (de_call (ok__law_draw T) (hr.mono (by first | decide | omega)) tk (by rfl) T.m__law_draw T.F__law_draw.kp T.b__law_draw (da_cons (de_name (pv 0)) (da_cons (de_ix hu1 (de_lst (da_cons (de_name (pv 1)) (da_cons (de_name (pv 1)) (da_cons (de_name (pv 1)) (da_cons de_int da_nil))))) (de_call (ok__law_draw T) (hr.mono (by first | decide | omega)) tk (by rfl) T.m__law_draw T.F__law_draw.kp T.b__law_draw (da_cons (de_name (pv 0)) (da_cons de_int da_nil)))) da_nil)))))
  (db_cons (ds_set (i := 3) sc.nd rfl (.inl rfl) (de_lst da_nil))
  (db_cons (ds_set (i := 4) sc.nd rfl (.inl rfl) (de_bin opd_add (de_bin opd_add de_int (de_call (ok__law_draw T) (hr.mono (by first | decide | omega)) tk (by rfl) T.m__law_draw T.F__law_draw.kp T.b__law_draw (da_cons (de_name (pv 0)) (da_cons de_int da_nil)))) (de_bin opd_mul de_int (de_callTy cd_int (by rfl) T.n_int (by decide +kernel) (da_cons (de_cmp opd_gt (de_name (pv 2)) de_int (nomark _)) da_nil)))))
  (db_cons (ds_for po rfl (di_rng1 (by rfl) T.n_range (de_name (pv 2))) (dg_one (pg_name (i := 5) sc.nd rfl (.inl rfl)))
  (db_one (ds_for po rfl (di_rng2 (by rfl) T.n_range (de_bin opd_add (de_name (pv 5)) de_int) (de_name (pv 2))) (dg_one (pg_name (i := 6) sc.nd rfl (.inl rfl)))
  (db_one (ds_if (dt_cmp (opd_eq hu64) (de_call (ok__law_draw T) (hr.mono (by first | decide | omega)) tk (by rfl) T.m__law_draw T.F__law_draw.kp T.b__law_draw (da_cons (de_name (pv 0)) (da_cons (de_name (pv 4)) da_nil))) de_int (nomark _))
  (db_one (ds_expr (de_mut PySem.F.slot_list_append PySem.F.type_list_append md_append (pv 3) (da_cons (de_tup (da_cons (de_name (pv 5)) (da_cons (de_name (pv 6)) (da_cons (de_bin opd_mul de_int (de_call (ok__law_draw T) (hr.mono (by first | decide | omega)) tk (by rfl) T.m__law_draw T.F__law_draw.kp T.b__law_draw (da_cons (de_name (pv 0)) (da_cons de_int da_nil)))) da_nil)))) da_nil))))
  db_nil)))))
  (db_one (ds_ret (de_tup (da_cons (de_name (pv 2)) (da_cons (de_callTy cd_tuple (by rfl) T.n_tuple (by decide +kernel) (da_cons (de_name (pv 3)) da_nil)) da_nil)))))))))
theorem ok__law_part (T : Txt K mg) : FnOk P w K mg base (L2.CX P w) 1 T.a__law_part T.fd__law_part ["pairs", "start"] (spD mg K [false, false] d__law_part) :=
  fn_ok (k := 0) T.F__law_part sc__law_part rfl (by decide) (by decide) <| fun cdv A outer s H E hr => by
    have tk := takes_of (X := cxOf (L2.CX P w) P w K mg base N__law_part "_law_part" (defScope s__law_part) T.a__law_part cdv A outer s H E) rfl rfl rfl rfl
    have po : PassesOwn (model P w) (A.deeper (envOfC "_law_part" (defScope s__law_part) s.heap.objs.size T.a__law_part cdv)) (envOfC "_law_part" (defScope s__law_part) s.heap.objs.size T.a__law_part cdv) (cxOf (L2.CX P w) P w K mg base N__law_part "_law_part" (defScope s__law_part) T.a__law_part cdv A outer s H E).xe := passes_of rfl
    have hu0 := hr.units0
    have hu1 := hu_of hr
    have hu64 := hr.units
    have hu65 : (A.deeper (envOfC "_law_part" (defScope s__law_part) s.heap.objs.size T.a__law_part cdv)).units + 65 < cLine := by have := hr.un; omega
    have sc := sc__law_part
    exact (db_cons (ds_set (i := 2) sc.nd rfl (.inl rfl) (de_lst (da_cons (de_name (pv 1)) da_nil)))
  (db_cons (ds_for po rfl (di_rng1 (by rfl) T.n_range (de_bin opd_add (de_callB cd_len (by rfl) T.n_len (by decide +kernel) (da_cons (de_name (pv 0)) da_nil)) de_int)) (dg_one (pg_name (i := 3) sc.nd rfl (.inl rfl)))
  (db_one (ds_for po rfl (di_seq (de_name (pv 0))) (dg_one (pg_name (i := 4) sc.nd rfl (.inl rfl)))
  (db_one (ds_if (DW.dt (dw_and (dt_cmp (opd_in hu65) (de_ix hu1 (de_name (pv 4)) de_int) (de_name (pv 2)) (by rfl)) (dw_and1 (dt_cmp (opd_notIn hu65) (de_ix hu1 (de_name (pv 4)) de_int) (de_name (pv 2)) (by rfl)))))
  (db_one (ds_expr (de_mut PySem.F.slot_list_append PySem.F.type_list_append md_append (pv 2) (da_cons (de_ix hu1 (de_name (pv 4)) de_int) da_nil))))
  (db_one (ds_if (DW.dt (dw_and (dt_cmp (opd_in hu65) (de_ix hu1 (de_name (pv 4)) de_int) (de_name (pv 2)) (by rfl)) (dw_and1 (dt_cmp (opd_notIn hu65) (de_ix hu1 (de_name (pv 4)) de_int) (de_name (pv 2)) (by rfl)))))
  (db_one (ds_expr (de_mut PySem.F.slot_list_append PySem.F.type_list_append md_append (pv 2) (da_cons (de_ix hu1 (de_name (pv 4)) de_int) da_nil))))
  db_nil)))))))
  (db_one (ds_ret (de_callB (cd_sortedD rfl) (by rfl) T.n_sorted (by decide +kernel) (da_cons (de_name (pv 2)) da_nil))))))
theorem ok__law_same (T : Txt K mg) : ∀ n : Nat, FnOk P w K mg base (L2.CX P w) (1 + n) T.a__law_same T.fd__law_same ["actual", "due"] (spD mg K [false, false] (d__law_same n))
  | 0 => fn_bad rfl
  | n + 1 => by
    have ih : FnOk P w K mg base (L2.CX P w) (1 + n) T.a__law_same T.fd__law_same ["actual", "due"] (spD mg K [false, false] (d__law_same n)) := ok__law_same T n
    refine fn_ok (k := 1 + n) T.F__law_same sc__law_same rfl (by decide) (by decide) ?_
    exact fun cdv A outer s H E hr => by
      have tk := takes_of (X := cxOf (L2.CX P w) P w K mg base N__law_same "_law_same" (defScope s__law_same) T.a__law_same cdv A outer s H E) rfl rfl rfl rfl
      have po : PassesOwn (model P w) (A.deeper (envOfC "_law_same" (defScope s__law_same) s.heap.objs.size T.a__law_same cdv)) (envOfC "_law_same" (defScope s__law_same) s.heap.objs.size T.a__law_same cdv) (cxOf (L2.CX P w) P w K mg base N__law_same "_law_same" (defScope s__law_same) T.a__law_same cdv A outer s H E).xe := passes_of rfl
      have hu0 := hr.units0
      have hu1 := hu_of hr
      have hu64 := hr.units
      have hu65 : (A.deeper (envOfC "_law_same" (defScope s__law_same) s.heap.objs.size T.a__law_same cdv)).units + 65 < cLine := by have := hr.un; omega
      have sc := sc__law_same
      exact (db_cons (ds_if (DW.dt (dw_or (dt_tru (de_isi (t := .tuple) rfl T.n_isinstance (by decide +kernel) rfl T.n_tuple (by decide +kernel) (de_name (pv 1)))) (dw_or1 (dt_tru (de_isi (t := .list) rfl T.n_isinstance (by decide +kernel) rfl T.n_list (by decide +kernel) (de_name (pv 1)))))))
  (db_cons (ds_if (DW.dt (dw_or (dt_cmp (opd_ne hu64) (de_isi (t := .tuple) rfl T.n_isinstance (by decide +kernel) rfl T.n_tuple (by decide +kernel) (de_name (pv 1))) (de_isi (t := .tuple) rfl T.n_isinstance (by decide +kernel) rfl T.n_tuple (by decide +kernel) (de_name (pv 0))) (nomark _)) (dw_or1 (dt_cmp (opd_ne hu64) (de_isi (t := .list) rfl T.n_isinstance (by decide +kernel) rfl T.n_list (by decide +kernel) (de_name (pv 1))) (de_isi (t := .list) rfl T.n_isinstance (by decide +kernel) rfl T.n_list (by decide +kernel) (de_name (pv 0))) (nomark _)))))
  (db_one (ds_ret de_bl))
  db_nil)
  (db_cons (ds_if (dt_cmp (opd_ne hu64) (de_callB cd_len (by rfl) T.n_len (by decide +kernel) (da_cons (de_name (pv 0)) da_nil)) (de_callB cd_len (by rfl) T.n_len (by decide +kernel) (da_cons (de_name (pv 1)) da_nil)) (nomark _))
  (db_one (ds_ret de_bl))
  db_nil)
  (db_cons (ds_for po rfl (di_rng1 (by rfl) T.n_range (de_callB cd_len (by rfl) T.n_len (by decide +kernel) (da_cons (de_name (pv 1)) da_nil))) (dg_one (pg_name (i := 2) sc.nd rfl (.inl rfl)))
  (db_one (ds_if (dt_not (dt_tru (de_call (ih) (hr.mono (by omega)) tk (by rfl) T.m__law_same T.F__law_same.kp T.b__law_same (da_cons (de_ix hu1 (de_name (pv 0)) (de_name (pv 2))) (da_cons (de_ix hu1 (de_name (pv 1)) (de_name (pv 2))) da_nil)))))
  (db_one (ds_ret de_bl))
  db_nil)))
  (db_one (ds_ret de_bl)))))
  db_nil)
  (db_cons (ds_if (dt_cmp opd_is (de_name (pv 1)) de_non (nomark _))
  (db_one (ds_ret (de_cmp opd_is (de_name (pv 0)) de_non (nomark _))))
  db_nil)
  (db_cons (ds_if (dt_tru (de_isi (t := .bool) rfl T.n_isinstance (by decide +kernel) rfl T.n_bool (by decide +kernel) (de_name (pv 1))))
  (db_one (ds_ret (de_and (de_isi (t := .bool) rfl T.n_isinstance (by decide +kernel) rfl T.n_bool (by decide +kernel) (de_name (pv 0))) (de_one (de_cmp (opd_eq hu64) (de_name (pv 0)) (de_name (pv 1)) (nomark _))))))
  db_nil)
  (db_cons (ds_if (dt_tru (de_isi (t := .int) rfl T.n_isinstance (by decide +kernel) rfl T.n_int (by decide +kernel) (de_name (pv 1))))
  (db_one (ds_ret (de_and (de_isi (t := .int) rfl T.n_isinstance (by decide +kernel) rfl T.n_int (by decide +kernel) (de_name (pv 0))) (de_and (de_notE (de_isi (t := .bool) rfl T.n_isinstance (by decide +kernel) rfl T.n_bool (by decide +kernel) (de_name (pv 0)))) (de_one (de_cmp (opd_eq hu64) (de_name (pv 0)) (de_name (pv 1)) (nomark _)))))))
  db_nil)
  (db_one (ds_ret (de_and (de_isi (t := .str) rfl T.n_isinstance (by decide +kernel) rfl T.n_str (by decide +kernel) (de_name (pv 0))) (de_one (de_cmp (opd_eq hu64) (de_name (pv 0)) (de_name (pv 1)) (nomark _))))))))))
theorem ok_next_nodes (T : Txt K mg) : FnOk P w K mg base (L2.CX P w) 1 T.a_next_nodes T.fd_next_nodes ["links", "node", "level"] (spD mg K [false, false, false] d_next_nodes) :=
  fn_ok (k := 0) T.F_next_nodes sc_next_nodes rfl (by decide) (by decide) <| fun cdv A outer s H E hr => by
    have tk := takes_of (X := cxOf (L2.CX P w) P w K mg base N_next_nodes "next_nodes" (defScope s_next_nodes) T.a_next_nodes cdv A outer s H E) rfl rfl rfl rfl
    have po : PassesOwn (model P w) (A.deeper (envOfC "next_nodes" (defScope s_next_nodes) s.heap.objs.size T.a_next_nodes cdv)) (envOfC "next_nodes" (defScope s_next_nodes) s.heap.objs.size T.a_next_nodes cdv) (cxOf (L2.CX P w) P w K mg base N_next_nodes "next_nodes" (defScope s_next_nodes) T.a_next_nodes cdv A outer s H E).xe := passes_of rfl
    have hu0 := hr.units0
    have hu1 := hu_of hr
    have hu64 := hr.units
    have hu65 : (A.deeper (envOfC "next_nodes" (defScope s_next_nodes) s.heap.objs.size T.a_next_nodes cdv)).units + 65 < cLine := by have := hr.un; omega
    have sc := sc_next_nodes
    exact (db_cons (ds_set (i := 3) sc.nd rfl (.inl rfl) (de_lst da_nil))
  (db_cons (ds_for po rfl (di_seq (de_name (pv 0))) (dg_many rfl (dgs_cons (pg_name (i := 4) sc.nd rfl (.inl rfl)) (dgs_cons (pg_name (i := 5) sc.nd rfl (.inl rfl)) (dgs_cons (pg_name (i := 6) sc.nd rfl (.inl rfl)) dgs_nil))))
  (db_one (ds_if (DW.dt (dw_and (DW.dt (dw_or (dt_cmp opd_is (de_name (pv 2)) de_non (nomark _)) (dw_or1 (dt_cmp opd_ge (de_name (pv 6)) (de_name (pv 2)) (nomark _))))) (dw_and1 (dt_cmp (opd_in hu65) (de_name (pv 1)) (de_tup (da_cons (de_name (pv 4)) (da_cons (de_name (pv 5)) da_nil))) (by rfl)))))
  (db_one (ds_expr (de_mut PySem.F.slot_list_append PySem.F.type_list_append md_append (pv 3) (da_cons (de_bin opd_sub (de_bin opd_add (de_name (pv 4)) (de_name (pv 5))) (de_name (pv 1))) da_nil))))
  db_nil)))
  (db_one (ds_ret (de_callB (cd_sortedD rfl) (by rfl) T.n_sorted (by decide +kernel) (da_cons (de_name (pv 3)) da_nil))))))
theorem ok_hops (T : Txt K mg) : FnOk P w K mg base (L2.CX P w) 2 T.a_hops T.fd_hops ["backhaul", "root", "level"] (spD mg K [false, false, false] d_hops) :=
  fn_ok (k := 1) T.F_hops sc_hops rfl (by decide) (by decide) <| fun cdv A outer s H E hr => by
    have tk := takes_of (X := cxOf (L2.CX P w) P w K mg base N_hops "hops" (defScope s_hops) T.a_hops cdv A outer s H E) rfl rfl rfl rfl
    have po : PassesOwn (model P w) (A.deeper (envOfC "hops" (defScope s_hops) s.heap.objs.size T.a_hops cdv)) (envOfC "hops" (defScope s_hops) s.heap.objs.size T.a_hops cdv) (cxOf (L2.CX P w) P w K mg base N_hops "hops" (defScope s_hops) T.a_hops cdv A outer s H E).xe := passes_of rfl
    have hu0 := hr.units0
    have hu1 := hu_of hr
    have hu64 := hr.units
    have hu65 : (A.deeper (envOfC "hops" (defScope s_hops) s.heap.objs.size T.a_hops cdv)).units + 65 < cLine := by have := hr.un; omega
    have sc := sc_hops
    exact (db_cons (ds_set (i := 3) sc.nd rfl (.inl rfl) (de_disp1 (de_name (pv 1)) de_int))
  (db_cons (ds_set (i := 4) sc.nd rfl (.inl rfl) (de_lst (da_cons (de_name (pv 1)) da_nil)))
  (db_cons (ds_while po (dt_cmp (opd_ne hu64) (de_name (pv 4)) (de_lst da_nil) (nomark _))
  (db_cons (ds_set (i := 5) sc.nd rfl (.inl rfl) (de_mut PySem.F.slot_list_pop PySem.F.type_list_pop md_popAt (pv 4) (da_cons de_int da_nil)))
  (db_one (ds_for po rfl (di_seq (de_call (ok_next_nodes T) (hr.mono (by first | decide | omega)) tk (by rfl) T.m_next_nodes T.F_next_nodes.kp T.b_next_nodes (da_cons (de_ix hu1 (de_name (pv 0)) de_int) (da_cons (de_name (pv 5)) (da_cons (de_name (pv 2)) da_nil))))) (dg_one (pg_name (i := 6) sc.nd rfl (.inl rfl)))
  (db_one (ds_if (dt_cmp (opd_notIn hu65) (de_name (pv 6)) (de_name (pv 3)) (by rfl))
  (db_cons (ds_sub hu1 (pv 3) (de_name (pv 6)) (de_bin opd_add (de_ix hu1 (de_name (pv 3)) (de_name (pv 5))) de_int))
  (db_one (ds_expr (de_mut PySem.F.slot_list_append PySem.F.type_list_append md_append (pv 4) (da_cons (de_name (pv 6)) da_nil)))))
  db_nil))))))
  (db_one (ds_ret (de_name (pv 3)))))))
theorem ok_ways_from (T : Txt K mg) : FnOk P w K mg base (L2.CX P w) 2 T.a_ways_from T.fd_ways_from ["links", "start", "level"] (spD mg K [false, false, false] d_ways_from) :=
  fn_ok (k := 1) T.F_ways_from sc_ways_from rfl (by decide) (by decide) <| fun cdv A outer s H E hr => by
    have tk := takes_of (X := cxOf (L2.CX P w) P w K mg base N_ways_from "ways_from" (defScope s_ways_from) T.a_ways_from cdv A outer s H E) rfl rfl rfl rfl
    have po : PassesOwn (model P w) (A.deeper (envOfC "ways_from" (defScope s_ways_from) s.heap.objs.size T.a_ways_from cdv)) (envOfC "ways_from" (defScope s_ways_from) s.heap.objs.size T.a_ways_from cdv) (cxOf (L2.CX P w) P w K mg base N_ways_from "ways_from" (defScope s_ways_from) T.a_ways_from cdv A outer s H E).xe := passes_of rfl
    have hu0 := hr.units0
    have hu1 := hu_of hr
    have hu64 := hr.units
    have hu65 : (A.deeper (envOfC "ways_from" (defScope s_ways_from) s.heap.objs.size T.a_ways_from cdv)).units + 65 < cLine := by have := hr.un; omega
    have sc := sc_ways_from
    exact (db_cons (ds_set (i := 3) sc.nd rfl (.inl rfl) (de_disp1 (de_name (pv 1)) (de_name (pv 1))))
  (db_cons (ds_set (i := 4) sc.nd rfl (.inl rfl) (de_lst (da_cons (de_name (pv 1)) da_nil)))
  (db_cons (ds_while po (dt_cmp (opd_ne hu64) (de_name (pv 4)) (de_lst da_nil) (nomark _))
  (db_cons (ds_set (i := 5) sc.nd rfl (.inl rfl) (de_mut PySem.F.slot_list_pop PySem.F.type_list_pop md_popAt (pv 4) (da_cons de_int da_nil)))
  (db_one (ds_for po rfl (di_seq (de_call (ok_next_nodes T) (hr.mono (by first | decide | omega)) tk (by rfl) T.m_next_nodes T.F_next_nodes.kp T.b_next_nodes (da_cons (de_name (pv 0)) (da_cons (de_name (pv 5)) (da_cons (de_name (pv 2)) da_nil))))) (dg_one (pg_name (i := 6) sc.nd rfl (.inl rfl)))
  (db_one (ds_if (dt_cmp (opd_notIn hu65) (de_name (pv 6)) (de_name (pv 3)) (by rfl))
  (db_cons (ds_sub hu1 (pv 3) (de_name (pv 6)) (de_name (pv 5)))
  (db_one (ds_expr (de_mut PySem.F.slot_list_append PySem.F.type_list_append md_append (pv 4) (da_cons (de_name (pv 6)) da_nil)))))
  db_nil))))))
  (db_one (ds_ret (de_name (pv 3)))))))
theorem ok_single_points (T : Txt K mg) : FnOk P w K mg base (L2.CX P w) 3 T.a_single_points T.fd_single_points ["backhaul", "root"] (spD mg K [false, false] d_single_points) :=
  fn_ok (k := 2) T.F_single_points sc_single_points rfl (by decide) (by decide) <| fun cdv A outer s H E hr => by
    have tk := takes_of (X := cxOf (L2.CX P w) P w K mg base N_single_points "single_points" (defScope s_single_points) T.a_single_points cdv A outer s H E) rfl rfl rfl rfl
    have po : PassesOwn (model P w) (A.deeper (envOfC "single_points" (defScope s_single_points) s.heap.objs.size T.a_single_points cdv)) (envOfC "single_points" (defScope s_single_points) s.heap.objs.size T.a_single_points cdv) (cxOf (L2.CX P w) P w K mg base N_single_points "single_points" (defScope s_single_points) T.a_single_points cdv A outer s H E).xe := passes_of rfl
    have hu0 := hr.units0
    have hu1 := hu_of hr
    have hu64 := hr.units
    have hu65 : (A.deeper (envOfC "single_points" (defScope s_single_points) s.heap.objs.size T.a_single_points cdv)).units + 65 < cLine := by have := hr.un; omega
    have sc := sc_single_points
    exact (db_cons (ds_set (i := 2) sc.nd rfl (.inl rfl) (de_call (ok_ways_from T) (hr.mono (by first | decide | omega)) tk (by rfl) T.m_ways_from T.F_ways_from.kp T.b_ways_from (da_cons (de_ix hu1 (de_name (pv 0)) de_int) (da_cons (de_name (pv 1)) (da_cons de_non da_nil)))))
  (db_cons (ds_set (i := 3) sc.nd rfl (.inl rfl) (de_lst da_nil))
  (db_cons (ds_for po rfl (di_seq (de_callB (cd_sortedD rfl) (by rfl) T.n_sorted (by decide +kernel) (da_cons (de_name (pv 2)) da_nil))) (dg_one (pg_name (i := 4) sc.nd rfl (.inr rfl)))
  (db_one (ds_if (dt_cmp (opd_ne hu64) (de_name (pv 4)) (de_name (pv 1)) (nomark _))
  (db_cons (ds_setLc (i := 5) rfl sc.nd rfl rfl (sw_true rfl rfl rfl (by decide +kernel)) (di_seq (de_ix hu1 (de_name (pv 0)) de_int)) (blkOk_by (own := [("row", 6)]) (N := N_single_points) (sc := defScope s_single_points) (by decide +kernel)) (fun _ _ _ _ _ => (dg_one (pg_name (i := 6) sc.nd rfl (.inl rfl)))) (fun _ _ _ _ _ => (dif_one (dt_cmp (opd_notIn hu65) (de_name (pv 4)) (de_slice (de_name (pv 6)) dp_no (dp_some de_int)) (by rfl)))) (fun _ _ _ _ _ => (de_name (pv 6))) (by decide) (by rfl))
  (db_one (ds_if (dt_cmp (opd_lt hu0) (de_callB cd_len (by rfl) T.n_len (by decide +kernel) (da_cons (de_call (ok_ways_from T) (hr.mono (by first | decide | omega)) tk (by rfl) T.m_ways_from T.F_ways_from.kp T.b_ways_from (da_cons (de_name (pv 5)) (da_cons (de_name (pv 1)) (da_cons de_non da_nil)))) da_nil)) (de_bin opd_sub (de_callB cd_len (by rfl) T.n_len (by decide +kernel) (da_cons (de_name (pv 2)) da_nil)) de_int) (nomark _))
  (db_one (ds_expr (de_mut PySem.F.slot_list_append PySem.F.type_list_append md_append (pv 3) (da_cons (de_name (pv 4)) da_nil))))
  db_nil)))
  db_nil)))
  (db_one (ds_ret (de_name (pv 3)))))))
theorem ok__law_equal (T : Txt K mg) : ∀ n : Nat, FnOk P w K mg base (L2.CX P w) (1 + n) T.a__law_equal T.fd__law_equal ["x", "y"] (spD mg K [false, false] (d__law_equal n))
  | 0 => fn_bad rfl
  | n + 1 => by
    have ih : FnOk P w K mg base (L2.CX P w) (1 + n) T.a__law_equal T.fd__law_equal ["x", "y"] (spD mg K [false, false] (d__law_equal n)) := ok__law_equal T n
    refine fn_ok (k := 1 + n) T.F__law_equal sc__law_equal rfl (by decide) (by decide) ?_
    exact fun cdv A outer s H E hr => by
      have tk := takes_of (X := cxOf (L2.CX P w) P w K mg base N__law_equal "_law_equal" (defScope s__law_equal) T.a__law_equal cdv A outer s H E) rfl rfl rfl rfl
      have po : PassesOwn (model P w) (A.deeper (envOfC "_law_equal" (defScope s__law_equal) s.heap.objs.size T.a__law_equal cdv)) (envOfC "_law_equal" (defScope s__law_equal) s.heap.objs.size T.a__law_equal cdv) (cxOf (L2.CX P w) P w K mg base N__law_equal "_law_equal" (defScope s__law_equal) T.a__law_equal cdv A outer s H E).xe := passes_of rfl
      have hu0 := hr.units0
      have hu1 := hu_of hr
      have hu64 := hr.units
      have hu65 : (A.deeper (envOfC "_law_equal" (defScope s__law_equal) s.heap.objs.size T.a__law_equal cdv)).units + 65 < cLine := by have := hr.un; omega
      have sc := sc__law_equal
      exact (db_cons (ds_if (DW.dt (dw_or (dt_cmp (opd_ne hu64) (de_isi (t := .bool) rfl T.n_isinstance (by decide +kernel) rfl T.n_bool (by decide +kernel) (de_name (pv 0))) (de_isi (t := .bool) rfl T.n_isinstance (by decide +kernel) rfl T.n_bool (by decide +kernel) (de_name (pv 1))) (nomark _)) (dw_or (dt_cmp (opd_ne hu64) (de_isi (t := .int) rfl T.n_isinstance (by decide +kernel) rfl T.n_int (by decide +kernel) (de_name (pv 0))) (de_isi (t := .int) rfl T.n_isinstance (by decide +kernel) rfl T.n_int (by decide +kernel) (de_name (pv 1))) (nomark _)) (dw_or1 (dt_cmp (opd_ne hu64) (de_isi (t := .str) rfl T.n_isinstance (by decide +kernel) rfl T.n_str (by decide +kernel) (de_name (pv 0))) (de_isi (t := .str) rfl T.n_isinstance (by decide +kernel) rfl T.n_str (by decide +kernel) (de_name (pv 1))) (nomark _))))))
  (db_one (ds_ret de_bl))
  db_nil)
  (db_cons (ds_if (DW.dt (dw_or (dt_cmp (opd_ne hu64) (de_isi (t := .list) rfl T.n_isinstance (by decide +kernel) rfl T.n_list (by decide +kernel) (de_name (pv 0))) (de_isi (t := .list) rfl T.n_isinstance (by decide +kernel) rfl T.n_list (by decide +kernel) (de_name (pv 1))) (nomark _)) (dw_or (dt_cmp (opd_ne hu64) (de_isi (t := .tuple) rfl T.n_isinstance (by decide +kernel) rfl T.n_tuple (by decide +kernel) (de_name (pv 0))) (de_isi (t := .tuple) rfl T.n_isinstance (by decide +kernel) rfl T.n_tuple (by decide +kernel) (de_name (pv 1))) (nomark _)) (dw_or1 (dt_cmp (opd_ne hu64) (de_isi (t := .dict) rfl T.n_isinstance (by decide +kernel) rfl T.n_dict (by decide +kernel) (de_name (pv 0))) (de_isi (t := .dict) rfl T.n_isinstance (by decide +kernel) rfl T.n_dict (by decide +kernel) (de_name (pv 1))) (nomark _))))))
  (db_one (ds_ret de_bl))
  db_nil)
  (db_cons (ds_if (DW.dt (dw_or (dt_tru (de_isi (t := .list) rfl T.n_isinstance (by decide +kernel) rfl T.n_list (by decide +kernel) (de_name (pv 1)))) (dw_or1 (dt_tru (de_isi (t := .tuple) rfl T.n_isinstance (by decide +kernel) rfl T.n_tuple (by decide +kernel) (de_name (pv 1)))))))
  (db_one (ds_ret (de_and (de_cmp (opd_eq hu64) (de_callB cd_len (by rfl) T.n_len (by decide +kernel) (da_cons (de_name (pv 0)) da_nil)) (de_callB cd_len (by rfl) T.n_len (by decide +kernel) (da_cons (de_name (pv 1)) da_nil)) (nomark _)) (de_one (de_callB (cd_all rfl) (by rfl) T.n_all (by decide +kernel) (da_cons (de_lc rfl sc.nd (di_rng1 (by rfl) T.n_range (de_callB cd_len (by rfl) T.n_len (by decide +kernel) (da_cons (de_name (pv 1)) da_nil))) (blkOk_by (own := [("k", 2)]) (N := N__law_equal) (sc := defScope s__law_equal) (by decide +kernel)) (fun _ _ _ _ _ => (dg_one (pg_name (i := 2) sc.nd rfl (.inl rfl)))) (fun _ _ _ _ _ => dif_nil) (fun _ _ _ _ _ => (de_call (ih) (hr.mono (by omega)) takes0 (by rfl) T.m__law_equal T.F__law_equal.kp T.b__law_equal (da_cons (de_ix hu1 (de_name (pv 0)) (de_name (pv 2))) (da_cons (de_ix hu1 (de_name (pv 1)) (de_name (pv 2))) da_nil)))) (by decide) (by rfl)) da_nil))))))
  db_nil)
  (db_cons (ds_if (dt_tru (de_isi (t := .dict) rfl T.n_isinstance (by decide +kernel) rfl T.n_dict (by decide +kernel) (de_name (pv 1))))
  (db_one (ds_ret (de_and (de_cmp (opd_eq hu64) (de_callB cd_len (by rfl) T.n_len (by decide +kernel) (da_cons (de_name (pv 0)) da_nil)) (de_callB cd_len (by rfl) T.n_len (by decide +kernel) (da_cons (de_name (pv 1)) da_nil)) (nomark _)) (de_one (de_callB (cd_all rfl) (by rfl) T.n_all (by decide +kernel) (da_cons (de_quiet (de_lcN rfl sc.nd (pv 1) (blkOk_by (own := [("key", 3)]) (N := N__law_equal) (sc := defScope s__law_equal) (by decide +kernel)) (fun _ _ _ _ _ => (dg_one (pg_name (i := 3) sc.nd rfl (.inl rfl)))) (fun _ _ _ _ _ => dif_nil) (fun _ _ _ _ _ => (de_and (de_cmp (opd_in hu65) (de_name (pv 3)) (de_name (pv 0)) (by rfl)) (de_one (de_call (ih) (hr.mono (by omega)) takes0 (by rfl) T.m__law_equal T.F__law_equal.kp T.b__law_equal (da_cons (de_ix hu1 (de_name (pv 0)) (de_name (pv 3))) (da_cons (de_ix hu1 (de_name (pv 1)) (de_name (pv 3))) da_nil)))))) (by decide) (by rfl))) da_nil))))))
  db_nil)
  (db_one (ds_ret (de_cmp opd_is (de_cmp (opd_eq hu64) (de_name (pv 0)) (de_name (pv 1)) (nomark _)) de_bl (nomark _))))))))
theorem ok_law (T : Txt K mg) : FnOk P w K mg base (L2.CX P w) 42 T.a_law T.fd_law ["script"] (spD mg K [false] d_law) :=
  fn_ok (k := 41) T.F_law sc_law rfl (by decide) (by decide) <| fun cdv A outer s H E hr => by
    have tk := takes_of (X := cxOf (L2.CX P w) P w K mg base N_law "law" (defScope s_law) T.a_law cdv A outer s H E) rfl rfl rfl rfl
    have po : PassesOwn (model P w) (A.deeper (envOfC "law" (defScope s_law) s.heap.objs.size T.a_law cdv)) (envOfC "law" (defScope s_law) s.heap.objs.size T.a_law cdv) (cxOf (L2.CX P w) P w K mg base N_law "law" (defScope s_law) T.a_law cdv A outer s H E).xe := passes_of rfl
    have hu0 := hr.units0
    have hu1 := hu_of hr
    have hu64 := hr.units
    have hu65 : (A.deeper (envOfC "law" (defScope s_law) s.heap.objs.size T.a_law cdv)).units + 65 < cLine := by have := hr.un; omega
    have sc := sc_law
    exact (db_cons (ds_set (i := 1) sc.nd rfl (.inl rfl) (de_call (ok__law_pool T) (hr.mono (by first | decide | omega)) tk (by rfl) T.m__law_pool T.F__law_pool.kp T.b__law_pool (da_cons (de_name (pv 0)) da_nil)))
  (db_cons (ds_set (i := 2) sc.nd rfl (.inl rfl) (de_call (ok__law_backhaul T) (hr.mono (by first | decide | omega)) tk (by rfl) T.m__law_backhaul T.F__law_backhaul.kp T.b__law_backhaul (da_cons (de_name (pv 1)) (da_cons de_int da_nil))))
  (db_cons (ds_set (i := 3) sc.nd rfl (.inl rfl) (de_call (ok__law_draw T) (hr.mono (by first | decide | omega)) tk (by rfl) T.m__law_draw T.F__law_draw.kp T.b__law_draw (da_cons (de_name (pv 1)) (da_cons (de_ix hu1 (de_name (pv 2)) de_int) da_nil))))
  (db_cons (ds_for po rfl (di_rng1 (by rfl) T.n_range de_int) (dg_one (pg_name (i := 4) sc.nd rfl (.inl rfl)))
  (db_cons (ds_set (i := 5) sc.nd rfl (.inr rfl) (de_bin opd_sub (de_bin opd_mul de_int (de_call (ok__law_draw T) (hr.mono (by first | decide | omega)) tk (by rfl) T.m__law_draw T.F__law_draw.kp T.b__law_draw (da_cons (de_name (pv 1)) (da_cons de_int da_nil)))) (de_bin opd_mul de_int (de_call (ok__law_draw T) (hr.mono (by first | decide | omega)) tk (by rfl) T.m__law_draw T.F__law_draw.kp T.b__law_draw (da_cons (de_name (pv 1)) (da_cons de_int da_nil))))))
  (db_cons (ds_setLc (i := 6) rfl sc.nd rfl rfl (sw_true rfl rfl rfl (by decide +kernel)) (di_seq (de_ix hu1 (de_name (pv 2)) de_int)) (blkOk_by (own := [("row", 17)]) (N := N_law) (sc := defScope s_law) (by decide +kernel)) (fun _ _ _ _ _ => (dg_one (pg_name (i := 17) sc.nd rfl (.inl rfl)))) (fun _ _ _ _ _ => (dif_one (dt_cmp opd_ge (de_ix hu1 (de_name (pv 17)) de_int) (de_name (pv 5)) (nomark _)))) (fun _ _ _ _ _ => (de_slice (de_name (pv 17)) dp_no (dp_some de_int))) (by decide) (by rfl))
  (db_cons (ds_set (i := 7) sc.nd rfl (.inr rfl) (de_disp1 (de_name (pv 3)) de_int))
  (db_cons (ds_for po rfl (di_rng1 (by rfl) T.n_range (de_ix hu1 (de_name (pv 2)) de_int)) (dg_one (pg_name (i := 8) sc.nd rfl (.inr rfl)))
  (db_cons (ds_setLcNQ (j := 9) rfl sc.nd rfl rfl (sw_true rfl rfl rfl (by decide +kernel)) (pv 7) (blkOk_by (own := [("node", 10)]) (N := N_law) (sc := defScope s_law) (by decide +kernel)) (fun _ _ _ _ _ => (dg_one (pg_name (i := 10) sc.nd rfl (.inl rfl)))) (fun _ _ _ _ _ => (dif_one (dt_cmp (opd_eq hu64) (de_ix hu1 (de_name (pv 7)) (de_name (pv 10))) (de_name (pv 8)) (nomark _)))) (fun _ _ _ _ _ => (de_name (pv 10))) (by decide) (by rfl))
  (db_one (ds_for po rfl (di_seq (de_name (pv 9))) (dg_one (pg_name (i := 10) sc.nd rfl (.inr rfl)))
  (db_one (ds_for po rfl (di_seq (de_name (pv 6))) (dg_one (pg_name (i := 11) sc.nd rfl (.inl rfl)))
  (db_one (ds_if (dt_cmp (opd_in hu65) (de_name (pv 10)) (de_name (pv 11)) (by rfl))
  (db_cons (ds_set (i := 12) sc.nd rfl (.inl rfl) (de_bin opd_sub (de_bin opd_add (de_ix hu1 (de_name (pv 11)) de_int) (de_ix hu1 (de_name (pv 11)) de_int)) (de_name (pv 10))))
  (db_one (ds_if (dt_cmp (opd_notIn hu65) (de_name (pv 12)) (de_name (pv 7)) (by rfl))
  (db_one (ds_sub hu1 (pv 7) (de_name (pv 12)) (de_bin opd_add (de_name (pv 8)) de_int)))
  db_nil)))
  db_nil))))))))
  (db_cons (ds_set (i := 13) sc.nd rfl (.inr rfl) (de_call (ok_hops T) (hr.mono (by first | decide | omega)) tk (by rfl) T.m_hops T.F_hops.kp T.b_hops (da_cons (de_name (pv 2)) (da_cons (de_name (pv 3)) (da_cons (de_name (pv 5)) da_nil)))))
  (db_cons (ds_if (DW.dt (dw_or (dt_not (dt_tru (de_isi (t := .dict) rfl T.n_isinstance (by decide +kernel) rfl T.n_dict (by decide +kernel) (de_name (pv 13))))) (dw_or1 (dt_not (dt_tru (de_call (ok__law_equal T 40) (hr.mono (by first | decide | omega)) tk (by rfl) T.m__law_equal T.F__law_equal.kp T.b__law_equal (da_cons (de_callB (cd_sortedD rfl) (by rfl) T.n_sorted (by decide +kernel) (da_cons (de_name (pv 13)) da_nil)) (da_cons (de_callB (cd_sortedD rfl) (by rfl) T.n_sorted (by decide +kernel) (da_cons (de_name (pv 7)) da_nil)) da_nil))))))))
  (db_one (ds_ret de_bl))
  db_nil)
  (db_one (ds_if (dt_cmp opd_gt (de_callB cd_len (by rfl) T.n_len (by decide +kernel) (da_cons (de_quiet (de_lcN rfl sc.nd (pv 7) (blkOk_by (own := [("node", 10)]) (N := N_law) (sc := defScope s_law) (by decide +kernel)) (fun _ _ _ _ _ => (dg_one (pg_name (i := 10) sc.nd rfl (.inl rfl)))) (fun _ _ _ _ _ => (dif_one (dt_not (dt_tru (de_call (ok__law_same T 40) (hr.mono (by first | decide | omega)) takes0 (by rfl) T.m__law_same T.F__law_same.kp T.b__law_same (da_cons (de_ix hu1 (de_name (pv 13)) (de_name (pv 10))) (da_cons (de_ix hu1 (de_name (pv 7)) (de_name (pv 10))) da_nil))))))) (fun _ _ _ _ _ => (de_name (pv 10))) (by decide) (by rfl))) da_nil)) de_int (nomark _))
  (db_one (ds_ret de_bl))
  db_nil)))))))))
  (db_cons (ds_set (i := 14) sc.nd rfl (.inl rfl) (de_call (ok__law_part T) (hr.mono (by first | decide | omega)) tk (by rfl) T.m__law_part T.F__law_part.kp T.b__law_part (da_cons (de_lc rfl sc.nd (di_seq (de_ix hu1 (de_name (pv 2)) de_int)) (blkOk_by (own := [("row", 17)]) (N := N_law) (sc := defScope s_law) (by decide +kernel)) (fun _ _ _ _ _ => (dg_one (pg_name (i := 17) sc.nd rfl (.inl rfl)))) (fun _ _ _ _ _ => dif_nil) (fun _ _ _ _ _ => (de_slice (de_name (pv 17)) dp_no (dp_some de_int))) (by decide) (by rfl)) (da_cons (de_name (pv 3)) da_nil))))
  (db_cons (ds_set (i := 15) sc.nd rfl (.inl rfl) (de_lst da_nil))
  (db_cons (ds_for po rfl (di_seq (de_name (pv 14))) (dg_one (pg_name (i := 10) sc.nd rfl (.inr rfl)))
  (db_one (ds_if (dt_cmp (opd_ne hu64) (de_name (pv 10)) (de_name (pv 3)) (nomark _))
  (db_cons (ds_set (i := 16) sc.nd rfl (.inl rfl) (de_call (ok__law_part T) (hr.mono (by first | decide | omega)) tk (by rfl) T.m__law_part T.F__law_part.kp T.b__law_part (da_cons (de_lc rfl sc.nd (di_seq (de_ix hu1 (de_name (pv 2)) de_int)) (blkOk_by (own := [("row", 17)]) (N := N_law) (sc := defScope s_law) (by decide +kernel)) (fun _ _ _ _ _ => (dg_one (pg_name (i := 17) sc.nd rfl (.inl rfl)))) (fun _ _ _ _ _ => (dif_one (dt_cmp (opd_notIn hu65) (de_name (pv 10)) (de_slice (de_name (pv 17)) dp_no (dp_some de_int)) (by rfl)))) (fun _ _ _ _ _ => (de_slice (de_name (pv 17)) dp_no (dp_some de_int))) (by decide) (by rfl)) (da_cons (de_name (pv 3)) da_nil))))
  (db_one (ds_if (dt_cmp (opd_lt hu0) (de_callB cd_len (by rfl) T.n_len (by decide +kernel) (da_cons (de_name (pv 16)) da_nil)) (de_bin opd_sub (de_callB cd_len (by rfl) T.n_len (by decide +kernel) (da_cons (de_name (pv 14)) da_nil)) de_int) (nomark _))
  (db_one (ds_expr (de_mut PySem.F.slot_list_append PySem.F.type_list_append md_append (pv 15) (da_cons (de_name (pv 10)) da_nil))))
  db_nil)))
  db_nil)))
  (db_one (ds_ret (de_call (ok__law_same T 40) (hr.mono (by first | decide | omega)) tk (by rfl) T.m__law_same T.F__law_same.kp T.b__law_same (da_cons (de_call (ok_single_points T) (hr.mono (by first | decide | omega)) tk (by rfl) T.m_single_points T.F_single_points.kp T.b_single_points (da_cons (de_name (pv 2)) (da_cons (de_name (pv 3)) da_nil))) (da_cons (de_name (pv 15)) da_nil))))))))))))
end
/-- the record of what the top has left -/
def txt_mk {K : PySem.W.Frag} {h : Heap} {mg : Str → Option Value} (X : K.In h) (G : h.Ns mainGlobals mg)
  {f__law_pool : Addr} {od__law_pool an__law_pool : Option Addr} {sl__law_pool : Array (Option Value)} {oc__law_pool kv__law_pool dc__law_pool pm__law_pool cd__law_pool ct__law_pool : Value}
  {f__law_spread : Addr} {od__law_spread an__law_spread : Option Addr} {sl__law_spread : Array (Option Value)} {oc__law_spread kv__law_spread dc__law_spread pm__law_spread cd__law_spread ct__law_spread : Value}
  {f__law_draw : Addr} {od__law_draw an__law_draw : Option Addr} {sl__law_draw : Array (Option Value)} {oc__law_draw kv__law_draw dc__law_draw pm__law_draw cd__law_draw ct__law_draw : Value}
  {f__law_backhaul : Addr} {od__law_backhaul an__law_backhaul : Option Addr} {sl__law_backhaul : Array (Option Value)} {oc__law_backhaul kv__law_backhaul dc__law_backhaul pm__law_backhaul cd__law_backhaul ct__law_backhaul : Value}
  {f__law_part : Addr} {od__law_part an__law_part : Option Addr} {sl__law_part : Array (Option Value)} {oc__law_part kv__law_part dc__law_part pm__law_part cd__law_part ct__law_part : Value}
  {f__law_same : Addr} {od__law_same an__law_same : Option Addr} {sl__law_same : Array (Option Value)} {oc__law_same kv__law_same dc__law_same pm__law_same cd__law_same ct__law_same : Value}
  {f_next_nodes : Addr} {od_next_nodes an_next_nodes : Option Addr} {sl_next_nodes : Array (Option Value)} {oc_next_nodes kv_next_nodes dc_next_nodes pm_next_nodes cd_next_nodes ct_next_nodes : Value}
  {f_hops : Addr} {od_hops an_hops : Option Addr} {sl_hops : Array (Option Value)} {oc_hops kv_hops dc_hops pm_hops cd_hops ct_hops : Value}
  {f_ways_from : Addr} {od_ways_from an_ways_from : Option Addr} {sl_ways_from : Array (Option Value)} {oc_ways_from kv_ways_from dc_ways_from pm_ways_from cd_ways_from ct_ways_from : Value}
  {f_single_points : Addr} {od_single_points an_single_points : Option Addr} {sl_single_points : Array (Option Value)} {oc_single_points kv_single_points dc_single_points pm_single_points cd_single_points ct_single_points : Value}
  {f__law_equal : Addr} {od__law_equal an__law_equal : Option Addr} {sl__law_equal : Array (Option Value)} {oc__law_equal kv__law_equal dc__law_equal pm__law_equal cd__law_equal ct__law_equal : Value}
  {f_law : Addr} {od_law an_law : Option Addr} {sl_law : Array (Option Value)} {oc_law kv_law dc_law pm_law cd_law ct_law : Value}
  (a__law_backhaul : PySem.W.nsIn K mainGlobals "_law_backhaul" = some (some (.ref f__law_backhaul)))
  (a__law_draw : PySem.W.nsIn K mainGlobals "_law_draw" = some (some (.ref f__law_draw)))
  (a__law_equal : PySem.W.nsIn K mainGlobals "_law_equal" = some (some (.ref f__law_equal)))
  (a__law_part : PySem.W.nsIn K mainGlobals "_law_part" = some (some (.ref f__law_part)))
  (a__law_pool : PySem.W.nsIn K mainGlobals "_law_pool" = some (some (.ref f__law_pool)))
  (a__law_same : PySem.W.nsIn K mainGlobals "_law_same" = some (some (.ref f__law_same)))
  (a__law_spread : PySem.W.nsIn K mainGlobals "_law_spread" = some (some (.ref f__law_spread)))
  (a_hops : PySem.W.nsIn K mainGlobals "hops" = some (some (.ref f_hops)))
  (a_next_nodes : PySem.W.nsIn K mainGlobals "next_nodes" = some (some (.ref f_next_nodes)))
  (a_single_points : PySem.W.nsIn K mainGlobals "single_points" = some (some (.ref f_single_points)))
  (a_ways_from : PySem.W.nsIn K mainGlobals "ways_from" = some (some (.ref f_ways_from)))
  (a_law : PySem.W.nsIn K mainGlobals "law" = some (some (.ref f_law)))
  (l__law_pool : K.lookup f__law_pool = some ⟨oc__law_pool, od__law_pool, .func (PySem.W.fnOf "_law_pool" "_law_pool" (defArgs s__law_pool) (defBody s__law_pool) (defScope s__law_pool) .none kv__law_pool dc__law_pool pm__law_pool an__law_pool cd__law_pool ct__law_pool), sl__law_pool⟩)
  (c__law_pool : PySem.W.codeIn K cd__law_pool "_law_pool" = true)
  (k__law_pool : PySem.W.keepIn K (.ref f__law_pool) = true)
  (l__law_spread : K.lookup f__law_spread = some ⟨oc__law_spread, od__law_spread, .func (PySem.W.fnOf "_law_spread" "_law_spread" (defArgs s__law_spread) (defBody s__law_spread) (defScope s__law_spread) .none kv__law_spread dc__law_spread pm__law_spread an__law_spread cd__law_spread ct__law_spread), sl__law_spread⟩)
  (c__law_spread : PySem.W.codeIn K cd__law_spread "_law_spread" = true)
  (k__law_spread : PySem.W.keepIn K (.ref f__law_spread) = true)
  (l__law_draw : K.lookup f__law_draw = some ⟨oc__law_draw, od__law_draw, .func (PySem.W.fnOf "_law_draw" "_law_draw" (defArgs s__law_draw) (defBody s__law_draw) (defScope s__law_draw) .none kv__law_draw dc__law_draw pm__law_draw an__law_draw cd__law_draw ct__law_draw), sl__law_draw⟩)
  (c__law_draw : PySem.W.codeIn K cd__law_draw "_law_draw" = true)
  (k__law_draw : PySem.W.keepIn K (.ref f__law_draw) = true)
  (l__law_backhaul : K.lookup f__law_backhaul = some ⟨oc__law_backhaul, od__law_backhaul, .func (PySem.W.fnOf "_law_backhaul" "_law_backhaul" (defArgs s__law_backhaul) (defBody s__law_backhaul) (defScope s__law_backhaul) .none kv__law_backhaul dc__law_backhaul pm__law_backhaul an__law_backhaul cd__law_backhaul ct__law_backhaul), sl__law_backhaul⟩)
  (c__law_backhaul : PySem.W.codeIn K cd__law_backhaul "_law_backhaul" = true)
  (k__law_backhaul : PySem.W.keepIn K (.ref f__law_backhaul) = true)
  (l__law_part : K.lookup f__law_part = some ⟨oc__law_part, od__law_part, .func (PySem.W.fnOf "_law_part" "_law_part" (defArgs s__law_part) (defBody s__law_part) (defScope s__law_part) .none kv__law_part dc__law_part pm__law_part an__law_part cd__law_part ct__law_part), sl__law_part⟩)
  (c__law_part : PySem.W.codeIn K cd__law_part "_law_part" = true)
  (k__law_part : PySem.W.keepIn K (.ref f__law_part) = true)
  (l__law_same : K.lookup f__law_same = some ⟨oc__law_same, od__law_same, .func (PySem.W.fnOf "_law_same" "_law_same" (defArgs s__law_same) (defBody s__law_same) (defScope s__law_same) .none kv__law_same dc__law_same pm__law_same an__law_same cd__law_same ct__law_same), sl__law_same⟩)
  (c__law_same : PySem.W.codeIn K cd__law_same "_law_same" = true)
  (k__law_same : PySem.W.keepIn K (.ref f__law_same) = true)
  (l_next_nodes : K.lookup f_next_nodes = some ⟨oc_next_nodes, od_next_nodes, .func (PySem.W.fnOf "next_nodes" "next_nodes" (defArgs s_next_nodes) (defBody s_next_nodes) (defScope s_next_nodes) .none kv_next_nodes dc_next_nodes pm_next_nodes an_next_nodes cd_next_nodes ct_next_nodes), sl_next_nodes⟩)
  (c_next_nodes : PySem.W.codeIn K cd_next_nodes "next_nodes" = true)
  (k_next_nodes : PySem.W.keepIn K (.ref f_next_nodes) = true)
  (l_hops : K.lookup f_hops = some ⟨oc_hops, od_hops, .func (PySem.W.fnOf "hops" "hops" (defArgs s_hops) (defBody s_hops) (defScope s_hops) .none kv_hops dc_hops pm_hops an_hops cd_hops ct_hops), sl_hops⟩)
  (c_hops : PySem.W.codeIn K cd_hops "hops" = true)
  (k_hops : PySem.W.keepIn K (.ref f_hops) = true)
  (l_ways_from : K.lookup f_ways_from = some ⟨oc_ways_from, od_ways_from, .func (PySem.W.fnOf "ways_from" "ways_from" (defArgs s_ways_from) (defBody s_ways_from) (defScope s_ways_from) .none kv_ways_from dc_ways_from pm_ways_from an_ways_from cd_ways_from ct_ways_from), sl_ways_from⟩)
  (c_ways_from : PySem.W.codeIn K cd_ways_from "ways_from" = true)
  (k_ways_from : PySem.W.keepIn K (.ref f_ways_from) = true)
  (l_single_points : K.lookup f_single_points = some ⟨oc_single_points, od_single_points, .func (PySem.W.fnOf "single_points" "single_points" (defArgs s_single_points) (defBody s_single_points) (defScope s_single_points) .none kv_single_points dc_single_points pm_single_points an_single_points cd_single_points ct_single_points), sl_single_points⟩)
  (c_single_points : PySem.W.codeIn K cd_single_points "single_points" = true)
  (k_single_points : PySem.W.keepIn K (.ref f_single_points) = true)
  (l__law_equal : K.lookup f__law_equal = some ⟨oc__law_equal, od__law_equal, .func (PySem.W.fnOf "_law_equal" "_law_equal" (defArgs s__law_equal) (defBody s__law_equal) (defScope s__law_equal) .none kv__law_equal dc__law_equal pm__law_equal an__law_equal cd__law_equal ct__law_equal), sl__law_equal⟩)
  (c__law_equal : PySem.W.codeIn K cd__law_equal "_law_equal" = true)
  (k__law_equal : PySem.W.keepIn K (.ref f__law_equal) = true)
  (l_law : K.lookup f_law = some ⟨oc_law, od_law, .func (PySem.W.fnOf "law" "law" (defArgs s_law) (defBody s_law) (defScope s_law) .none kv_law dc_law pm_law an_law cd_law ct_law), sl_law⟩)
  (c_law : PySem.W.codeIn K cd_law "law" = true)
  (k_law : PySem.W.keepIn K (.ref f_law) = true)
  (z_all : PySem.W.nsIn K mainGlobals "all" = some none)
  (z_bool : PySem.W.nsIn K mainGlobals "bool" = some none)
  (z_dict : PySem.W.nsIn K mainGlobals "dict" = some none)
  (z_int : PySem.W.nsIn K mainGlobals "int" = some none)
  (z_isinstance : PySem.W.nsIn K mainGlobals "isinstance" = some none)
  (z_len : PySem.W.nsIn K mainGlobals "len" = some none)
  (z_list : PySem.W.nsIn K mainGlobals "list" = some none)
  (z_range : PySem.W.nsIn K mainGlobals "range" = some none)
  (z_sorted : PySem.W.nsIn K mainGlobals "sorted" = some none)
  (z_str : PySem.W.nsIn K mainGlobals "str" = some none)
  (z_tuple : PySem.W.nsIn K mainGlobals "tuple" = some none) : Txt K mg where
  a__law_pool := f__law_pool
  fd__law_pool := _
  F__law_pool := fun_mk l__law_pool c__law_pool k__law_pool
  b__law_pool := (fun_mk (st := s__law_pool) l__law_pool c__law_pool k__law_pool).binds (ps := ["script"]) fun _ _ _ _ _ _ us hl => match us, hl with | [_], _ => rfl
  a__law_spread := f__law_spread
  fd__law_spread := _
  F__law_spread := fun_mk l__law_spread c__law_spread k__law_spread
  b__law_spread := (fun_mk (st := s__law_spread) l__law_spread c__law_spread k__law_spread).binds (ps := ["cell"]) fun _ _ _ _ _ _ us hl => match us, hl with | [_], _ => rfl
  a__law_draw := f__law_draw
  fd__law_draw := _
  F__law_draw := fun_mk l__law_draw c__law_draw k__law_draw
  b__law_draw := (fun_mk (st := s__law_draw) l__law_draw c__law_draw k__law_draw).binds (ps := ["pool", "many"]) fun _ _ _ _ _ _ us hl => match us, hl with | [_, _], _ => rfl
  a__law_backhaul := f__law_backhaul
  fd__law_backhaul := _
  F__law_backhaul := fun_mk l__law_backhaul c__law_backhaul k__law_backhaul
  b__law_backhaul := (fun_mk (st := s__law_backhaul) l__law_backhaul c__law_backhaul k__law_backhaul).binds (ps := ["pool", "most"]) fun _ _ _ _ _ _ us hl => match us, hl with | [_, _], _ => rfl
  a__law_part := f__law_part
  fd__law_part := _
  F__law_part := fun_mk l__law_part c__law_part k__law_part
  b__law_part := (fun_mk (st := s__law_part) l__law_part c__law_part k__law_part).binds (ps := ["pairs", "start"]) fun _ _ _ _ _ _ us hl => match us, hl with | [_, _], _ => rfl
  a__law_same := f__law_same
  fd__law_same := _
  F__law_same := fun_mk l__law_same c__law_same k__law_same
  b__law_same := (fun_mk (st := s__law_same) l__law_same c__law_same k__law_same).binds (ps := ["actual", "due"]) fun _ _ _ _ _ _ us hl => match us, hl with | [_, _], _ => rfl
  a_next_nodes := f_next_nodes
  fd_next_nodes := _
  F_next_nodes := fun_mk l_next_nodes c_next_nodes k_next_nodes
  b_next_nodes := (fun_mk (st := s_next_nodes) l_next_nodes c_next_nodes k_next_nodes).binds (ps := ["links", "node", "level"]) fun _ _ _ _ _ _ us hl => match us, hl with | [_, _, _], _ => rfl
  a_hops := f_hops
  fd_hops := _
  F_hops := fun_mk l_hops c_hops k_hops
  b_hops := (fun_mk (st := s_hops) l_hops c_hops k_hops).binds (ps := ["backhaul", "root", "level"]) fun _ _ _ _ _ _ us hl => match us, hl with | [_, _, _], _ => rfl
  a_ways_from := f_ways_from
  fd_ways_from := _
  F_ways_from := fun_mk l_ways_from c_ways_from k_ways_from
  b_ways_from := (fun_mk (st := s_ways_from) l_ways_from c_ways_from k_ways_from).binds (ps := ["links", "start", "level"]) fun _ _ _ _ _ _ us hl => match us, hl with | [_, _, _], _ => rfl
  a_single_points := f_single_points
  fd_single_points := _
  F_single_points := fun_mk l_single_points c_single_points k_single_points
  b_single_points := (fun_mk (st := s_single_points) l_single_points c_single_points k_single_points).binds (ps := ["backhaul", "root"]) fun _ _ _ _ _ _ us hl => match us, hl with | [_, _], _ => rfl
  a__law_equal := f__law_equal
  fd__law_equal := _
  F__law_equal := fun_mk l__law_equal c__law_equal k__law_equal
  b__law_equal := (fun_mk (st := s__law_equal) l__law_equal c__law_equal k__law_equal).binds (ps := ["x", "y"]) fun _ _ _ _ _ _ us hl => match us, hl with | [_, _], _ => rfl
  a_law := f_law
  fd_law := _
  F_law := fun_mk l_law c_law k_law
  b_law := (fun_mk (st := s_law) l_law c_law k_law).binds (ps := ["script"]) fun _ _ _ _ _ _ us hl => match us, hl with | [_], _ => rfl
  m__law_backhaul := PySem.W.mg_of X G a__law_backhaul
  m__law_draw := PySem.W.mg_of X G a__law_draw
  m__law_equal := PySem.W.mg_of X G a__law_equal
  m__law_part := PySem.W.mg_of X G a__law_part
  m__law_pool := PySem.W.mg_of X G a__law_pool
  m__law_same := PySem.W.mg_of X G a__law_same
  m__law_spread := PySem.W.mg_of X G a__law_spread
  m_hops := PySem.W.mg_of X G a_hops
  m_next_nodes := PySem.W.mg_of X G a_next_nodes
  m_single_points := PySem.W.mg_of X G a_single_points
  m_ways_from := PySem.W.mg_of X G a_ways_from
  m_law := PySem.W.mg_of X G a_law
  n_all := PySem.W.mg_none_of X G z_all
  n_bool := PySem.W.mg_none_of X G z_bool
  n_dict := PySem.W.mg_none_of X G z_dict
  n_int := PySem.W.mg_none_of X G z_int
  n_isinstance := PySem.W.mg_none_of X G z_isinstance
  n_len := PySem.W.mg_none_of X G z_len
  n_list := PySem.W.mg_none_of X G z_list
  n_range := PySem.W.mg_none_of X G z_range
  n_sorted := PySem.W.mg_none_of X G z_sorted
  n_str := PySem.W.mg_none_of X G z_str
  n_tuple := PySem.W.mg_none_of X G z_tuple
theorem all_mk {l : PySem.W.OpenLaw} {w : World} {K : PySem.W.Frag} {h : Heap} {mg : Str → Option Value} {fa : Addr} (hF : ∀ ns : List Int, ns.length ≤ 63 → d_law [.kls (ns.map .int)] = .ok (.fz (.bl true)) []) (X : K.In h) (G : h.Ns mainGlobals mg) (hfa : mg "law" = some (.ref fa))
  {f__law_pool : Addr} {od__law_pool an__law_pool : Option Addr} {sl__law_pool : Array (Option Value)} {oc__law_pool kv__law_pool dc__law_pool pm__law_pool cd__law_pool ct__law_pool : Value}
  {f__law_spread : Addr} {od__law_spread an__law_spread : Option Addr} {sl__law_spread : Array (Option Value)} {oc__law_spread kv__law_spread dc__law_spread pm__law_spread cd__law_spread ct__law_spread : Value}
  {f__law_draw : Addr} {od__law_draw an__law_draw : Option Addr} {sl__law_draw : Array (Option Value)} {oc__law_draw kv__law_draw dc__law_draw pm__law_draw cd__law_draw ct__law_draw : Value}
  {f__law_backhaul : Addr} {od__law_backhaul an__law_backhaul : Option Addr} {sl__law_backhaul : Array (Option Value)} {oc__law_backhaul kv__law_backhaul dc__law_backhaul pm__law_backhaul cd__law_backhaul ct__law_backhaul : Value}
  {f__law_part : Addr} {od__law_part an__law_part : Option Addr} {sl__law_part : Array (Option Value)} {oc__law_part kv__law_part dc__law_part pm__law_part cd__law_part ct__law_part : Value}
  {f__law_same : Addr} {od__law_same an__law_same : Option Addr} {sl__law_same : Array (Option Value)} {oc__law_same kv__law_same dc__law_same pm__law_same cd__law_same ct__law_same : Value}
  {f_next_nodes : Addr} {od_next_nodes an_next_nodes : Option Addr} {sl_next_nodes : Array (Option Value)} {oc_next_nodes kv_next_nodes dc_next_nodes pm_next_nodes cd_next_nodes ct_next_nodes : Value}
  {f_hops : Addr} {od_hops an_hops : Option Addr} {sl_hops : Array (Option Value)} {oc_hops kv_hops dc_hops pm_hops cd_hops ct_hops : Value}
  {f_ways_from : Addr} {od_ways_from an_ways_from : Option Addr} {sl_ways_from : Array (Option Value)} {oc_ways_from kv_ways_from dc_ways_from pm_ways_from cd_ways_from ct_ways_from : Value}
  {f_single_points : Addr} {od_single_points an_single_points : Option Addr} {sl_single_points : Array (Option Value)} {oc_single_points kv_single_points dc_single_points pm_single_points cd_single_points ct_single_points : Value}
  {f__law_equal : Addr} {od__law_equal an__law_equal : Option Addr} {sl__law_equal : Array (Option Value)} {oc__law_equal kv__law_equal dc__law_equal pm__law_equal cd__law_equal ct__law_equal : Value}
  {f_law : Addr} {od_law an_law : Option Addr} {sl_law : Array (Option Value)} {oc_law kv_law dc_law pm_law cd_law ct_law : Value}
  (a__law_backhaul : PySem.W.nsIn K mainGlobals "_law_backhaul" = some (some (.ref f__law_backhaul)))
  (a__law_draw : PySem.W.nsIn K mainGlobals "_law_draw" = some (some (.ref f__law_draw)))
  (a__law_equal : PySem.W.nsIn K mainGlobals "_law_equal" = some (some (.ref f__law_equal)))
  (a__law_part : PySem.W.nsIn K mainGlobals "_law_part" = some (some (.ref f__law_part)))
  (a__law_pool : PySem.W.nsIn K mainGlobals "_law_pool" = some (some (.ref f__law_pool)))
  (a__law_same : PySem.W.nsIn K mainGlobals "_law_same" = some (some (.ref f__law_same)))
  (a__law_spread : PySem.W.nsIn K mainGlobals "_law_spread" = some (some (.ref f__law_spread)))
  (a_hops : PySem.W.nsIn K mainGlobals "hops" = some (some (.ref f_hops)))
  (a_next_nodes : PySem.W.nsIn K mainGlobals "next_nodes" = some (some (.ref f_next_nodes)))
  (a_single_points : PySem.W.nsIn K mainGlobals "single_points" = some (some (.ref f_single_points)))
  (a_ways_from : PySem.W.nsIn K mainGlobals "ways_from" = some (some (.ref f_ways_from)))
  (a_law : PySem.W.nsIn K mainGlobals "law" = some (some (.ref f_law)))
  (l__law_pool : K.lookup f__law_pool = some ⟨oc__law_pool, od__law_pool, .func (PySem.W.fnOf "_law_pool" "_law_pool" (defArgs s__law_pool) (defBody s__law_pool) (defScope s__law_pool) .none kv__law_pool dc__law_pool pm__law_pool an__law_pool cd__law_pool ct__law_pool), sl__law_pool⟩)
  (c__law_pool : PySem.W.codeIn K cd__law_pool "_law_pool" = true)
  (k__law_pool : PySem.W.keepIn K (.ref f__law_pool) = true)
  (l__law_spread : K.lookup f__law_spread = some ⟨oc__law_spread, od__law_spread, .func (PySem.W.fnOf "_law_spread" "_law_spread" (defArgs s__law_spread) (defBody s__law_spread) (defScope s__law_spread) .none kv__law_spread dc__law_spread pm__law_spread an__law_spread cd__law_spread ct__law_spread), sl__law_spread⟩)
  (c__law_spread : PySem.W.codeIn K cd__law_spread "_law_spread" = true)
  (k__law_spread : PySem.W.keepIn K (.ref f__law_spread) = true)
  (l__law_draw : K.lookup f__law_draw = some ⟨oc__law_draw, od__law_draw, .func (PySem.W.fnOf "_law_draw" "_law_draw" (defArgs s__law_draw) (defBody s__law_draw) (defScope s__law_draw) .none kv__law_draw dc__law_draw pm__law_draw an__law_draw cd__law_draw ct__law_draw), sl__law_draw⟩)
  (c__law_draw : PySem.W.codeIn K cd__law_draw "_law_draw" = true)
  (k__law_draw : PySem.W.keepIn K (.ref f__law_draw) = true)
  (l__law_backhaul : K.lookup f__law_backhaul = some ⟨oc__law_backhaul, od__law_backhaul, .func (PySem.W.fnOf "_law_backhaul" "_law_backhaul" (defArgs s__law_backhaul) (defBody s__law_backhaul) (defScope s__law_backhaul) .none kv__law_backhaul dc__law_backhaul pm__law_backhaul an__law_backhaul cd__law_backhaul ct__law_backhaul), sl__law_backhaul⟩)
  (c__law_backhaul : PySem.W.codeIn K cd__law_backhaul "_law_backhaul" = true)
  (k__law_backhaul : PySem.W.keepIn K (.ref f__law_backhaul) = true)
  (l__law_part : K.lookup f__law_part = some ⟨oc__law_part, od__law_part, .func (PySem.W.fnOf "_law_part" "_law_part" (defArgs s__law_part) (defBody s__law_part) (defScope s__law_part) .none kv__law_part dc__law_part pm__law_part an__law_part cd__law_part ct__law_part), sl__law_part⟩)
  (c__law_part : PySem.W.codeIn K cd__law_part "_law_part" = true)
  (k__law_part : PySem.W.keepIn K (.ref f__law_part) = true)
  (l__law_same : K.lookup f__law_same = some ⟨oc__law_same, od__law_same, .func (PySem.W.fnOf "_law_same" "_law_same" (defArgs s__law_same) (defBody s__law_same) (defScope s__law_same) .none kv__law_same dc__law_same pm__law_same an__law_same cd__law_same ct__law_same), sl__law_same⟩)
  (c__law_same : PySem.W.codeIn K cd__law_same "_law_same" = true)
  (k__law_same : PySem.W.keepIn K (.ref f__law_same) = true)
  (l_next_nodes : K.lookup f_next_nodes = some ⟨oc_next_nodes, od_next_nodes, .func (PySem.W.fnOf "next_nodes" "next_nodes" (defArgs s_next_nodes) (defBody s_next_nodes) (defScope s_next_nodes) .none kv_next_nodes dc_next_nodes pm_next_nodes an_next_nodes cd_next_nodes ct_next_nodes), sl_next_nodes⟩)
  (c_next_nodes : PySem.W.codeIn K cd_next_nodes "next_nodes" = true)
  (k_next_nodes : PySem.W.keepIn K (.ref f_next_nodes) = true)
  (l_hops : K.lookup f_hops = some ⟨oc_hops, od_hops, .func (PySem.W.fnOf "hops" "hops" (defArgs s_hops) (defBody s_hops) (defScope s_hops) .none kv_hops dc_hops pm_hops an_hops cd_hops ct_hops), sl_hops⟩)
  (c_hops : PySem.W.codeIn K cd_hops "hops" = true)
  (k_hops : PySem.W.keepIn K (.ref f_hops) = true)
  (l_ways_from : K.lookup f_ways_from = some ⟨oc_ways_from, od_ways_from, .func (PySem.W.fnOf "ways_from" "ways_from" (defArgs s_ways_from) (defBody s_ways_from) (defScope s_ways_from) .none kv_ways_from dc_ways_from pm_ways_from an_ways_from cd_ways_from ct_ways_from), sl_ways_from⟩)
  (c_ways_from : PySem.W.codeIn K cd_ways_from "ways_from" = true)
  (k_ways_from : PySem.W.keepIn K (.ref f_ways_from) = true)
  (l_single_points : K.lookup f_single_points = some ⟨oc_single_points, od_single_points, .func (PySem.W.fnOf "single_points" "single_points" (defArgs s_single_points) (defBody s_single_points) (defScope s_single_points) .none kv_single_points dc_single_points pm_single_points an_single_points cd_single_points ct_single_points), sl_single_points⟩)
  (c_single_points : PySem.W.codeIn K cd_single_points "single_points" = true)
  (k_single_points : PySem.W.keepIn K (.ref f_single_points) = true)
  (l__law_equal : K.lookup f__law_equal = some ⟨oc__law_equal, od__law_equal, .func (PySem.W.fnOf "_law_equal" "_law_equal" (defArgs s__law_equal) (defBody s__law_equal) (defScope s__law_equal) .none kv__law_equal dc__law_equal pm__law_equal an__law_equal cd__law_equal ct__law_equal), sl__law_equal⟩)
  (c__law_equal : PySem.W.codeIn K cd__law_equal "_law_equal" = true)
  (k__law_equal : PySem.W.keepIn K (.ref f__law_equal) = true)
  (l_law : K.lookup f_law = some ⟨oc_law, od_law, .func (PySem.W.fnOf "law" "law" (defArgs s_law) (defBody s_law) (defScope s_law) .none kv_law dc_law pm_law an_law cd_law ct_law), sl_law⟩)
  (c_law : PySem.W.codeIn K cd_law "law" = true)
  (k_law : PySem.W.keepIn K (.ref f_law) = true)
  (z_all : PySem.W.nsIn K mainGlobals "all" = some none)
  (z_bool : PySem.W.nsIn K mainGlobals "bool" = some none)
  (z_dict : PySem.W.nsIn K mainGlobals "dict" = some none)
  (z_int : PySem.W.nsIn K mainGlobals "int" = some none)
  (z_isinstance : PySem.W.nsIn K mainGlobals "isinstance" = some none)
  (z_len : PySem.W.nsIn K mainGlobals "len" = some none)
  (z_list : PySem.W.nsIn K mainGlobals "list" = some none)
  (z_range : PySem.W.nsIn K mainGlobals "range" = some none)
  (z_sorted : PySem.W.nsIn K mainGlobals "sorted" = some none)
  (z_str : PySem.W.nsIn K mainGlobals "str" = some none)
  (z_tuple : PySem.W.nsIn K mainGlobals "tuple" = some none) :
    ∃ fd : FuncData, (∀ (s : Shared) (v : Value), BindsTo s fd ⟨[v], []⟩ [("script", v)]) ∧ ∀ base : Heap, K.In base → base.Ns mainGlobals mg → FnOk l.prog w K mg base (L2.CX l.prog w) 42 fa fd ["script"] (spEnd K) := by
  have e := hfa.symm.trans (PySem.W.mg_of X G a_law)
  cases e
  refine ⟨PySem.W.fnOf "law" "law" (defArgs s_law) (defBody s_law) (defScope s_law) .none kv_law dc_law pm_law an_law cd_law ct_law, fun s v => .of_eq rfl, fun base _ _ => ?_⟩
  exact law_end (ok_law (txt_mk X G a__law_backhaul a__law_draw a__law_equal a__law_part a__law_pool a__law_same a__law_spread a_hops a_next_nodes a_single_points a_ways_from a_law l__law_pool c__law_pool k__law_pool l__law_spread c__law_spread k__law_spread l__law_draw c__law_draw k__law_draw l__law_backhaul c__law_backhaul k__law_backhaul l__law_part c__law_part k__law_part l__law_same c__law_same k__law_same l_next_nodes c_next_nodes k_next_nodes l_hops c_hops k_hops l_ways_from c_ways_from k_ways_from l_single_points c_single_points k_single_points l__law_equal c__law_equal k__law_equal l_law c_law k_law z_all z_bool z_dict z_int z_isinstance z_len z_list z_range z_sorted z_str z_tuple)) hF
end TT
end

section
set_option Elab.async false
set_option linter.all false
/-- the mathematics -/
theorem TT.law_math : ∀ ns : List Int, ns.length ≤ 63 → TT.d_law [.kls (ns.map .int)] = .ok (.fz (.bl true)) [] := fun ns h => TT.law_is ns
open PySem PySem.W PyProof.Rows
set_option maxRecDepth 100000 in
set_option maxHeartbeats 0 in
theorem PySem.Challenge.cw_airwave_k75_hops_and_single_points_holds : PySem.Challenge.rw_airwave_k75_hops_and_single_points.Holds := by
  w_on; o_law; k_head; (case hw => w_witness2)
  k_fill
  refine L2.walk_of (l := PySem.Challenge.rw_airwave_k75_hops_and_single_points) (n := 63) (k := 42) (x := "script") (CX := fun w => L2.CX PySem.Challenge.rw_airwave_k75_hops_and_single_points.prog w) (sp := fun w => DL.spEnd _) rfl (by decide) rfl ⟨rfl, by decide, by decide⟩ (fun w h Y => PySem.W.kIn_of Y) ?F (fun _ _ a ns hl _ hS => ⟨a, ns, rfl, hS, hl, fun _ => rfl⟩) (fun _ _ _ _ _ h => DL.cx_end h)
  case F =>
    intro w mg fa h KX G hmg
    refine' TT.all_mk TT.law_math KX G hmg ?a__law_backhaul ?a__law_draw ?a__law_equal ?a__law_part ?a__law_pool ?a__law_same ?a__law_spread ?a_hops ?a_next_nodes ?a_single_points ?a_ways_from ?a_law ?l__law_pool ?c__law_pool ?k__law_pool ?l__law_spread ?c__law_spread ?k__law_spread ?l__law_draw ?c__law_draw ?k__law_draw ?l__law_backhaul ?c__law_backhaul ?k__law_backhaul ?l__law_part ?c__law_part ?k__law_part ?l__law_same ?c__law_same ?k__law_same ?l_next_nodes ?c_next_nodes ?k_next_nodes ?l_hops ?c_hops ?k_hops ?l_ways_from ?c_ways_from ?k_ways_from ?l_single_points ?c_single_points ?k_single_points ?l__law_equal ?c__law_equal ?k__law_equal ?l_law ?c_law ?k_law ?z_all ?z_bool ?z_dict ?z_int ?z_isinstance ?z_len ?z_list ?z_range ?z_sorted ?z_str ?z_tuple
    (case a__law_backhaul => k_is); (case a__law_draw => k_is); (case a__law_equal => k_is); (case a__law_part => k_is); (case a__law_pool => k_is); (case a__law_same => k_is); (case a__law_spread => k_is); (case a_hops => k_is); (case a_next_nodes => k_is); (case a_single_points => k_is); (case a_ways_from => k_is); (case a_law => k_is); (case l__law_pool => k_is); (case c__law_pool => k_is); (case k__law_pool => k_is); (case l__law_spread => k_is); (case c__law_spread => k_is); (case k__law_spread => k_is); (case l__law_draw => k_is); (case c__law_draw => k_is); (case k__law_draw => k_is); (case l__law_backhaul => k_is); (case c__law_backhaul => k_is); (case k__law_backhaul => k_is); (case l__law_part => k_is); (case c__law_part => k_is); (case k__law_part => k_is); (case l__law_same => k_is); (case c__law_same => k_is); (case k__law_same => k_is); (case l_next_nodes => k_is); (case c_next_nodes => k_is); (case k_next_nodes => k_is); (case l_hops => k_is); (case c_hops => k_is); (case k_hops => k_is); (case l_ways_from => k_is); (case c_ways_from => k_is); (case k_ways_from => k_is); (case l_single_points => k_is); (case c_single_points => k_is); (case k_single_points => k_is); (case l__law_equal => k_is); (case c__law_equal => k_is); (case k__law_equal => k_is); (case l_law => k_is); (case c_law => k_is); (case k_law => k_is); (case z_all => k_is); (case z_bool => k_is); (case z_dict => k_is); (case z_int => k_is); (case z_isinstance => k_is); (case z_len => k_is); (case z_list => k_is); (case z_range => k_is); (case z_sorted => k_is); (case z_str => k_is); (case z_tuple => k_is)
end
