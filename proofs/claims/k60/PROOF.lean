import PyProof.Rows.All
import PySem.Str
import Wide.All
import OpenK.AllK
import Wide.FinOn
import HandS.Base
import HandS.Call
import HandS.List
import HandS.Dict
import HandS.More
import HandS.DictEq
import PyProof.EqKinds
import PyProof.NeKinds
import HandS.ForMost
import HandS.ForExc
import HandS.CallSlots
import HandS.TupAny
import HandS.TupMul
import HandS.TupLe
import HandS.Wide
import HandS.WideBits
import HandS.Deep
import HandS.IsInst
import HandS.SortInts
import HandS.Flow
import HandS.Text
import HandS.WordsDict
import HandS.Style
import HandS.Gcd
import HandS.ExcIs
import HandS.Zip
import HandS.Conv
import HandS.RaiseMore
import HandS.DictComp
import KE.KDictSum
import KE.DataCmp
import KE.DataEq
import KE.SortData
import PySem.Challenge.RW_airwave_k60_codes_that_meet
section
/-! DL0: Python data as plain Lean values, and what a statement makes of them. No heap here. -/
namespace DL
open PySem

abbrev DK := Sum Int Str
inductive D where
  | non | bl (b : Bool) | int (i : Int) | str (x : Str)
  | tup (xs : List D) | lst (xs : List D)
  /-- a tuple of the module's top; a list that is only read (the script) -/
  | ktp (xs : List D) | kls (xs : List D)
  | dct (kvs : List (DK × D)) | dtt (kvs : List (List DK × D))
  deriving Inhabited
/-- a slot: unset, a value, an object that is changed (true: a parameter's) -/
inductive Sl where
  | no | va (d : D) | ow (b : Bool) (d : D)
  deriving Inhabited
abbrev Ev := List Sl
/-- an operand: a value that stands still, the object in a slot, a new object -/
inductive Op where
  | fz (d : D) | br (i : Nat) | tm (d : D)
inductive EOut where
  | ok (o : Op) (r : Ev) | err (c : Str) (r : Ev) | bad
inductive AOut where
  | ok (os : List Op) (r : Ev) | err (c : Str) (r : Ev) | bad
inductive TOut where
  | ok (b : Bool) (r : Ev) | err (c : Str) (r : Ev) | bad
inductive IOut where
  | ok (ds : List D) (r : Ev) | err (c : Str) (r : Ev) | bad
inductive SOut where
  | nx (r : Ev) | ret (o : Op) (r : Ev) | brk (r : Ev) | cnt (r : Ev) | err (c : Str) (r : Ev) | bad
/-- what a def gives: its value and what its changed parameters hold -/
inductive FOut where
  | ok (o : Op) (ios : List D) | err (c : Str) (ios : List D) | bad
abbrev E := Ev → EOut
abbrev A := Ev → AOut
abbrev T := Ev → TOut
abbrev I := Ev → IOut
abbrev S := Ev → SOut
abbrev FD := List D → FOut

def SZ : Nat := 2 ^ 24

/-- an operand's data -/
def rsv (r : Ev) : Op → Option D
  | .fz d => some d
  | .tm d => some d
  | .br i => match r[i]? with
    | some (.ow _ d) => some d
    | some (.va d) => some d
    | _ => none
/-- an operand is put away: its object is not changed any more -/
def fzo (r : Ev) : Op → Option (D × Ev)
  | .fz d => some (d, r)
  | .tm d => some (d, r)
  | .br i => match r[i]? with
    | some (.ow false d) => some (d, r.set i (.va d))
    | some (.va d) => some (d, r)
    | _ => none
def fzos : List Op → Ev → Option (List D × Ev)
  | [], r => some ([], r)
  | o :: os, r => match fzo r o with
    | some (d, r1) => match fzos os r1 with
      | some (ds, r2) => some (d :: ds, r2)
      | none => none
    | none => none
def rsvs (r : Ev) : List Op → Option (List D)
  | [] => some []
  | o :: os => match rsv r o with
    | some d => match rsvs r os with
      | some ds => some (d :: ds)
      | none => none
    | none => none

/-! ### expressions -/
def eName (i : Nat) : E := fun r => match r[i]? with
  | some (.va d) => .ok (.fz d) r
  | some (.ow _ _) => .ok (.br i) r
  | _ => .bad
def eC (d : D) : E := fun r => .ok (.fz d) r
def eUn (g : D → Option Op) (a : E) : E := fun r => match a r with
  | .ok o r1 => match rsv r1 o with
    | some d => match g d with
      | some o2 => .ok o2 r1
      | none => .bad
    | none => .bad
  | .err c r1 => .err c r1
  | .bad => .bad
def eBin (g : D → D → Option Op) (a b : E) : E := fun r => match a r with
  | .ok o r1 => match b r1 with
    | .ok p r2 => match rsv r2 o, rsv r2 p with
      | some x, some y => match g x y with
        | some z => .ok z r2
        | none => .bad
      | _, _ => .bad
    | .err c r2 => .err c r2
    | .bad => .bad
  | .err c r1 => .err c r1
  | .bad => .bad
def aNil : A := fun r => .ok [] r
def aCons (a : E) (b : A) : A := fun r => match a r with
  | .ok o r1 => match b r1 with
    | .ok os r2 => .ok (o :: os) r2
    | .err c r2 => .err c r2
    | .bad => .bad
  | .err c r1 => .err c r1
  | .bad => .bad
/-- a built-in of several operands -/
def ePure (g : List D → Option Op) (a : A) : E := fun r => match a r with
  | .ok os r1 => match rsvs r1 os with
    | some ds => match g ds with
      | some o => .ok o r1
      | none => .bad
    | none => .bad
  | .err c r1 => .err c r1
  | .bad => .bad
def eTup (a : A) : E := fun r => match a r with
  | .ok os r1 => match fzos os r1 with
    | some (ds, r2) => if ds.length ≤ SZ then .ok (.fz (.tup ds)) r2 else .bad
    | none => .bad
  | .err c r1 => .err c r1
  | .bad => .bad
def eLst (a : A) : E := fun r => match a r with
  | .ok os r1 => match fzos os r1 with
    | some (ds, r2) => if ds.length ≤ SZ then .ok (.tm (.lst ds)) r2 else .bad
    | none => .bad
  | .err c r1 => .err c r1
  | .bad => .bad
/-- a value's truth -/
def dtr : D → Option Bool
  | .non => some false
  | .bl b => some b
  | .int i => some (i != 0)
  | .str x => if x.length ≤ SZ then some ((x.length : Int) != 0) else none
  | .lst xs => some (!xs.isEmpty)
  | .tup xs => some (!xs.isEmpty)
  | .kls xs => some (!xs.isEmpty)
  | .ktp xs => some (!xs.isEmpty)
  | .dct _ => none
  | .dtt _ => none
def tTru (a : E) : T := fun r => match a r with
  | .ok o r1 => match rsv r1 o with
    | some d => match dtr d with
      | some b => .ok b r1
      | none => .bad
    | none => .bad
  | .err c r1 => .err c r1
  | .bad => .bad
def tAnd (a b : T) : T := fun r => match a r with
  | .ok true r1 => b r1
  | x => x
def tOr (a b : T) : T := fun r => match a r with
  | .ok false r1 => b r1
  | x => x
def tNot (a : T) : T := fun r => match a r with
  | .ok b r1 => .ok (!b) r1
  | x => x
/-- and, or, not as values: all but the last are True or False -/
def eAnd (a b : E) : E := fun r => match a r with
  | .ok (.fz (.bl true)) r1 => b r1
  | .ok (.fz (.bl false)) r1 => .ok (.fz (.bl false)) r1
  | .ok _ _ => .bad
  | .err c r1 => .err c r1
  | .bad => .bad
def eOr (a b : E) : E := fun r => match a r with
  | .ok (.fz (.bl true)) r1 => .ok (.fz (.bl true)) r1
  | .ok (.fz (.bl false)) r1 => b r1
  | .ok _ _ => .bad
  | .err c r1 => .err c r1
  | .bad => .bad
def eNot (a : T) : E := fun r => match a r with
  | .ok b r1 => .ok (.fz (.bl (!b))) r1
  | .err c r1 => .err c r1
  | .bad => .bad
def eIf (c : T) (a b : E) : E := fun r => match c r with
  | .ok true r1 => a r1
  | .ok false r1 => b r1
  | .err c r1 => .err c r1
  | .bad => .bad
/-- x op y op' z -/
def eChain (g g' : D → D → Option Op) (a b c : E) : E := fun r => match a r with
  | .ok o r1 => match b r1 with
    | .ok p r2 => match rsv r2 o, rsv r2 p with
      | some x, some y => match g x y with
        | some (.fz (.bl true)) => match c r2 with
          | .ok q r3 => match rsv r3 p, rsv r3 q with
            | some y', some z => match g' y' z with
              | some (.fz (.bl k)) => .ok (.fz (.bl k)) r3
              | _ => .bad
            | _, _ => .bad
          | .err c r3 => .err c r3
          | .bad => .bad
        | some (.fz (.bl false)) => .ok (.fz (.bl false)) r2
        | _ => .bad
      | _, _ => .bad
    | .err c r2 => .err c r2
    | .bad => .bad
  | .err c r1 => .err c r1
  | .bad => .bad

/-! ### a call of a def -/
def isOw : Option Sl → Bool
  | some (.ow _ _) => true
  | _ => false
/-- the parameters' places: false a value, true an object that the def changes -/
def argsOf : List Bool → List Op → Ev → Option (List D × Ev)
  | [], [], r => some ([], r)
  | false :: m, o :: os, r => match fzo r o with
    | some (d, r1) => match argsOf m os r1 with
      | some (ds, r2) => some (d :: ds, r2)
      | none => none
    | none => none
  | true :: m, .br i :: os, r => match r[i]? with
    | some (.ow _ d) => match argsOf m os r with
      | some (ds, r2) => some (d :: ds, r2)
      | none => none
    | _ => none
  | _, _, _ => none
/-- the slots of the changed parameters -/
def iosOf : List Bool → List Op → List Nat
  | true :: m, .br i :: os => i :: iosOf m os
  | _ :: m, _ :: os => iosOf m os
  | _, _ => []
def putIos : List Nat → List D → Ev → Ev
  | i :: is, d :: ds, r => putIos is ds (match r[i]? with
    | some (.ow b _) => r.set i (.ow b d)
    | _ => r)
  | _, _, r => r
def eCall (m : List Bool) (F : FD) (a : A) : E := fun r => match a r with
  | .ok os r1 => match argsOf m os r1 with
    | some (ds, r2) => if (iosOf m os).Nodup ∧ (∀ i ∈ iosOf m os, isOw r2[i]? = true) then (match F ds with
      | .ok o ios => .ok o (putIos (iosOf m os) ios r2)
      | .err c ios => .err c (putIos (iosOf m os) ios r2)
      | .bad => .bad) else .bad
    | none => .bad
  | .err c r1 => .err c r1
  | .bad => .bad

/-! ### statements -/
def sNext : S := fun r => .nx r
def sSeq (a b : S) : S := fun r => match a r with
  | .nx r1 => b r1
  | x => x
def sExpr (a : E) : S := fun r => match a r with
  | .ok _ r1 => .nx r1
  | .err c r1 => .err c r1
  | .bad => .bad
/-- a value is kept in slot i -/
def keep (i : Nat) (o : Op) (r : Ev) : Option Ev := match o with
  | .fz d => some (r.set i (.va d))
  | .tm d => some (r.set i (.ow false d))
  | .br j => match fzo r (.br j) with
    | some (d, r1) => some (r1.set i (.va d))
    | none => none
def sSet (i : Nat) (a : E) : S := fun r => match a r with
  | .ok o r1 => match keep i o r1 with
    | some r2 => .nx r2
    | none => .bad
  | .err c r1 => .err c r1
  | .bad => .bad
def setAll : List Nat → List D → Ev → Option Ev
  | [], [], r => some r
  | i :: is, d :: ds, r => setAll is ds (r.set i (.va d))
  | _, _, _ => none
/-- a target: a name, or names for a tuple's items -/
inductive Tg where
  | one (i : Nat) | many (is : List Nat)
def Tg.put : Tg → D → Ev → Option Ev
  | .one i, d, r => some (r.set i (.va d))
  | .many is, .tup ds, r => setAll is ds r
  | .many is, .ktp ds, r => setAll is ds r
  | .many _, _, _ => none
def sUnp (t : Tg) (a : E) : S := fun r => match a r with
  | .ok o r1 => match fzo r1 o with
    | some (d, r2) => match t.put d r2 with
      | some r3 => .nx r3
      | none => .bad
    | none => .bad
  | .err c r1 => .err c r1
  | .bad => .bad
def keep2 (i : Nat) (o : Op) (r : Ev) : Option Ev := match o with
  | .fz d => some (r.set i (.va d))
  | .tm d => some (r.set i (.ow false d))
  | .br _ => none
/-- a, b = x, y -/
def sPar (i j : Nat) (a b : E) : S := fun r => match a r with
  | .ok o r1 => match b r1 with
    | .ok p r2 => match keep2 i o r2 with
      | some r3 => match keep2 j p r3 with
        | some r4 => .nx r4
        | none => .bad
      | none => .bad
    | .err c r2 => .err c r2
    | .bad => .bad
  | .err c r1 => .err c r1
  | .bad => .bad
def sAug (i : Nat) (g : D → D → Option Op) (a : E) : S := fun r => match r[i]? with
  | some (.va x) => match a r with
    | .ok o r1 => match rsv r1 o with
      | some y => match g x y with
        | some (.fz z) => .nx (r1.set i (.va z))
        | _ => .bad
      | none => .bad
    | .err c r1 => .err c r1
    | .bad => .bad
  | _ => .bad
def sRet (a : E) : S := fun r => match a r with
  | .ok (.fz d) r1 => .ret (.fz d) r1
  | .ok (.tm d) r1 => .ret (.tm d) r1
  | .ok (.br i) r1 => match r1[i]? with
    | some (.ow false d) => .ret (.tm d) (r1.set i .no)
    | some (.va d) => .ret (.fz d) r1
    | _ => .bad
  | .err c r1 => .err c r1
  | .bad => .bad
def sRetN : S := fun r => .ret (.fz .non) r
def sIf (c : T) (a b : S) : S := fun r => match c r with
  | .ok true r1 => a r1
  | .ok false r1 => b r1
  | .err c r1 => .err c r1
  | .bad => .bad
def sRaise (c : Str) : S := fun r => .err c r
def sBreak : S := fun r => .brk r
def sCont : S := fun r => .cnt r
def isL : Option Sl → Bool
  | some (.ow _ (.lst _)) => true
  | _ => false
/-- the list in slot i is changed: g of its data and the operands' (put away): the data behind, the value -/
def eMut (i : Nat) (g : D → List D → Option (D × Op)) (a : A) : E := fun r => if isL r[i]? = true then (match a r with
  | .ok os r1 => match fzos os r1 with
    | some (ds, r2) => match r2[i]? with
      | some (.ow b d) => match g d ds with
        | some (d', o) => .ok o (r2.set i (.ow b d'))
        | none => .bad
      | _ => .bad
    | none => .bad
  | .err c r1 => .err c r1
  | .bad => .bad) else .bad
/-- x[k] = v; g of the data, the key, the value -/
def sSub (i : Nat) (g : D → D → D → Option D) (k v : E) : S := fun r => match v r with
  | .ok o r1 => if isOw r1[i]? = true then (match k r1 with
    | .ok p r2 => match fzo r2 o with
      | some (dv, r3) => match rsv r3 p with
        | some dk => match r3[i]? with
          | some (.ow b d) => match g d dk dv with
            | some d' => .nx (r3.set i (.ow b d'))
            | none => .bad
          | _ => .bad
        | none => .bad
      | none => .bad
    | .err c r2 => .err c r2
    | .bad => .bad) else .bad
  | .err c r1 => .err c r1
  | .bad => .bad
/-- the turns of a for -/
def forGo (t : Tg) (b : S) : List D → S
  | [], r => .nx r
  | d :: ds, r => match t.put d r with
    | some r1 => match b r1 with
      | .nx r2 => forGo t b ds r2
      | .cnt r2 => forGo t b ds r2
      | .brk r2 => .nx r2
      | x => x
    | none => .bad
def sFor (t : Tg) (it : I) (b : S) : S := fun r => match it r with
  | .ok ds r1 => forGo t b ds r1
  | .err c r1 => .err c r1
  | .bad => .bad
def whN (c : T) (b : S) : Nat → S
  | 0, _ => .bad
  | n + 1, r => match c r with
    | .ok true r1 => match b r1 with
      | .nx r2 => whN c b n r2
      | .cnt r2 => whN c b n r2
      | .brk r2 => .nx r2
      | x => x
    | .ok false r1 => .nx r1
    | .err c r1 => .err c r1
    | .bad => .bad
open Classical in
noncomputable def sWhile (c : T) (b : S) : S := fun r => if h : ∃ n, whN c b n r ≠ .bad then whN c b (choose h) r else .bad
theorem whN_mono (c : T) (b : S) : ∀ (n m : Nat) (r : Ev), n ≤ m → whN c b n r ≠ .bad → whN c b m r = whN c b n r
  | 0, _, _, _, h => absurd rfl h
  | n + 1, 0, _, h, _ => by omega
  | n + 1, m + 1, r, h, hb => by
    have ih := fun r => whN_mono c b n m r (by omega)
    unfold whN at hb ⊢
    generalize c r = cr at hb ⊢
    cases cr with
    | ok k r1 =>
      cases k with
      | true =>
        dsimp only at hb ⊢
        generalize b r1 = br at hb ⊢
        cases br with
        | nx r2 => exact ih r2 hb
        | cnt r2 => exact ih r2 hb
        | _ => rfl
      | false => rfl
    | _ => rfl
theorem sWhile_eq {c : T} {b : S} {n : Nat} {r : Ev} {x : SOut} (h : whN c b n r = x) (hx : x ≠ .bad) : sWhile c b r = x := by
  have hn : whN c b n r ≠ .bad := by rw [h]; exact hx
  have ex : ∃ n, whN c b n r ≠ .bad := ⟨n, hn⟩
  unfold sWhile
  rw [dif_pos ex]
  have h2 := Classical.choose_spec ex
  rcases Nat.le_total n (Classical.choose ex) with k | k
  · rw [whN_mono c b _ _ r k hn, h]
  · rw [← whN_mono c b _ _ r k h2, h]
/-- a comprehension; vs: its own names' slots -/
def wipeE (r : Ev) : List Nat → Ev
  | [] => r
  | v :: vs => (wipeE r vs).set v .no
def backE (r0 r : Ev) : List Nat → Ev
  | [] => r
  | v :: vs => (backE r0 r vs).set v (r0.getD v .no)
def lcGo (vs : List Nat) (t : Tg) (c : T) (e : E) (r0 : Ev) : List D → List D → Ev → EOut
  | [], acc, r => .ok (.tm (.lst acc)) (backE r0 r vs)
  | d :: ds, acc, r => match t.put d (wipeE r vs) with
    | some r1 => match c r1 with
      | .ok true r2 => match e r2 with
        | .ok o r3 => match fzo r3 o with
          | some (x, r4) => if acc.length < SZ then lcGo vs t c e r0 ds (acc ++ [x]) r4 else .bad
          | none => .bad
        | _ => .bad
      | .ok false r2 => lcGo vs t c e r0 ds acc r2
      | _ => .bad
    | none => .bad
def eLc (vs : List Nat) (t : Tg) (it : I) (c : T) (e : E) : E := fun r => match it r with
  | .ok ds r1 => if vs.all (fun v => !isOw r1[v]?) then lcGo vs t c e r1 ds [] r1 else .bad
  | .err c r1 => .err c r1
  | .bad => .bad
def tYes : T := fun r => .ok true r
/-- what is walked: an operand that is a list or a tuple -/
def iSeq (a : E) : I := fun r => match a r with
  | .ok o r1 => match fzo r1 o with
    | some (.lst ds, r2) => .ok ds r2
    | some (.tup ds, r2) => .ok ds r2
    | some (.kls ds, r2) => .ok ds r2
    | some (.ktp ds, r2) => .ok ds r2
    | _ => .bad
  | .err c r1 => .err c r1
  | .bad => .bad
/-- ints lo, lo + 1, .. (n of them) -/
def upFrom (lo : Int) : Nat → List D
  | 0 => []
  | n + 1 => .int lo :: upFrom (lo + 1) n
def iRng1 (a : E) : I := fun r => match a r with
  | .ok (.fz (.int j)) r1 => if -(2 ^ 62) ≤ j ∧ j < 2 ^ 62 then .ok (upFrom 0 j.toNat) r1 else .bad
  | .ok _ _ => .bad
  | .err c r1 => .err c r1
  | .bad => .bad
def iRng2 (a b : E) : I := fun r => match a r with
  | .ok (.fz (.int i)) r1 => match b r1 with
    | .ok (.fz (.int j)) r2 => if (-(2 ^ 62) ≤ i ∧ i < 2 ^ 62) ∧ -(2 ^ 62) ≤ j ∧ j < 2 ^ 62 then .ok (upFrom i (j - i).toNat) r2 else .bad
    | .ok _ _ => .bad
    | .err c r2 => .err c r2
    | .bad => .bad
  | .ok _ _ => .bad
  | .err c r1 => .err c r1
  | .bad => .bad
/-- a def: its slots, the marks of its parameters, its body -/
def argSl : List Bool → List D → Ev
  | false :: m, d :: ds => .va d :: argSl m ds
  | true :: m, d :: ds => .ow true d :: argSl m ds
  | _, _ => []
/-- what the changed parameters hold -/
def iosAt : List Bool → Nat → Ev → Option (List D)
  | [], _, _ => some []
  | false :: m, k, r => iosAt m (k + 1) r
  | true :: m, k, r => match r[k]? with
    | some (.ow true d) => match iosAt m (k + 1) r with
      | some ds => some (d :: ds)
      | none => none
    | _ => none
def fnD (n : Nat) (m : List Bool) (b : S) : FD := fun ds =>
  if ds.length = m.length then
    match b (argSl m ds ++ List.replicate (n - m.length) .no) with
    | .ret o r => match iosAt m 0 r with
      | some ios => .ok o ios
      | none => .bad
    | .nx r => match iosAt m 0 r with
      | some ios => .ok (.fz .non) ios
      | none => .bad
    | .err c r => match iosAt m 0 r with
      | some ios => .err c ios
      | none => .bad
    | _ => .bad
  else .bad
end DL
end

section
set_option autoImplicit false
/-! DLG: the operators and built-ins over data. -/
namespace DL
open PySem
/-- a list's items, a tuple's items -/
def asL : D → Option (List D)
  | .lst xs => some xs
  | .kls xs => some xs
  | _ => none
def asT : D → Option (List D)
  | .tup xs => some xs
  | .ktp xs => some xs
  | _ => none
def asS : D → Option (List D)
  | .lst xs => some xs
  | .kls xs => some xs
  | .tup xs => some xs
  | .ktp xs => some xs
  | _ => none
/-! ### == of data -/
mutual
def eqD : D → D → Bool
  | .non, .non => true
  | .bl a, .bl b => a == b
  | .bl a, .int j => (if a then 1 else 0) == j
  | .int i, .bl b => i == (if b then 1 else 0)
  | .int i, .int j => i == j
  | .str x, .str y => x == y
  | .lst xs, .lst ys => eqDs xs ys
  | .lst xs, .kls ys => eqDs xs ys
  | .kls xs, .lst ys => eqDs xs ys
  | .kls xs, .kls ys => eqDs xs ys
  | .tup xs, .tup ys => eqDs xs ys
  | .tup xs, .ktp ys => eqDs xs ys
  | .ktp xs, .tup ys => eqDs xs ys
  | .ktp xs, .ktp ys => eqDs xs ys
  | .dct xs, .dct ys => xs.isEmpty && ys.isEmpty
  | _, _ => false
def eqDs : List D → List D → Bool
  | [], [] => true
  | x :: xs, y :: ys => eqD x y && eqDs xs ys
  | _, _ => false
end
/-! data without dicts, at most n deep, its texts plain -/
mutual
def okD : Nat → D → Bool
  | _, .non => true
  | _, .bl _ => true
  | _, .int _ => true
  | _, .str x => x.cps.all (· < 0x110000)
  | 0, _ => false
  | n + 1, .lst xs => okDs n xs
  | n + 1, .kls xs => okDs n xs
  | n + 1, .tup xs => okDs n xs
  | n + 1, .ktp xs => okDs n xs
  | _, .dct _ => false
  | _, .dtt _ => false
def okDs : Nat → List D → Bool
  | _, [] => true
  | n, x :: xs => okD n x && okDs n xs
end
theorem okDs_iff {n : Nat} : ∀ {ds : List D}, okDs n ds = true ↔ ∀ d ∈ ds, okD n d = true
  | [] => by simp [okDs]
  | x :: xs => by simp [okDs, okDs_iff (ds := xs)]
/-! data with empty dicts, at most n deep -/
mutual
def okX : Nat → D → Bool
  | _, .non => true
  | _, .bl _ => true
  | _, .int _ => true
  | _, .str _ => true
  | _, .dct kvs => kvs.isEmpty
  | _, .dtt _ => false
  | 0, _ => false
  | n + 1, .lst xs => okXs n xs
  | n + 1, .kls xs => okXs n xs
  | n + 1, .tup xs => okXs n xs
  | n + 1, .ktp xs => okXs n xs
def okXs : Nat → List D → Bool
  | _, [] => true
  | n, x :: xs => okX n x && okXs n xs
end
theorem okXs_iff {n : Nat} : ∀ {ds : List D}, okXs n ds = true ↔ ∀ d ∈ ds, okX n d = true
  | [] => by simp [okXs]
  | x :: xs => by simp [okXs, okXs_iff (ds := xs)]
/-- what == may compare -/
def okE : D → D → Bool
  | .str _, .str _ => true
  | .str _, .non => true
  | .non, .str _ => true
  | .str _, .int _ => true
  | .int _, .str _ => true
  | .str _, .bl _ => true
  | .bl _, .str _ => true
  | x, y => okD 64 x && okD 64 y
def gEq (x y : D) : Option Op := if okE x y then some (.fz (.bl (eqD x y))) else if okX 60 x && okX 60 y then some (.fz (.bl (eqD x y))) else none
def gNe (x y : D) : Option Op := if okE x y then some (.fz (.bl (!eqD x y))) else if okX 60 x && okX 60 y then some (.fz (.bl (!eqD x y))) else none
/-! ### numbers, texts, rows -/
def mulOk (i j : Int) : Prop := i.natAbs < 2 ^ 64 ∨ j.natAbs < 2 ^ 64 ∨ i.natAbs.log2 + j.natAbs.log2 < 1000000
instance (i j : Int) : Decidable (mulOk i j) := by unfold mulOk; exact inferInstance
def gAdd : D → D → Option Op
  | .int i, .int j => some (.fz (.int (i + j)))
  | .str x, .str y => if x.length + y.length ≤ SZ then some (.fz (.str (x ++ y))) else none
  | .lst x, .lst y => if x.length + y.length ≤ SZ then some (.tm (.lst (x ++ y))) else none
  | .tup x, .tup y => if x.length + y.length ≤ SZ then some (.fz (.tup (x ++ y))) else none
  | _, _ => none
def gSub : D → D → Option Op
  | .int i, .int j => some (.fz (.int (i - j)))
  | _, _ => none
def gMul : D → D → Option Op
  | .int i, .int j => if mulOk i j then some (.fz (.int (i * j))) else none
  | .lst x, .int k => if (-(2 ^ 63) ≤ k ∧ k < 2 ^ 63) ∧ x.length * k.toNat ≤ SZ then some (.tm (.lst (List.replicate k.toNat x).flatten)) else none
  | .tup x, .int k => if (x ≠ [] ∧ 2 ≤ k) ∧ k ≤ 1000 ∧ x.length ≤ 1000 then some (.fz (.tup (List.replicate k.toNat x).flatten)) else none
  | _, _ => none
def gFdiv : D → D → Option Op
  | .int i, .int j => if j ≠ 0 ∧ j.natAbs.log2 < 9000 then some (.fz (.int (i.fdiv j))) else none
  | _, _ => none
def gMod : D → D → Option Op
  | .int i, .int j => if j ≠ 0 then some (.fz (.int (i.fmod j))) else none
  | _, _ => none
def gPow : D → D → Option Op
  | .int i, .int j => if (0 ≤ j ∧ j ≤ 1000000) ∧ i.natAbs < 2 ^ 64 then some (.fz (.int (i ^ j.toNat))) else none
  | _, _ => none
def gShl : D → D → Option Op
  | .int i, .int j => if 0 ≤ j ∧ (i.natAbs.log2 + 1 : Int) + j ≤ 2 ^ 27 then some (.fz (.int (i * 2 ^ j.toNat))) else none
  | _, _ => none
def gShr : D → D → Option Op
  | .int i, .int j => if 0 ≤ j then some (.fz (.int (i / 2 ^ j.toNat))) else none
  | _, _ => none
def gNeg : D → Option Op
  | .int i => some (.fz (.int (-i)))
  | _ => none
/-- ints of a row -/
def intsD : List D → Option (List Int)
  | [] => some []
  | .int i :: r => match intsD r with
    | some ns => some (i :: ns)
    | none => none
  | _ :: _ => none
theorem intsD_map (ns : List Int) : intsD (ns.map D.int) = some ns := by
  induction ns with
  | nil => rfl
  | cons a r ih => simp [intsD, ih]
theorem intsD_eq : ∀ {ds : List D} {ns : List Int}, intsD ds = some ns → ds = ns.map D.int
  | [], _, h => by cases h; rfl
  | d :: r, ns, h => by
    unfold intsD at h
    cases d with
    | int i =>
      cases q : intsD r with
      | none => simp [q] at h
      | some ms => simp only [q] at h; cases h; rw [List.map_cons, ← intsD_eq q]
    | _ => simp at h
def lexLtI : List Int → List Int → Bool
  | [], [] => false
  | [], _ :: _ => true
  | _ :: _, [] => false
  | x :: xs, y :: ys => if x = y then lexLtI xs ys else decide (x < y)
def gLt : D → D → Option Op
  | .int i, .int j => some (.fz (.bl (decide (i < j))))
  | .str x, .str y => some (.fz (.bl (decide (x.cps.toList < y.cps.toList))))
  | .tup x, .tup y => match intsD x, intsD y with
    | some ns, some ms => some (.fz (.bl (lexLtI ns ms)))
    | _, _ => none
  | _, _ => none
def gLe : D → D → Option Op
  | .int i, .int j => some (.fz (.bl (decide (i ≤ j))))
  | _, _ => none
def gGt : D → D → Option Op
  | .int i, .int j => some (.fz (.bl (decide (j < i))))
  | _, _ => none
def gGe : D → D → Option Op
  | .int i, .int j => some (.fz (.bl (decide (j ≤ i))))
  | _, _ => none
def gIs : D → D → Option Op
  | .non, .non => some (.fz (.bl true))
  | .bl a, .bl b => some (.fz (.bl (a == b)))
  | _, .non => some (.fz (.bl false))
  | _, _ => none
def gIsNot : D → D → Option Op
  | .non, .non => some (.fz (.bl false))
  | .bl a, .bl b => some (.fz (.bl (!(a == b))))
  | _, .non => some (.fz (.bl true))
  | _, _ => none
/-! ### keys -/
def keyD : D → Option DK
  | .int i => some (.inl i)
  | .str x => some (.inr x)
  | _ => none
def keysD : List D → Option (List DK)
  | [] => some []
  | d :: r => match keyD d, keysD r with
    | some k, some ks => some (k :: ks)
    | _, _ => none
def valD {κ : Type} [DecidableEq κ] : List (κ × D) → κ → Option D
  | [], _ => none
  | (k, d) :: r, x => if k = x then some d else valD r x
def setD {κ : Type} [DecidableEq κ] (r : List (κ × D)) (x : κ) (e : D) : List (κ × D) := r.map fun p => if p.1 = x then (p.1, e) else p
def putD {κ : Type} [DecidableEq κ] : List (κ × D) → κ → D → List (κ × D)
  | [], x, e => [(x, e)]
  | (k, d) :: r, x, e => if k = x then (k, e) :: setD r x e else (k, d) :: putD r x e
/-- a dict's value at a key; none: no such dict or key form -/
def dget : D → D → Option (Option D)
  | .dct kvs, k => match keyD k with
    | some k => some (valD kvs k)
    | none => none
  | .dtt kvs, .tup ks => match keysD ks with
    | some ks => some (valD kvs ks)
    | none => none
  | _, _ => none
def flatD : D → Bool
  | .non => true
  | .bl _ => true
  | .int _ => true
  | .str _ => true
  | _ => false
def gIn (x : D) (y : D) : Option Op := match asS y with
  | some ys => if flatD x && ys.all flatD then some (.fz (.bl (ys.any fun z => eqD z x)))
    else match y with
      | .lst ys => if okD 64 x && okD 64 (.lst ys) then some (.fz (.bl (ys.any fun z => eqD z x))) else none
      | _ => none
  | none => match dget y x with
    | some o => some (.fz (.bl o.isSome))
    | none => none
def gNotIn (x : D) (y : D) : Option Op := match asS y with
  | some ys => if flatD x && ys.all flatD then some (.fz (.bl (!ys.any fun z => eqD z x)))
    else match y with
      | .lst ys => if okD 64 x && okD 64 (.lst ys) then some (.fz (.bl (!ys.any fun z => eqD z x))) else none
      | _ => none
  | none => match dget y x with
    | some o => some (.fz (.bl (!o.isSome)))
    | none => none
/-! ### places -/
def ixI (n : Nat) (i : Int) : Option Nat := if 0 ≤ i then (if i < n then some i.toNat else none) else if -(n : Int) ≤ i then some (i + n).toNat else none
def gIx : D → D → Option Op
  | .str x, .int i => if x.length ≤ SZ then (match ixI x.cps.toList.length i with
    | some j => match x.cps.toList[j]? with
      | some c => some (.fz (.str ⟨#[c]⟩))
      | none => none
    | none => none) else none
  | x, k => match asS x with
    | some xs => match k with
      | .int i => match ixI xs.length i with
        | some j => match xs[j]? with
          | some d => some (.fz d)
          | none => none
        | none => none
      | _ => none
    | none => match dget x k with
      | some (some d) => some (.fz d)
      | _ => none
def sI (n d : Nat) : Option Int → Nat
  | none => d
  | some v => (if v < 0 then max (v + (n : Int)) 0 else min v (n : Int)).toNat
def cutD {α : Type} (xs : List α) (lo hi : Option Int) : List α := (xs.drop (sI xs.length 0 lo)).take (sI xs.length xs.length hi - sI xs.length 0 lo)
end DL
namespace DL
open PySem
inductive TyN where
  | bool | int | str | list | tuple | dict
def isD : TyN → D → Bool
  | .bool, .bl _ => true
  | .int, .bl _ => true
  | .int, .int _ => true
  | .str, .str _ => true
  | .list, .lst _ => true
  | .list, .kls _ => true
  | .tuple, .tup _ => true
  | .tuple, .ktp _ => true
  | .dict, .dct _ => true
  | .dict, .dtt _ => true
  | _, _ => false
def eIsi (t : TyN) (a : E) : E := eUn (fun d => some (.fz (.bl (isD t d)))) a
/-- a chain of comparisons behind its first operand -/
abbrev Ch := Op → Ev → EOut
def chLast (g : D → D → Option Op) (b : E) : Ch := fun o r => match b r with
  | .ok p r1 => match rsv r1 o, rsv r1 p with
    | some x, some y => match g x y with
      | some z => .ok z r1
      | none => .bad
    | _, _ => .bad
  | .err c r1 => .err c r1
  | .bad => .bad
def chLink (g : D → D → Option Op) (b : E) (k : Ch) : Ch := fun o r => match b r with
  | .ok p r1 => match rsv r1 o, rsv r1 p with
    | some x, some y => match g x y with
      | some (.fz (.bl true)) => k p r1
      | some (.fz (.bl false)) => .ok (.fz (.bl false)) r1
      | _ => .bad
    | _, _ => .bad
  | .err c r1 => .err c r1
  | .bad => .bad
def eCh (a : E) (k : Ch) : E := fun r => match a r with
  | .ok o r1 => k o r1
  | .err c r1 => .err c r1
  | .bad => .bad
def eNotE (a : E) : E := fun r => match tTru a r with
  | .ok b r1 => .ok (.fz (.bl (!b))) r1
  | .err c r1 => .err c r1
  | .bad => .bad
/-! ### built-ins by their operands -/
def gLen : List D → Option Op
  | [.str x] => if x.length ≤ SZ then some (.fz (.int x.length)) else none
  | [.dct kvs] => some (.fz (.int kvs.length))
  | [d] => match asS d with
    | some xs => some (.fz (.int xs.length))
    | none => none
  | _ => none
def gAbs : List D → Option Op
  | [.int i] => some (.fz (.int (if i < 0 then -i else i)))
  | _ => none
def gInt : List D → Option Op
  | [.int i] => some (.fz (.int i))
  | [.bl b] => some (.fz (.int (if b then 1 else 0)))
  | _ => none
def gMax2 : List D → Option Op
  | [.int m, .int n] => some (.fz (.int (if m < n then n else m)))
  | _ => none
def gMin2 : List D → Option Op
  | [.int m, .int n] => some (.fz (.int (if n < m then n else m)))
  | _ => none
def gList : List D → Option Op
  | [d] => match asS d with
    | some xs => some (.tm (.lst xs))
    | none => none
  | _ => none
def gTuple : List D → Option Op
  | [.tup xs] => some (.fz (.tup xs))
  | [.ktp xs] => some (.fz (.ktp xs))
  | [.lst xs] => some (.fz (.tup xs))
  | [.kls xs] => some (.fz (.tup xs))
  | _ => none
def gSum : List D → Option Op
  | [.lst xs] => match intsD xs with
    | some ns => some (.fz (.int ns.sum))
    | none => none
  | _ => none
def maxI : List Int → Option Int
  | [] => none
  | x :: r => some (r.foldl (fun a b => if a < b then b else a) x)
def minI : List Int → Option Int
  | [] => none
  | x :: r => some (r.foldl (fun a b => if b < a then b else a) x)
def gMaxL : List D → Option Op
  | [.lst xs] => match intsD xs with
    | some ns => match maxI ns with
      | some m => some (.fz (.int m))
      | none => none
    | none => none
  | _ => none
def gMinL : List D → Option Op
  | [.lst xs] => match intsD xs with
    | some ns => match minI ns with
      | some m => some (.fz (.int m))
      | none => none
    | none => none
  | _ => none
def blsD : List D → Option (List Bool)
  | [] => some []
  | .bl b :: r => match blsD r with
    | some bs => some (b :: bs)
    | none => none
  | _ :: _ => none
def gAll : List D → Option Op
  | [.lst xs] => match blsD xs with
    | some bs => some (.fz (.bl (bs.all id)))
    | none => none
  | _ => none
def gAny : List D → Option Op
  | [.lst xs] => match blsD xs with
    | some bs => some (.fz (.bl (bs.any id)))
    | none => none
  | _ => none
/-- an ascending row -/
def insI (x : Int) : List Int → List Int
  | [] => [x]
  | y :: r => if x ≤ y then x :: y :: r else y :: insI x r
def sortI : List Int → List Int
  | [] => []
  | x :: r => insI x (sortI r)
def gSorted : List D → Option Op
  | [.lst xs] => match intsD xs with
    | some ns => some (.tm (.lst ((sortI ns).map .int)))
    | none => none
  | _ => none
/-- a part of a slice: an int or left out -/
inductive POut where
  | ok (i : Option Int) (r : Ev) | err (c : Str) (r : Ev) | bad
abbrev P := Ev → POut
def pNo : P := fun r => .ok none r
def pSome (a : E) : P := fun r => match a r with
  | .ok (.fz (.int i)) r1 => .ok (some i) r1
  | .ok _ _ => .bad
  | .err c r1 => .err c r1
  | .bad => .bad
def gSlice (d : D) (lo hi : Option Int) : Option Op := match d with
  | .lst xs => some (.tm (.lst (cutD xs lo hi)))
  | .kls xs => some (.tm (.lst (cutD xs lo hi)))
  | .tup xs => some (.fz (.tup (cutD xs lo hi)))
  | .str x => if x.length ≤ SZ then some (.fz (.str ⟨(cutD x.cps.toList lo hi).toArray⟩)) else none
  | _ => none
def eSlice (a : E) (lo hi : P) : E := fun r => match a r with
  | .ok o r1 => match lo r1 with
    | .ok l r2 => match hi r2 with
      | .ok h r3 => match rsv r3 o with
        | some d => match gSlice d l h with
          | some z => .ok z r3
          | none => .bad
        | none => .bad
      | .err c r3 => .err c r3
      | .bad => .bad
    | .err c r2 => .err c r2
    | .bad => .bad
  | .err c r1 => .err c r1
  | .bad => .bad
/-! ### lists and dicts changed -/
def gAppend : D → List D → Option (D × Op)
  | .lst xs, [d] => if xs.length < SZ then some (.lst (xs ++ [d]), .fz .non) else none
  | _, _ => none
def gPop : D → List D → Option (D × Op)
  | .lst xs, [] => match xs[xs.length - 1]? with
    | some d => some (.lst xs.dropLast, .fz d)
    | none => none
  | _, _ => none
def gPopAt : D → List D → Option (D × Op)
  | .lst xs, [.int i] => if 0 ≤ i ∧ i < 2 ^ 62 then (match xs[i.toNat]? with
    | some d => some (.lst (xs.eraseIdx i.toNat), .fz d)
    | none => none) else none
  | _, _ => none
def gExtend : D → List D → Option (D × Op)
  | .lst xs, [.lst ys] => if xs.length + ys.length ≤ SZ then some (.lst (xs ++ ys), .fz .non) else none
  | _, _ => none
/-- x[k] = v -/
def gSet : D → D → D → Option D
  | .lst xs, .int i, v => match ixI xs.length i with
    | some j => some (.lst (xs.set j v))
    | none => none
  | .dct kvs, k, v => match keyD k with
    | some k => if kvs.length < SZ then some (.dct (putD kvs k v)) else none
    | none => none
  | .dtt kvs, .tup ks, v => match keysD ks with
    | some k => if kvs.length < SZ then some (.dtt (putD kvs k v)) else none
    | none => none
  | _, _, _ => none
def gIAdd : D → D → Option Op
  | .int i, .int j => some (.fz (.int (i + j)))
  | .str x, .str y => if x.length + y.length ≤ SZ then some (.fz (.str (x ++ y))) else none
  | _, _ => none
def gIMul : D → D → Option Op
  | .int i, .int j => if mulOk i j then some (.fz (.int (i * j))) else none
  | _, _ => none
/-- only True, False as a test's value -/
def tBl (a : E) : T := fun r => match a r with
  | .ok (.fz (.bl b)) r1 => .ok b r1
  | .ok _ _ => .bad
  | .err c r1 => .err c r1
  | .bad => .bad
/-- max, min of two numbers or of a row of them -/
def gMax (ds : List D) : Option Op := match ds with
  | [_, _] => gMax2 ds
  | _ => gMaxL ds
def gMin (ds : List D) : Option Op := match ds with
  | [_, _] => gMin2 ds
  | _ => gMinL ds
/-- greatest common divisor -/
def gGcd : List D → Option Op
  | [.int a, .int b] => some (.fz (.int ((Nat.gcd a.natAbs b.natAbs : Nat) : Int)))
  | _ => none
/-- try, with one except clause; sub tells whether a raised class is caught; the suite knows which it was -/
def sTry (sub : Str → Option Bool) (b : S) (h : Str → S) : S := fun r => match b r with
  | .err c r1 => match sub c with
    | some true => match h c r1 with
      | .err _ _ => .bad
      | x => x
    | some false => .err c r1
    | none => .bad
  | x => x
end DL

section
set_option Elab.async false
set_option linter.all false
set_option maxRecDepth 100000
set_option autoImplicit false
/-! DE: == and != of an empty dict and of values of other kinds. -/
namespace DE
open PySem PySem.Spec PyProof.Rows PySem.SeqAt PySem.W

theorem dict_eq_dec {prog : Program} {w : World} {A : Around} {E Q : Value → Shared → Prop} {s : Shared} {l : Addr} {x : Value} {T : String} {nm : Str} (sl : Slot "dict" nm "dict.__eq__") (hD : s.TypeIs (.ref l) "dict") (hT : s.TypeIs x T) (hs : isSubtype (.type T) (.type "dict") = pure false) (hq : Q .notImplemented s) :
    wpAny (model prog w) A (call (.builtin "dict.__eq__") [.ref l, x]) Q E s := by
  refine wpAny_call_entry sl hD PySem.F.entry_dict_eq ?_ (PySem.F.args_dict_eq_2 _ _)
  show wpAny _ _ (Builtin.Dict.dictSlotArgs "__eq__" ⟨[.ref l, x], []⟩ >>= _) _ _ s
  refine wpAny_bind ?_
  unfold Builtin.Dict.dictSlotArgs
  refine wpAny_bind (wpAny_notOrdered_dict hD ?_)
  show wpAny _ _ (pure (Value.ref l, x)) _ _ s
  refine wpAny_pure ?_
  refine wpAny_bind (wpAny_isInstance (T := T) hT hs ?_)
  simp only [Bool.not_false, if_true]

  exact wpAny_bind (wpAny_rule (wpAny_pure ⟨_, rfl, hq⟩))
theorem int_eq_dict_bool (b : Bool) (l : Addr) (c : Value) (es : Array DictEntry) (n : Nat) (dd : Option Addr) (sl : Array (Option Value)) :
    Meets (Builtin.«int.__eq__» ⟨[.bool b, .ref l], []⟩) (fun _ R s => s.heap.get? l = some { cls := c, dict := dd, data := .dict es n, slots := sl } ∧ R (.ok (.ret .notImplemented)) s) :=
  .of_wp fun prog w A R s h => by obtain ⟨hp, g, d, tk, os⟩ := s; obtain ⟨hl, h⟩ := h; wp_walk using wpAny_loadPart' hl, wpAny_load hl; exact ⟨_, rfl, h⟩
theorem int_eq_dict_int (b : Int) (u : Tok) (l : Addr) (c : Value) (es : Array DictEntry) (n : Nat) (dd : Option Addr) (sl : Array (Option Value)) :
    Meets (Builtin.«int.__eq__» ⟨[.int b u, .ref l], []⟩) (fun _ R s => s.heap.get? l = some { cls := c, dict := dd, data := .dict es n, slots := sl } ∧ R (.ok (.ret .notImplemented)) s) :=
  .of_wp fun prog w A R s h => by obtain ⟨hp, g, d, tk, os⟩ := s; obtain ⟨hl, h⟩ := h; wp_walk using wpAny_loadPart' hl, wpAny_load hl; exact ⟨_, rfl, h⟩
theorem str_eq_dict_str (b : Str) (u : Tok) (l : Addr) (c : Value) (es : Array DictEntry) (n : Nat) (dd : Option Addr) (sl : Array (Option Value)) :
    Meets (Builtin.«str.__eq__» ⟨[.str b u, .ref l], []⟩) (fun _ R s => s.heap.get? l = some { cls := c, dict := dd, data := .dict es n, slots := sl } ∧ R (.ok (.ret .notImplemented)) s) :=
  .of_wp fun prog w A R s h => by obtain ⟨hp, g, d, tk, os⟩ := s; obtain ⟨hl, h⟩ := h; wp_walk using wpAny_loadPart' hl, wpAny_load hl; exact ⟨_, rfl, h⟩
theorem list_eq_dict (l b : Addr) (items : Array Value) (es : Array DictEntry) (n n2 : Nat) (dd dd2 : Option Addr) (sl sl2 : Array (Option Value)) :
    Meets (Builtin.«list.__eq__» ⟨[.ref l, .ref b], []⟩) (fun _ R s => s.heap.get? l = some { cls := .type "list", dict := dd, data := .seq items n, slots := sl } ∧ s.heap.get? b = some { cls := .type "dict", dict := dd2, data := .dict es n2, slots := sl2 } ∧ R (.ok (.ret .notImplemented)) s) :=
  .of_wp fun prog w A R s h => by obtain ⟨hp, g, d, tk, os⟩ := s; obtain ⟨hl, hb, h⟩ := h; have f1 := F.sub_dict_list; wp_walk using wpAny_loadPart' hl, wpAny_loadPart' hb; exact ⟨_, rfl, h⟩
theorem tuple_eq_dict (l b : Addr) (items : Array Value) (es : Array DictEntry) (n n2 : Nat) (dd dd2 : Option Addr) (sl sl2 : Array (Option Value)) :
    Meets (Builtin.«tuple.__eq__» ⟨[.ref l, .ref b], []⟩) (fun _ R s => s.heap.get? l = some { cls := .type "tuple", dict := dd, data := .seq items n, slots := sl } ∧ s.heap.get? b = some { cls := .type "dict", dict := dd2, data := .dict es n2, slots := sl2 } ∧ R (.ok (.ret .notImplemented)) s) :=
  .of_wp fun prog w A R s h => by obtain ⟨hp, g, d, tk, os⟩ := s; obtain ⟨hl, hb, h⟩ := h; have f1 := F.sub_dict_tuple; wp_walk using wpAny_loadPart' hl, wpAny_loadPart' hb; exact ⟨_, rfl, h⟩
theorem dict_ne_dec {prog : Program} {w : World} {A : Around} {E Q : Value → Shared → Prop} {s : Shared} {l : Addr} {x : Value} {T : String} {nm : Str} (sl : Slot "dict" nm "dict.__ne__") (hD : s.TypeIs (.ref l) "dict") (hT : s.TypeIs x T) (hs : isSubtype (.type T) (.type "dict") = pure false) (hq : Q .notImplemented s) :
    wpAny (model prog w) A (call (.builtin "dict.__ne__") [.ref l, x]) Q E s := by
  refine wpAny_call_entry sl hD PySem.F.entry_dict_ne ?_ (PySem.F.args_dict_ne_2 _ _)
  show wpAny _ _ (Builtin.Dict.dictSlotArgs "__ne__" ⟨[.ref l, x], []⟩ >>= _) _ _ s
  refine wpAny_bind ?_
  unfold Builtin.Dict.dictSlotArgs
  refine wpAny_bind (wpAny_notOrdered_dict hD ?_)
  show wpAny _ _ (pure (Value.ref l, x)) _ _ s
  refine wpAny_pure ?_
  refine wpAny_bind (wpAny_isInstance (T := T) hT hs ?_)
  simp only [Bool.not_false, if_true]

  exact wpAny_bind (wpAny_rule (wpAny_pure ⟨_, rfl, hq⟩))
theorem int_ne_dict_bool (b : Bool) (l : Addr) (c : Value) (es : Array DictEntry) (n : Nat) (dd : Option Addr) (sl : Array (Option Value)) :
    Meets (Builtin.«int.__ne__» ⟨[.bool b, .ref l], []⟩) (fun _ R s => s.heap.get? l = some { cls := c, dict := dd, data := .dict es n, slots := sl } ∧ R (.ok (.ret .notImplemented)) s) :=
  .of_wp fun prog w A R s h => by obtain ⟨hp, g, d, tk, os⟩ := s; obtain ⟨hl, h⟩ := h; wp_walk using wpAny_loadPart' hl, wpAny_load hl; exact ⟨_, rfl, h⟩
theorem int_ne_dict_int (b : Int) (u : Tok) (l : Addr) (c : Value) (es : Array DictEntry) (n : Nat) (dd : Option Addr) (sl : Array (Option Value)) :
    Meets (Builtin.«int.__ne__» ⟨[.int b u, .ref l], []⟩) (fun _ R s => s.heap.get? l = some { cls := c, dict := dd, data := .dict es n, slots := sl } ∧ R (.ok (.ret .notImplemented)) s) :=
  .of_wp fun prog w A R s h => by obtain ⟨hp, g, d, tk, os⟩ := s; obtain ⟨hl, h⟩ := h; wp_walk using wpAny_loadPart' hl, wpAny_load hl; exact ⟨_, rfl, h⟩
theorem str_ne_dict_str (b : Str) (u : Tok) (l : Addr) (c : Value) (es : Array DictEntry) (n : Nat) (dd : Option Addr) (sl : Array (Option Value)) :
    Meets (Builtin.«str.__ne__» ⟨[.str b u, .ref l], []⟩) (fun _ R s => s.heap.get? l = some { cls := c, dict := dd, data := .dict es n, slots := sl } ∧ R (.ok (.ret .notImplemented)) s) :=
  .of_wp fun prog w A R s h => by obtain ⟨hp, g, d, tk, os⟩ := s; obtain ⟨hl, h⟩ := h; wp_walk using wpAny_loadPart' hl, wpAny_load hl; exact ⟨_, rfl, h⟩
theorem list_ne_dict (l b : Addr) (items : Array Value) (es : Array DictEntry) (n n2 : Nat) (dd dd2 : Option Addr) (sl sl2 : Array (Option Value)) :
    Meets (Builtin.«list.__ne__» ⟨[.ref l, .ref b], []⟩) (fun _ R s => s.heap.get? l = some { cls := .type "list", dict := dd, data := .seq items n, slots := sl } ∧ s.heap.get? b = some { cls := .type "dict", dict := dd2, data := .dict es n2, slots := sl2 } ∧ R (.ok (.ret .notImplemented)) s) :=
  .of_wp fun prog w A R s h => by obtain ⟨hp, g, d, tk, os⟩ := s; obtain ⟨hl, hb, h⟩ := h; have f1 := F.sub_dict_list; wp_walk using wpAny_loadPart' hl, wpAny_loadPart' hb; exact ⟨_, rfl, h⟩
theorem tuple_ne_dict (l b : Addr) (items : Array Value) (es : Array DictEntry) (n n2 : Nat) (dd dd2 : Option Addr) (sl sl2 : Array (Option Value)) :
    Meets (Builtin.«tuple.__ne__» ⟨[.ref l, .ref b], []⟩) (fun _ R s => s.heap.get? l = some { cls := .type "tuple", dict := dd, data := .seq items n, slots := sl } ∧ s.heap.get? b = some { cls := .type "dict", dict := dd2, data := .dict es n2, slots := sl2 } ∧ R (.ok (.ret .notImplemented)) s) :=
  .of_wp fun prog w A R s h => by obtain ⟨hp, g, d, tk, os⟩ := s; obtain ⟨hl, hb, h⟩ := h; have f1 := F.sub_dict_tuple; wp_walk using wpAny_loadPart' hl, wpAny_loadPart' hb; exact ⟨_, rfl, h⟩
/-- an empty dict of the plain kind -/
def EmptyD (h : Heap) (a : Addr) : Prop := ∃ (o : Obj) (ep : Nat), h.get? a = some o ∧ o.ExactDict ∧ o.data = .dict #[] ep
section
variable {A : Around} {s : Shared}
theorem EmptyD.ne {l b : Addr} {o : Obj} {T : String} (hl : EmptyD s.heap l) (hb : s.heap.get? b = some o) (hc : o.cls = .type T) (hT : T ≠ "dict") : l ≠ b := fun e => by
  subst e
  obtain ⟨o2, _, ho, ⟨h1, _, _⟩, _⟩ := hl
  rw [ho] at hb
  cases hb
  rw [h1] at hc
  cases hc
  exact hT rfl
theorem EmptyD.dictOf {K : Type} [DecidableEq K] {prog : Program} {w : World} (knd : KeyKind prog w K) {a : Addr} (h : EmptyD s.heap a) : s.heap.DictOf knd a [] := by
  obtain ⟨o, ep, h1, h2, h3⟩ := h
  exact ⟨o, #[], ep, h1, h2, h3, fun _ he => by simp at he, Pairs.nil, List.nodup_nil⟩
theorem RcAt.dict_none {l : Addr} (hl : EmptyD s.heap l) (hu : A.units < cLine) : RcAt A s (.ref l) (.none) false := fun prog w E Q h => by
  obtain ⟨⟨cls, dd, data, sl⟩, n, ho, ⟨hc, _, _⟩, hd⟩ := id hl
  simp only at hc hd
  subst hc hd
  exact rc_eq_decline_or (k := false) ⟨_, ho, rfl⟩ rfl (by decide) F.sub_NoneType_dict F.slot_dict_eq F.slot_NoneType_eq_refl
    (fun _ hq => dict_eq_dec F.slot_dict_eq ⟨_, ho, rfl⟩ rfl F.sub_NoneType_dict hq)
    (fun _ hq => call_gives F.slot_NoneType_eq_refl rfl F.entry_NoneType_eq (F.args_NoneType_eq_2 _ _) (NoneType___eq___none_ref_0 l) hq)
    (fun _ hq => wpAny_of_eq (rfl : isSame (.ref l) (.none) = pure false) hq) (.inr hu) h
theorem RcAt.none_dict {l : Addr} (hl : EmptyD s.heap l) (hu : A.units < cLine) : RcAt A s (.none) (.ref l) false := fun prog w E Q h => by
  obtain ⟨⟨cls, dd, data, sl⟩, n, ho, ⟨hc, _, _⟩, hd⟩ := id hl
  simp only at hc hd
  subst hc hd
  exact rc_eq_decline_or (k := false) rfl ⟨_, ho, rfl⟩ (by decide) F.sub_dict_NoneType F.slot_NoneType_eq F.slot_dict_eq_refl
    (fun _ hq => call_gives F.slot_NoneType_eq rfl F.entry_NoneType_eq (F.args_NoneType_eq_2 _ _) (NoneType___eq___none_ref_0 l) hq)
    (fun _ hq => dict_eq_dec F.slot_dict_eq_refl ⟨_, ho, rfl⟩ rfl F.sub_NoneType_dict hq)
    (fun _ hq => wpAny_of_eq (rfl : isSame (.none) (.ref l) = pure false) hq) (.inr hu) h
theorem EqAt.dict_none {l : Addr} (hl : EmptyD s.heap l) (hu : A.units < cLine) : EqAt A s (.ref l) (.none) false := fun prog w E Q h => by
  unfold eqBool
  refine wpAny_holding ?_
  refine wpAny_ite_split (fun hab => absurd (eq_of_beq hab) nofun) (fun _ => ?_)
  exact wpAny_bind (RcAt.dict_none hl hu prog w E _ (wpAny_truthy_bool h))
theorem EqAt.none_dict {l : Addr} (hl : EmptyD s.heap l) (hu : A.units < cLine) : EqAt A s (.none) (.ref l) false := fun prog w E Q h => by
  unfold eqBool
  refine wpAny_holding ?_
  refine wpAny_ite_split (fun hab => absurd (eq_of_beq hab) nofun) (fun _ => ?_)
  exact wpAny_bind (RcAt.none_dict hl hu prog w E _ (wpAny_truthy_bool h))
theorem RcAt.dict_bool {l : Addr} (b : Bool) (hl : EmptyD s.heap l) (hu : A.units < cLine) : RcAt A s (.ref l) (.bool b) false := fun prog w E Q h => by
  obtain ⟨⟨cls, dd, data, sl⟩, n, ho, ⟨hc, _, _⟩, hd⟩ := id hl
  simp only at hc hd
  subst hc hd
  exact rc_eq_decline_or (k := false) ⟨_, ho, rfl⟩ rfl (by decide) F.sub_bool_dict F.slot_dict_eq F.slot_bool_eq_refl
    (fun _ hq => dict_eq_dec F.slot_dict_eq ⟨_, ho, rfl⟩ rfl F.sub_bool_dict hq)
    (fun _ hq => call_meets F.slot_bool_eq_refl rfl F.entry_int_eq (F.args_int_eq_2 _ _) (int_eq_dict_bool b l (.type "dict") #[] n dd sl) ⟨ho, hq⟩)
    (fun _ hq => wpAny_of_eq (rfl : isSame (.ref l) (.bool b) = pure false) hq) (.inr hu) h
theorem RcAt.bool_dict {l : Addr} (b : Bool) (hl : EmptyD s.heap l) (hu : A.units < cLine) : RcAt A s (.bool b) (.ref l) false := fun prog w E Q h => by
  obtain ⟨⟨cls, dd, data, sl⟩, n, ho, ⟨hc, _, _⟩, hd⟩ := id hl
  simp only at hc hd
  subst hc hd
  exact rc_eq_decline_or (k := false) rfl ⟨_, ho, rfl⟩ (by decide) F.sub_dict_bool F.slot_bool_eq F.slot_dict_eq_refl
    (fun _ hq => call_meets F.slot_bool_eq rfl F.entry_int_eq (F.args_int_eq_2 _ _) (int_eq_dict_bool b l (.type "dict") #[] n dd sl) ⟨ho, hq⟩)
    (fun _ hq => dict_eq_dec F.slot_dict_eq_refl ⟨_, ho, rfl⟩ rfl F.sub_bool_dict hq)
    (fun _ hq => wpAny_of_eq (rfl : isSame (.bool b) (.ref l) = pure false) hq) (.inr hu) h
theorem EqAt.dict_bool {l : Addr} (b : Bool) (hl : EmptyD s.heap l) (hu : A.units < cLine) : EqAt A s (.ref l) (.bool b) false := fun prog w E Q h => by
  unfold eqBool
  refine wpAny_holding ?_
  refine wpAny_ite_split (fun hab => absurd (eq_of_beq hab) nofun) (fun _ => ?_)
  exact wpAny_bind (RcAt.dict_bool b hl hu prog w E _ (wpAny_truthy_bool h))
theorem EqAt.bool_dict {l : Addr} (b : Bool) (hl : EmptyD s.heap l) (hu : A.units < cLine) : EqAt A s (.bool b) (.ref l) false := fun prog w E Q h => by
  unfold eqBool
  refine wpAny_holding ?_
  refine wpAny_ite_split (fun hab => absurd (eq_of_beq hab) nofun) (fun _ => ?_)
  exact wpAny_bind (RcAt.bool_dict b hl hu prog w E _ (wpAny_truthy_bool h))
theorem RcAt.dict_int {l : Addr} (b : Int) (u : Tok) (hl : EmptyD s.heap l) (hu : A.units < cLine) : RcAt A s (.ref l) (.int b u) false := fun prog w E Q h => by
  obtain ⟨⟨cls, dd, data, sl⟩, n, ho, ⟨hc, _, _⟩, hd⟩ := id hl
  simp only at hc hd
  subst hc hd
  exact rc_eq_decline_or (k := false) ⟨_, ho, rfl⟩ (typeIs_int s b u) (by decide) F.sub_int_dict F.slot_dict_eq F.slot_int_eq_refl
    (fun _ hq => dict_eq_dec F.slot_dict_eq ⟨_, ho, rfl⟩ (typeIs_int s b u) F.sub_int_dict hq)
    (fun _ hq => call_meets F.slot_int_eq_refl (typeIs_int s b u) F.entry_int_eq (F.args_int_eq_2 _ _) (int_eq_dict_int b u l (.type "dict") #[] n dd sl) ⟨ho, hq⟩)
    (fun _ hq => wpAny_of_eq (rfl : isSame (.ref l) (.int b u) = pure false) hq) (.inr hu) h
theorem RcAt.int_dict {l : Addr} (b : Int) (u : Tok) (hl : EmptyD s.heap l) (hu : A.units < cLine) : RcAt A s (.int b u) (.ref l) false := fun prog w E Q h => by
  obtain ⟨⟨cls, dd, data, sl⟩, n, ho, ⟨hc, _, _⟩, hd⟩ := id hl
  simp only at hc hd
  subst hc hd
  exact rc_eq_decline_or (k := false) (typeIs_int s b u) ⟨_, ho, rfl⟩ (by decide) F.sub_dict_int F.slot_int_eq F.slot_dict_eq_refl
    (fun _ hq => call_meets F.slot_int_eq (typeIs_int s b u) F.entry_int_eq (F.args_int_eq_2 _ _) (int_eq_dict_int b u l (.type "dict") #[] n dd sl) ⟨ho, hq⟩)
    (fun _ hq => dict_eq_dec F.slot_dict_eq_refl ⟨_, ho, rfl⟩ (typeIs_int s b u) F.sub_int_dict hq)
    (fun _ hq => wpAny_of_eq (rfl : isSame (.int b u) (.ref l) = pure false) hq) (.inr hu) h
theorem EqAt.dict_int {l : Addr} (b : Int) (u : Tok) (hl : EmptyD s.heap l) (hu : A.units < cLine) : EqAt A s (.ref l) (.int b u) false := fun prog w E Q h => by
  unfold eqBool
  refine wpAny_holding ?_
  refine wpAny_ite_split (fun hab => absurd (eq_of_beq hab) nofun) (fun _ => ?_)
  exact wpAny_bind (RcAt.dict_int b u hl hu prog w E _ (wpAny_truthy_bool h))
theorem EqAt.int_dict {l : Addr} (b : Int) (u : Tok) (hl : EmptyD s.heap l) (hu : A.units < cLine) : EqAt A s (.int b u) (.ref l) false := fun prog w E Q h => by
  unfold eqBool
  refine wpAny_holding ?_
  refine wpAny_ite_split (fun hab => absurd (eq_of_beq hab) nofun) (fun _ => ?_)
  exact wpAny_bind (RcAt.int_dict b u hl hu prog w E _ (wpAny_truthy_bool h))
theorem RcAt.dict_str {l : Addr} (b : Str) (u : Tok) (hl : EmptyD s.heap l) (hu : A.units < cLine) : RcAt A s (.ref l) (.str b u) false := fun prog w E Q h => by
  obtain ⟨⟨cls, dd, data, sl⟩, n, ho, ⟨hc, _, _⟩, hd⟩ := id hl
  simp only at hc hd
  subst hc hd
  exact rc_eq_decline_or (k := false) ⟨_, ho, rfl⟩ (typeIs_str s b u) (by decide) F.sub_str_dict F.slot_dict_eq F.slot_str_eq_refl
    (fun _ hq => dict_eq_dec F.slot_dict_eq ⟨_, ho, rfl⟩ (typeIs_str s b u) F.sub_str_dict hq)
    (fun _ hq => call_meets F.slot_str_eq_refl (typeIs_str s b u) F.entry_str_eq (F.args_str_eq_2 _ _) (str_eq_dict_str b u l (.type "dict") #[] n dd sl) ⟨ho, hq⟩)
    (fun _ hq => wpAny_of_eq (rfl : isSame (.ref l) (.str b u) = pure false) hq) (.inr hu) h
theorem RcAt.str_dict {l : Addr} (b : Str) (u : Tok) (hl : EmptyD s.heap l) (hu : A.units < cLine) : RcAt A s (.str b u) (.ref l) false := fun prog w E Q h => by
  obtain ⟨⟨cls, dd, data, sl⟩, n, ho, ⟨hc, _, _⟩, hd⟩ := id hl
  simp only at hc hd
  subst hc hd
  exact rc_eq_decline_or (k := false) (typeIs_str s b u) ⟨_, ho, rfl⟩ (by decide) F.sub_dict_str F.slot_str_eq F.slot_dict_eq_refl
    (fun _ hq => call_meets F.slot_str_eq (typeIs_str s b u) F.entry_str_eq (F.args_str_eq_2 _ _) (str_eq_dict_str b u l (.type "dict") #[] n dd sl) ⟨ho, hq⟩)
    (fun _ hq => dict_eq_dec F.slot_dict_eq_refl ⟨_, ho, rfl⟩ (typeIs_str s b u) F.sub_str_dict hq)
    (fun _ hq => wpAny_of_eq (rfl : isSame (.str b u) (.ref l) = pure false) hq) (.inr hu) h
theorem EqAt.dict_str {l : Addr} (b : Str) (u : Tok) (hl : EmptyD s.heap l) (hu : A.units < cLine) : EqAt A s (.ref l) (.str b u) false := fun prog w E Q h => by
  unfold eqBool
  refine wpAny_holding ?_
  refine wpAny_ite_split (fun hab => absurd (eq_of_beq hab) nofun) (fun _ => ?_)
  exact wpAny_bind (RcAt.dict_str b u hl hu prog w E _ (wpAny_truthy_bool h))
theorem EqAt.str_dict {l : Addr} (b : Str) (u : Tok) (hl : EmptyD s.heap l) (hu : A.units < cLine) : EqAt A s (.str b u) (.ref l) false := fun prog w E Q h => by
  unfold eqBool
  refine wpAny_holding ?_
  refine wpAny_ite_split (fun hab => absurd (eq_of_beq hab) nofun) (fun _ => ?_)
  exact wpAny_bind (RcAt.str_dict b u hl hu prog w E _ (wpAny_truthy_bool h))
theorem RcAt.dict_list {l b : Addr} {items : Array Value} (hl : EmptyD s.heap l) (hb : s.heap.IsList b items) (hu : A.units < cLine) : RcAt A s (.ref l) (.ref b) false := fun prog w E Q h => by
  obtain ⟨⟨cls2, dd2, data2, sl2⟩, ho2, hc2, n2, hd2⟩ := id hb
  have hne : l ≠ b := hl.ne ho2 hc2 (by decide)
  obtain ⟨⟨cls, dd, data, sl⟩, n, ho, ⟨hc, _, _⟩, hd⟩ := id hl
  simp only at hc hd hc2 hd2
  subst hc hd hc2 hd2
  exact rc_eq_decline_or (k := false) ⟨_, ho, rfl⟩ ⟨_, ho2, rfl⟩ (by decide) F.sub_list_dict F.slot_dict_eq F.slot_list_eq_refl
    (fun _ hq => dict_eq_dec F.slot_dict_eq ⟨_, ho, rfl⟩ ⟨_, ho2, rfl⟩ F.sub_list_dict hq)
    (fun _ hq => call_meets F.slot_list_eq_refl ⟨_, ho2, rfl⟩ F.entry_list_eq (F.args_list_eq_2 _ _) (list_eq_dict b l items #[] n2 n dd2 dd sl2 sl) ⟨ho2, ho, hq⟩)
    (fun _ hq => by exact wpAny_isSame_ref_other hne ho ho2 (by simp) hq) (.inr hu) h
theorem RcAt.list_dict {l b : Addr} {items : Array Value} (hl : EmptyD s.heap l) (hb : s.heap.IsList b items) (hu : A.units < cLine) : RcAt A s (.ref b) (.ref l) false := fun prog w E Q h => by
  obtain ⟨⟨cls2, dd2, data2, sl2⟩, ho2, hc2, n2, hd2⟩ := id hb
  have hne : l ≠ b := hl.ne ho2 hc2 (by decide)
  obtain ⟨⟨cls, dd, data, sl⟩, n, ho, ⟨hc, _, _⟩, hd⟩ := id hl
  simp only at hc hd hc2 hd2
  subst hc hd hc2 hd2
  exact rc_eq_decline_or (k := false) ⟨_, ho2, rfl⟩ ⟨_, ho, rfl⟩ (by decide) F.sub_dict_list F.slot_list_eq F.slot_dict_eq_refl
    (fun _ hq => call_meets F.slot_list_eq ⟨_, ho2, rfl⟩ F.entry_list_eq (F.args_list_eq_2 _ _) (list_eq_dict b l items #[] n2 n dd2 dd sl2 sl) ⟨ho2, ho, hq⟩)
    (fun _ hq => dict_eq_dec F.slot_dict_eq_refl ⟨_, ho, rfl⟩ ⟨_, ho2, rfl⟩ F.sub_list_dict hq)
    (fun _ hq => by exact wpAny_isSame_ref_other' hne.symm ho2 ho (by simp) hq) (.inr hu) h
theorem EqAt.dict_list {l b : Addr} {items : Array Value} (hl : EmptyD s.heap l) (hb : s.heap.IsList b items) (hu : A.units < cLine) : EqAt A s (.ref l) (.ref b) false := by
  have hne : l ≠ b := by obtain ⟨_, ho2, hc2, _⟩ := id hb; exact hl.ne ho2 hc2 (by decide)
  exact .of_refs hne (RcAt.dict_list hl hb hu)
theorem EqAt.list_dict {l b : Addr} {items : Array Value} (hl : EmptyD s.heap l) (hb : s.heap.IsList b items) (hu : A.units < cLine) : EqAt A s (.ref b) (.ref l) false := by
  have hne : l ≠ b := by obtain ⟨_, ho2, hc2, _⟩ := id hb; exact hl.ne ho2 hc2 (by decide)
  exact .of_refs hne.symm (RcAt.list_dict hl hb hu)
theorem RcAt.dict_tuple {l b : Addr} {items : Array Value} (hl : EmptyD s.heap l) (hb : s.heap.IsTuple b items) (hu : A.units < cLine) : RcAt A s (.ref l) (.ref b) false := fun prog w E Q h => by
  obtain ⟨⟨cls2, dd2, data2, sl2⟩, ho2, hc2, n2, hd2⟩ := id hb
  have hne : l ≠ b := hl.ne ho2 hc2 (by decide)
  obtain ⟨⟨cls, dd, data, sl⟩, n, ho, ⟨hc, _, _⟩, hd⟩ := id hl
  simp only at hc hd hc2 hd2
  subst hc hd hc2 hd2
  exact rc_eq_decline_or (k := false) ⟨_, ho, rfl⟩ ⟨_, ho2, rfl⟩ (by decide) F.sub_tuple_dict F.slot_dict_eq F.slot_tuple_eq_refl
    (fun _ hq => dict_eq_dec F.slot_dict_eq ⟨_, ho, rfl⟩ ⟨_, ho2, rfl⟩ F.sub_tuple_dict hq)
    (fun _ hq => call_meets F.slot_tuple_eq_refl ⟨_, ho2, rfl⟩ F.entry_tuple_eq (F.args_tuple_eq_2 _ _) (tuple_eq_dict b l items #[] n2 n dd2 dd sl2 sl) ⟨ho2, ho, hq⟩)
    (fun _ hq => by exact wpAny_isSame_ref_other hne ho ho2 (by simp) hq) (.inr hu) h
theorem RcAt.tuple_dict {l b : Addr} {items : Array Value} (hl : EmptyD s.heap l) (hb : s.heap.IsTuple b items) (hu : A.units < cLine) : RcAt A s (.ref b) (.ref l) false := fun prog w E Q h => by
  obtain ⟨⟨cls2, dd2, data2, sl2⟩, ho2, hc2, n2, hd2⟩ := id hb
  have hne : l ≠ b := hl.ne ho2 hc2 (by decide)
  obtain ⟨⟨cls, dd, data, sl⟩, n, ho, ⟨hc, _, _⟩, hd⟩ := id hl
  simp only at hc hd hc2 hd2
  subst hc hd hc2 hd2
  exact rc_eq_decline_or (k := false) ⟨_, ho2, rfl⟩ ⟨_, ho, rfl⟩ (by decide) F.sub_dict_tuple F.slot_tuple_eq F.slot_dict_eq_refl
    (fun _ hq => call_meets F.slot_tuple_eq ⟨_, ho2, rfl⟩ F.entry_tuple_eq (F.args_tuple_eq_2 _ _) (tuple_eq_dict b l items #[] n2 n dd2 dd sl2 sl) ⟨ho2, ho, hq⟩)
    (fun _ hq => dict_eq_dec F.slot_dict_eq_refl ⟨_, ho, rfl⟩ ⟨_, ho2, rfl⟩ F.sub_tuple_dict hq)
    (fun _ hq => by exact wpAny_isSame_ref_other' hne.symm ho2 ho (by simp) hq) (.inr hu) h
theorem EqAt.dict_tuple {l b : Addr} {items : Array Value} (hl : EmptyD s.heap l) (hb : s.heap.IsTuple b items) (hu : A.units < cLine) : EqAt A s (.ref l) (.ref b) false := by
  have hne : l ≠ b := by obtain ⟨_, ho2, hc2, _⟩ := id hb; exact hl.ne ho2 hc2 (by decide)
  exact .of_refs hne (RcAt.dict_tuple hl hb hu)
theorem EqAt.tuple_dict {l b : Addr} {items : Array Value} (hl : EmptyD s.heap l) (hb : s.heap.IsTuple b items) (hu : A.units < cLine) : EqAt A s (.ref b) (.ref l) false := by
  have hne : l ≠ b := by obtain ⟨_, ho2, hc2, _⟩ := id hb; exact hl.ne ho2 hc2 (by decide)
  exact .of_refs hne.symm (RcAt.tuple_dict hl hb hu)
theorem RcNeAt.dict_none {l : Addr} (hl : EmptyD s.heap l) (hu : A.units < cLine) : RcNeAt A s (.ref l) (.none) true := fun prog w E Q h => by
  obtain ⟨⟨cls, dd, data, sl⟩, n, ho, ⟨hc, _, _⟩, hd⟩ := id hl
  simp only at hc hd
  subst hc hd
  exact rc_ne_decline_or (k := false) ⟨_, ho, rfl⟩ rfl (by decide) F.sub_NoneType_dict F.slot_dict_ne F.slot_NoneType_ne_refl
    (fun _ hq => dict_ne_dec F.slot_dict_ne ⟨_, ho, rfl⟩ rfl F.sub_NoneType_dict hq)
    (fun _ hq => call_gives F.slot_NoneType_ne_refl rfl F.entry_NoneType_ne (F.args_NoneType_ne_2 _ _) (NoneType___ne___none_ref_0 l) hq)
    (fun _ hq => wpAny_of_eq (rfl : isSame (.ref l) (.none) = pure false) hq) (.inr hu) h
theorem RcNeAt.none_dict {l : Addr} (hl : EmptyD s.heap l) (hu : A.units < cLine) : RcNeAt A s (.none) (.ref l) true := fun prog w E Q h => by
  obtain ⟨⟨cls, dd, data, sl⟩, n, ho, ⟨hc, _, _⟩, hd⟩ := id hl
  simp only at hc hd
  subst hc hd
  exact rc_ne_decline_or (k := false) rfl ⟨_, ho, rfl⟩ (by decide) F.sub_dict_NoneType F.slot_NoneType_ne F.slot_dict_ne_refl
    (fun _ hq => call_gives F.slot_NoneType_ne rfl F.entry_NoneType_ne (F.args_NoneType_ne_2 _ _) (NoneType___ne___none_ref_0 l) hq)
    (fun _ hq => dict_ne_dec F.slot_dict_ne_refl ⟨_, ho, rfl⟩ rfl F.sub_NoneType_dict hq)
    (fun _ hq => wpAny_of_eq (rfl : isSame (.none) (.ref l) = pure false) hq) (.inr hu) h
theorem RcNeAt.dict_bool {l : Addr} (b : Bool) (hl : EmptyD s.heap l) (hu : A.units < cLine) : RcNeAt A s (.ref l) (.bool b) true := fun prog w E Q h => by
  obtain ⟨⟨cls, dd, data, sl⟩, n, ho, ⟨hc, _, _⟩, hd⟩ := id hl
  simp only at hc hd
  subst hc hd
  exact rc_ne_decline_or (k := false) ⟨_, ho, rfl⟩ rfl (by decide) F.sub_bool_dict F.slot_dict_ne F.slot_bool_ne_refl
    (fun _ hq => dict_ne_dec F.slot_dict_ne ⟨_, ho, rfl⟩ rfl F.sub_bool_dict hq)
    (fun _ hq => call_meets F.slot_bool_ne_refl rfl F.entry_int_ne (F.args_int_ne_2 _ _) (int_ne_dict_bool b l (.type "dict") #[] n dd sl) ⟨ho, hq⟩)
    (fun _ hq => wpAny_of_eq (rfl : isSame (.ref l) (.bool b) = pure false) hq) (.inr hu) h
theorem RcNeAt.bool_dict {l : Addr} (b : Bool) (hl : EmptyD s.heap l) (hu : A.units < cLine) : RcNeAt A s (.bool b) (.ref l) true := fun prog w E Q h => by
  obtain ⟨⟨cls, dd, data, sl⟩, n, ho, ⟨hc, _, _⟩, hd⟩ := id hl
  simp only at hc hd
  subst hc hd
  exact rc_ne_decline_or (k := false) rfl ⟨_, ho, rfl⟩ (by decide) F.sub_dict_bool F.slot_bool_ne F.slot_dict_ne_refl
    (fun _ hq => call_meets F.slot_bool_ne rfl F.entry_int_ne (F.args_int_ne_2 _ _) (int_ne_dict_bool b l (.type "dict") #[] n dd sl) ⟨ho, hq⟩)
    (fun _ hq => dict_ne_dec F.slot_dict_ne_refl ⟨_, ho, rfl⟩ rfl F.sub_bool_dict hq)
    (fun _ hq => wpAny_of_eq (rfl : isSame (.bool b) (.ref l) = pure false) hq) (.inr hu) h
theorem RcNeAt.dict_int {l : Addr} (b : Int) (u : Tok) (hl : EmptyD s.heap l) (hu : A.units < cLine) : RcNeAt A s (.ref l) (.int b u) true := fun prog w E Q h => by
  obtain ⟨⟨cls, dd, data, sl⟩, n, ho, ⟨hc, _, _⟩, hd⟩ := id hl
  simp only at hc hd
  subst hc hd
  exact rc_ne_decline_or (k := false) ⟨_, ho, rfl⟩ (typeIs_int s b u) (by decide) F.sub_int_dict F.slot_dict_ne F.slot_int_ne_refl
    (fun _ hq => dict_ne_dec F.slot_dict_ne ⟨_, ho, rfl⟩ (typeIs_int s b u) F.sub_int_dict hq)
    (fun _ hq => call_meets F.slot_int_ne_refl (typeIs_int s b u) F.entry_int_ne (F.args_int_ne_2 _ _) (int_ne_dict_int b u l (.type "dict") #[] n dd sl) ⟨ho, hq⟩)
    (fun _ hq => wpAny_of_eq (rfl : isSame (.ref l) (.int b u) = pure false) hq) (.inr hu) h
theorem RcNeAt.int_dict {l : Addr} (b : Int) (u : Tok) (hl : EmptyD s.heap l) (hu : A.units < cLine) : RcNeAt A s (.int b u) (.ref l) true := fun prog w E Q h => by
  obtain ⟨⟨cls, dd, data, sl⟩, n, ho, ⟨hc, _, _⟩, hd⟩ := id hl
  simp only at hc hd
  subst hc hd
  exact rc_ne_decline_or (k := false) (typeIs_int s b u) ⟨_, ho, rfl⟩ (by decide) F.sub_dict_int F.slot_int_ne F.slot_dict_ne_refl
    (fun _ hq => call_meets F.slot_int_ne (typeIs_int s b u) F.entry_int_ne (F.args_int_ne_2 _ _) (int_ne_dict_int b u l (.type "dict") #[] n dd sl) ⟨ho, hq⟩)
    (fun _ hq => dict_ne_dec F.slot_dict_ne_refl ⟨_, ho, rfl⟩ (typeIs_int s b u) F.sub_int_dict hq)
    (fun _ hq => wpAny_of_eq (rfl : isSame (.int b u) (.ref l) = pure false) hq) (.inr hu) h
theorem RcNeAt.dict_str {l : Addr} (b : Str) (u : Tok) (hl : EmptyD s.heap l) (hu : A.units < cLine) : RcNeAt A s (.ref l) (.str b u) true := fun prog w E Q h => by
  obtain ⟨⟨cls, dd, data, sl⟩, n, ho, ⟨hc, _, _⟩, hd⟩ := id hl
  simp only at hc hd
  subst hc hd
  exact rc_ne_decline_or (k := false) ⟨_, ho, rfl⟩ (typeIs_str s b u) (by decide) F.sub_str_dict F.slot_dict_ne F.slot_str_ne_refl
    (fun _ hq => dict_ne_dec F.slot_dict_ne ⟨_, ho, rfl⟩ (typeIs_str s b u) F.sub_str_dict hq)
    (fun _ hq => call_meets F.slot_str_ne_refl (typeIs_str s b u) F.entry_str_ne (F.args_str_ne_2 _ _) (str_ne_dict_str b u l (.type "dict") #[] n dd sl) ⟨ho, hq⟩)
    (fun _ hq => wpAny_of_eq (rfl : isSame (.ref l) (.str b u) = pure false) hq) (.inr hu) h
theorem RcNeAt.str_dict {l : Addr} (b : Str) (u : Tok) (hl : EmptyD s.heap l) (hu : A.units < cLine) : RcNeAt A s (.str b u) (.ref l) true := fun prog w E Q h => by
  obtain ⟨⟨cls, dd, data, sl⟩, n, ho, ⟨hc, _, _⟩, hd⟩ := id hl
  simp only at hc hd
  subst hc hd
  exact rc_ne_decline_or (k := false) (typeIs_str s b u) ⟨_, ho, rfl⟩ (by decide) F.sub_dict_str F.slot_str_ne F.slot_dict_ne_refl
    (fun _ hq => call_meets F.slot_str_ne (typeIs_str s b u) F.entry_str_ne (F.args_str_ne_2 _ _) (str_ne_dict_str b u l (.type "dict") #[] n dd sl) ⟨ho, hq⟩)
    (fun _ hq => dict_ne_dec F.slot_dict_ne_refl ⟨_, ho, rfl⟩ (typeIs_str s b u) F.sub_str_dict hq)
    (fun _ hq => wpAny_of_eq (rfl : isSame (.str b u) (.ref l) = pure false) hq) (.inr hu) h
theorem RcNeAt.dict_list {l b : Addr} {items : Array Value} (hl : EmptyD s.heap l) (hb : s.heap.IsList b items) (hu : A.units < cLine) : RcNeAt A s (.ref l) (.ref b) true := fun prog w E Q h => by
  obtain ⟨⟨cls2, dd2, data2, sl2⟩, ho2, hc2, n2, hd2⟩ := id hb
  have hne : l ≠ b := hl.ne ho2 hc2 (by decide)
  obtain ⟨⟨cls, dd, data, sl⟩, n, ho, ⟨hc, _, _⟩, hd⟩ := id hl
  simp only at hc hd hc2 hd2
  subst hc hd hc2 hd2
  exact rc_ne_decline_or (k := false) ⟨_, ho, rfl⟩ ⟨_, ho2, rfl⟩ (by decide) F.sub_list_dict F.slot_dict_ne F.slot_list_ne_refl
    (fun _ hq => dict_ne_dec F.slot_dict_ne ⟨_, ho, rfl⟩ ⟨_, ho2, rfl⟩ F.sub_list_dict hq)
    (fun _ hq => call_meets F.slot_list_ne_refl ⟨_, ho2, rfl⟩ F.entry_list_ne (F.args_list_ne_2 _ _) (list_ne_dict b l items #[] n2 n dd2 dd sl2 sl) ⟨ho2, ho, hq⟩)
    (fun _ hq => by exact wpAny_isSame_ref_other hne ho ho2 (by simp) hq) (.inr hu) h
theorem RcNeAt.list_dict {l b : Addr} {items : Array Value} (hl : EmptyD s.heap l) (hb : s.heap.IsList b items) (hu : A.units < cLine) : RcNeAt A s (.ref b) (.ref l) true := fun prog w E Q h => by
  obtain ⟨⟨cls2, dd2, data2, sl2⟩, ho2, hc2, n2, hd2⟩ := id hb
  have hne : l ≠ b := hl.ne ho2 hc2 (by decide)
  obtain ⟨⟨cls, dd, data, sl⟩, n, ho, ⟨hc, _, _⟩, hd⟩ := id hl
  simp only at hc hd hc2 hd2
  subst hc hd hc2 hd2
  exact rc_ne_decline_or (k := false) ⟨_, ho2, rfl⟩ ⟨_, ho, rfl⟩ (by decide) F.sub_dict_list F.slot_list_ne F.slot_dict_ne_refl
    (fun _ hq => call_meets F.slot_list_ne ⟨_, ho2, rfl⟩ F.entry_list_ne (F.args_list_ne_2 _ _) (list_ne_dict b l items #[] n2 n dd2 dd sl2 sl) ⟨ho2, ho, hq⟩)
    (fun _ hq => dict_ne_dec F.slot_dict_ne_refl ⟨_, ho, rfl⟩ ⟨_, ho2, rfl⟩ F.sub_list_dict hq)
    (fun _ hq => by exact wpAny_isSame_ref_other' hne.symm ho2 ho (by simp) hq) (.inr hu) h
theorem RcNeAt.dict_tuple {l b : Addr} {items : Array Value} (hl : EmptyD s.heap l) (hb : s.heap.IsTuple b items) (hu : A.units < cLine) : RcNeAt A s (.ref l) (.ref b) true := fun prog w E Q h => by
  obtain ⟨⟨cls2, dd2, data2, sl2⟩, ho2, hc2, n2, hd2⟩ := id hb
  have hne : l ≠ b := hl.ne ho2 hc2 (by decide)
  obtain ⟨⟨cls, dd, data, sl⟩, n, ho, ⟨hc, _, _⟩, hd⟩ := id hl
  simp only at hc hd hc2 hd2
  subst hc hd hc2 hd2
  exact rc_ne_decline_or (k := false) ⟨_, ho, rfl⟩ ⟨_, ho2, rfl⟩ (by decide) F.sub_tuple_dict F.slot_dict_ne F.slot_tuple_ne_refl
    (fun _ hq => dict_ne_dec F.slot_dict_ne ⟨_, ho, rfl⟩ ⟨_, ho2, rfl⟩ F.sub_tuple_dict hq)
    (fun _ hq => call_meets F.slot_tuple_ne_refl ⟨_, ho2, rfl⟩ F.entry_tuple_ne (F.args_tuple_ne_2 _ _) (tuple_ne_dict b l items #[] n2 n dd2 dd sl2 sl) ⟨ho2, ho, hq⟩)
    (fun _ hq => by exact wpAny_isSame_ref_other hne ho ho2 (by simp) hq) (.inr hu) h
theorem RcNeAt.tuple_dict {l b : Addr} {items : Array Value} (hl : EmptyD s.heap l) (hb : s.heap.IsTuple b items) (hu : A.units < cLine) : RcNeAt A s (.ref b) (.ref l) true := fun prog w E Q h => by
  obtain ⟨⟨cls2, dd2, data2, sl2⟩, ho2, hc2, n2, hd2⟩ := id hb
  have hne : l ≠ b := hl.ne ho2 hc2 (by decide)
  obtain ⟨⟨cls, dd, data, sl⟩, n, ho, ⟨hc, _, _⟩, hd⟩ := id hl
  simp only at hc hd hc2 hd2
  subst hc hd hc2 hd2
  exact rc_ne_decline_or (k := false) ⟨_, ho2, rfl⟩ ⟨_, ho, rfl⟩ (by decide) F.sub_dict_tuple F.slot_tuple_ne F.slot_dict_ne_refl
    (fun _ hq => call_meets F.slot_tuple_ne ⟨_, ho2, rfl⟩ F.entry_tuple_ne (F.args_tuple_ne_2 _ _) (tuple_ne_dict b l items #[] n2 n dd2 dd sl2 sl) ⟨ho2, ho, hq⟩)
    (fun _ hq => dict_ne_dec F.slot_dict_ne_refl ⟨_, ho, rfl⟩ ⟨_, ho2, rfl⟩ F.sub_tuple_dict hq)
    (fun _ hq => by exact wpAny_isSame_ref_other' hne.symm ho2 ho (by simp) hq) (.inr hu) h
theorem RcAt.dict_dict {l b : Addr} (zl : (l == sysModules) = false) (zb : (b == sysModules) = false) (hl : EmptyD s.heap l) (hb : EmptyD s.heap b) (hu : A.units < cLine) : RcAt A s (.ref l) (.ref b) true := fun prog w E Q h =>
  keq_eq (knd := intKind prog w) zl zb (hl.dictOf _) (hb.dictOf _) hu (fun _ => .nil) (r := true) h
theorem RcNeAt.dict_dict {l b : Addr} (zl : (l == sysModules) = false) (zb : (b == sysModules) = false) (hl : EmptyD s.heap l) (hb : EmptyD s.heap b) (hu : A.units < cLine) : RcNeAt A s (.ref l) (.ref b) false := fun prog w E Q h =>
  keq_ne (knd := intKind prog w) zl zb (hl.dictOf _) (hb.dictOf _) hu (fun _ => .nil) (r := true) h
theorem EqAt.dict_dict {l b : Addr} (zl : (l == sysModules) = false) (zb : (b == sysModules) = false) (hl : EmptyD s.heap l) (hb : EmptyD s.heap b) (hu : A.units < cLine) : EqAt A s (.ref l) (.ref b) true := by
  by_cases e : l = b
  · subst e; exact EqAt.same _
  · exact .of_refs e (RcAt.dict_dict zl zb hl hb hu)
end
end DE
end

section
set_option Elab.async false
set_option linter.all false
set_option maxRecDepth 100000
set_option autoImplicit false
/-! DEX: data with empty dicts on the heap; == and != of them. -/
namespace DE
open PySem PySem.Spec PyProof.Rows PySem.SeqAt PySem.W DL
mutual
inductive KV (h : Heap) : Value → D → Prop
  | non : KV h .none .non
  | bl (b : Bool) : KV h (.bool b) (.bl b)
  | int (i : Int) (t : Tok) : KV h (.int i t) (.int i)
  | str (x : Str) (t : Tok) : KV h (.str x t) (.str x)
  | lst {a : Addr} {its : Array Value} {ds : List D} : h.IsList a its → KVs h its.toList ds → KV h (.ref a) (.lst ds)
  | kls {a : Addr} {its : Array Value} {ds : List D} : h.IsList a its → KVs h its.toList ds → KV h (.ref a) (.kls ds)
  | tup {a : Addr} {its : Array Value} {ds : List D} : h.IsTuple a its → KVs h its.toList ds → KV h (.ref a) (.tup ds)
  | ktp {a : Addr} {its : Array Value} {ds : List D} : h.IsTuple a its → KVs h its.toList ds → KV h (.ref a) (.ktp ds)
  | dct {a : Addr} : (a == sysModules) = false → EmptyD h a → KV h (.ref a) (.dct [])
inductive KVs (h : Heap) : List Value → List D → Prop
  | nil : KVs h [] []
  | cons {v : Value} {vs : List Value} {d : D} {ds : List D} : KV h v d → KVs h vs ds → KVs h (v :: vs) (d :: ds)
end
theorem KVs.len {h : Heap} : ∀ {vs : List Value} {ds : List D}, KVs h vs ds → vs.length = ds.length
  | _, _, .nil => rfl
  | _, _, .cons _ r => by rw [List.length_cons, List.length_cons, r.len]
theorem KVs.at {h : Heap} : ∀ {vs : List Value} {ds : List D}, KVs h vs ds → ∀ j (h1 : j < vs.length), KV h vs[j] (ds.getD j .non) ∧ ds.getD j .non ∈ ds
  | _, _, .nil, j, h1 => absurd h1 (Nat.not_lt_zero j)
  | _, _, .cons a r, 0, _ => ⟨a, List.mem_cons_self⟩
  | _, _, .cons a r, j + 1, h1 => let ⟨x, y⟩ := r.at j (Nat.lt_of_succ_lt_succ h1); ⟨x, List.mem_cons_of_mem _ y⟩
theorem eqDs_all : ∀ (xs ys : List D), xs.length = ys.length → eqDs xs ys = (List.range xs.length).all fun j => eqD (xs.getD j .non) (ys.getD j .non)
  | [], [], _ => rfl
  | x :: xs, y :: ys, h => by
    rw [List.length_cons, List.range_succ_eq_map, List.all_cons, List.all_map]
    show (eqD x y && eqDs xs ys) = _
    rw [eqDs_all xs ys (Nat.succ.inj h)]
    rfl
theorem eqDs_len : ∀ (xs ys : List D), xs.length ≠ ys.length → eqDs xs ys = false
  | [], [], h => absurd rfl h
  | [], _ :: _, _ => rfl
  | _ :: _, [], _ => rfl
  | x :: xs, y :: ys, h => by
    show (eqD x y && eqDs xs ys) = false
    rw [eqDs_len xs ys (fun e => h (congrArg (· + 1) e)), Bool.and_false]
theorem IsList.uniq {h : Heap} {a : Addr} {x y : Array Value} (p : h.IsList a x) (q : h.IsList a y) : x = y := by
  obtain ⟨o, ho, _, n, hd⟩ := p
  obtain ⟨o2, ho2, _, n2, hd2⟩ := q
  rw [ho] at ho2; cases ho2
  rw [hd] at hd2; cases hd2; rfl
theorem IsTuple.uniq {h : Heap} {a : Addr} {x y : Array Value} (p : h.IsTuple a x) (q : h.IsTuple a y) : x = y := by
  obtain ⟨o, ho, _, n, hd⟩ := p
  obtain ⟨o2, ho2, _, n2, hd2⟩ := q
  rw [ho] at ho2; cases ho2
  rw [hd] at hd2; cases hd2; rfl
theorem IsList.noTup {h : Heap} {a : Addr} {x y : Array Value} (p : h.IsList a x) (q : h.IsTuple a y) : False := by
  obtain ⟨o, ho, hc, _⟩ := p
  obtain ⟨o2, ho2, hc2, _⟩ := q
  rw [ho] at ho2; cases ho2
  rw [hc] at hc2; exact absurd hc2 (by simp)
theorem EmptyD.noList {h : Heap} {a : Addr} {y : Array Value} (p : EmptyD h a) (q : h.IsList a y) : False := by
  obtain ⟨o, _, ho, ⟨hc, _, _⟩, _⟩ := p
  obtain ⟨o2, ho2, hc2, _⟩ := q
  rw [ho] at ho2; cases ho2
  rw [hc] at hc2; exact absurd hc2 (by simp)
theorem EmptyD.noTup {h : Heap} {a : Addr} {y : Array Value} (p : EmptyD h a) (q : h.IsTuple a y) : False := by
  obtain ⟨o, _, ho, ⟨hc, _, _⟩, _⟩ := p
  obtain ⟨o2, ho2, hc2, _⟩ := q
  rw [ho] at ho2; cases ho2
  rw [hc] at hc2; exact absurd hc2 (by simp)
mutual
theorem sameK {h : Heap} : ∀ {d e : D} {v : Value}, KV h v d → KV h v e → eqD d e = true
  | _, _, _, .non, .non => rfl
  | _, _, _, .bl b, .bl _ => by show (b == b) = true; exact beq_self_eq_true b
  | _, _, _, .int i _, .int _ _ => by show (i == i) = true; exact beq_self_eq_true i
  | _, _, _, .str x _, .str _ _ => by show (x == x) = true; exact beq_self_eq_true x
  | _, _, _, .dct _ _, .dct _ _ => rfl

  | _, _, _, .lst p r, .lst q t => by have e := IsList.uniq p q; subst e; exact sameKs r t
  | _, _, _, .lst p r, .kls q t => by have e := IsList.uniq p q; subst e; exact sameKs r t
  | _, _, _, .lst p r, .tup q t => (IsList.noTup p q).elim
  | _, _, _, .lst p r, .ktp q t => (IsList.noTup p q).elim
  | _, _, _, .lst p r, .dct _ q => (EmptyD.noList q p).elim
  | _, _, _, .dct _ q, .lst p r => (EmptyD.noList q p).elim
  | _, _, _, .kls p r, .lst q t => by have e := IsList.uniq p q; subst e; exact sameKs r t
  | _, _, _, .kls p r, .kls q t => by have e := IsList.uniq p q; subst e; exact sameKs r t
  | _, _, _, .kls p r, .tup q t => (IsList.noTup p q).elim
  | _, _, _, .kls p r, .ktp q t => (IsList.noTup p q).elim
  | _, _, _, .kls p r, .dct _ q => (EmptyD.noList q p).elim
  | _, _, _, .dct _ q, .kls p r => (EmptyD.noList q p).elim
  | _, _, _, .tup p r, .tup q t => by have e := IsTuple.uniq p q; subst e; exact sameKs r t
  | _, _, _, .tup p r, .ktp q t => by have e := IsTuple.uniq p q; subst e; exact sameKs r t
  | _, _, _, .tup p r, .lst q t => (IsList.noTup q p).elim
  | _, _, _, .tup p r, .kls q t => (IsList.noTup q p).elim
  | _, _, _, .tup p r, .dct _ q => (EmptyD.noTup q p).elim
  | _, _, _, .dct _ q, .tup p r => (EmptyD.noTup q p).elim
  | _, _, _, .ktp p r, .tup q t => by have e := IsTuple.uniq p q; subst e; exact sameKs r t
  | _, _, _, .ktp p r, .ktp q t => by have e := IsTuple.uniq p q; subst e; exact sameKs r t
  | _, _, _, .ktp p r, .lst q t => (IsList.noTup q p).elim
  | _, _, _, .ktp p r, .kls q t => (IsList.noTup q p).elim
  | _, _, _, .ktp p r, .dct _ q => (EmptyD.noTup q p).elim
  | _, _, _, .dct _ q, .ktp p r => (EmptyD.noTup q p).elim
theorem sameKs {h : Heap} : ∀ {ds es : List D} {vs : List Value}, KVs h vs ds → KVs h vs es → eqDs ds es = true
  | _, _, _, .nil, .nil => rfl
  | _, _, _, .cons a r, .cons b t => by
    rename_i d ds _ e es
    show (eqD _ _ && eqDs _ _) = true
    rw [sameK a b, sameKs r t]; rfl
end
theorem rcK {s : Shared} (n : Nat) (A : Around) {d e : D} {v u : Value} (hu : A.units + n < cLine) (hd : okX n d = true) (he : okX n e = true) (hv : KV s.heap v d) (hw : KV s.heap u e)
    (ih : ∀ (m : Nat) {d e : D} {v u : Value}, m + 1 = n → okX m d = true → okX m e = true → KV s.heap v d → KV s.heap u e → EqAt A.in1 s v u (eqD d e)) : RcAt A s v u (eqD d e) := by
  have hA : A.units < cLine := by omega
  cases hv with
  | non => cases hw with
    | non => exact RcAt.none_none
    | bl b2 => exact RcAt.none_bool b2
    | int i2 t2 => exact RcAt.none_int i2 t2
    | str x2 t2 => exact RcAt.none_str x2 t2
    | lst p2 r2 => exact RcAt.none_list p2 hA
    | kls p2 r2 => exact RcAt.none_list p2 hA
    | tup p2 r2 => exact RcAt.none_tuple p2 hA
    | ktp p2 r2 => exact RcAt.none_tuple p2 hA
    | dct z2 p2 => exact RcAt.none_dict p2 hA
  | bl b1 => cases hw with
    | non => exact RcAt.bool_none b1
    | bl b2 => exact RcAt.bool_bool b1 b2
    | int i2 t2 => exact RcAt.bool_int b1 i2 t2
    | str x2 t2 => exact RcAt.bool_str b1 x2 t2
    | lst p2 r2 => exact RcAt.bool_list b1 p2 hA
    | kls p2 r2 => exact RcAt.bool_list b1 p2 hA
    | tup p2 r2 => exact RcAt.bool_tuple b1 p2 hA
    | ktp p2 r2 => exact RcAt.bool_tuple b1 p2 hA
    | dct z2 p2 => exact RcAt.bool_dict b1 p2 hA
  | int i1 t1 => cases hw with
    | non => exact RcAt.int_none i1 t1
    | bl b2 => exact RcAt.int_bool i1 t1 b2
    | int i2 t2 => exact RcAt.int_int i1 t1 i2 t2
    | str x2 t2 => exact RcAt.int_str i1 t1 x2 t2
    | lst p2 r2 => exact RcAt.int_list i1 t1 p2 hA
    | kls p2 r2 => exact RcAt.int_list i1 t1 p2 hA
    | tup p2 r2 => exact RcAt.int_tuple i1 t1 p2 hA
    | ktp p2 r2 => exact RcAt.int_tuple i1 t1 p2 hA
    | dct z2 p2 => exact RcAt.int_dict i1 t1 p2 hA
  | str x1 t1 => cases hw with
    | non => exact RcAt.str_none x1 t1
    | bl b2 => exact RcAt.str_bool x1 t1 b2
    | int i2 t2 => exact RcAt.str_int x1 t1 i2 t2
    | str x2 t2 => exact RcAt.str_str x1 t1 x2 t2
    | lst p2 r2 => exact RcAt.str_list x1 t1 p2 hA
    | kls p2 r2 => exact RcAt.str_list x1 t1 p2 hA
    | tup p2 r2 => exact RcAt.str_tuple x1 t1 p2 hA
    | ktp p2 r2 => exact RcAt.str_tuple x1 t1 p2 hA
    | dct z2 p2 => exact RcAt.str_dict x1 t1 p2 hA
  | lst p1 r1 => cases hw with
    | non => exact RcAt.list_none p1 hA
    | bl b2 => exact RcAt.list_bool b2 p1 hA
    | int i2 t2 => exact RcAt.list_int i2 t2 p1 hA
    | str x2 t2 => exact RcAt.list_str x2 t2 p1 hA
    | lst p2 r2 =>
      cases n with
      | zero => cases hd
      | succ n =>
      rename_i l its1 ds1 l2 its2 ds2
      have n1 : its1.size = ds1.length := by have := r1.len; simpa using this
      have n2 : its2.size = ds2.length := by have := r2.len; simpa using this
      have it : ∀ j (h1 : j < its1.size) (h2 : j < its2.size), EqAt A.in1 s its1[j] its2[j] (eqD (ds1.getD j .non) (ds2.getD j .non)) := fun j h1 h2 => by
        obtain ⟨a1, m1⟩ := r1.at j (by simpa using h1)
        obtain ⟨a2, m2⟩ := r2.at j (by simpa using h2)
        have := ih n rfl (okXs_iff.mp hd _ m1) (okXs_iff.mp he _ m2) a1 a2
        simpa using this
      show RcAt A s _ _ (eqDs ds1 ds2)
      by_cases hz : its1.size = its2.size
      · rw [eqDs_all ds1 ds2 (by omega), ← n1]
        exact RcAt.lists p1 p2 hz hA it
      · rw [eqDs_len ds1 ds2 (by omega)]
        exact RcAt.lists_lengths p1 p2 (by simpa using hz) hA
    | kls p2 r2 =>
      cases n with
      | zero => cases hd
      | succ n =>
      rename_i l its1 ds1 l2 its2 ds2
      have n1 : its1.size = ds1.length := by have := r1.len; simpa using this
      have n2 : its2.size = ds2.length := by have := r2.len; simpa using this
      have it : ∀ j (h1 : j < its1.size) (h2 : j < its2.size), EqAt A.in1 s its1[j] its2[j] (eqD (ds1.getD j .non) (ds2.getD j .non)) := fun j h1 h2 => by
        obtain ⟨a1, m1⟩ := r1.at j (by simpa using h1)
        obtain ⟨a2, m2⟩ := r2.at j (by simpa using h2)
        have := ih n rfl (okXs_iff.mp hd _ m1) (okXs_iff.mp he _ m2) a1 a2
        simpa using this
      show RcAt A s _ _ (eqDs ds1 ds2)
      by_cases hz : its1.size = its2.size
      · rw [eqDs_all ds1 ds2 (by omega), ← n1]
        exact RcAt.lists p1 p2 hz hA it
      · rw [eqDs_len ds1 ds2 (by omega)]
        exact RcAt.lists_lengths p1 p2 (by simpa using hz) hA
    | tup p2 r2 => exact RcAt.list_tuple p1 p2 hA
    | ktp p2 r2 => exact RcAt.list_tuple p1 p2 hA
    | dct z2 p2 => exact RcAt.list_dict p2 p1 hA
  | kls p1 r1 => cases hw with
    | non => exact RcAt.list_none p1 hA
    | bl b2 => exact RcAt.list_bool b2 p1 hA
    | int i2 t2 => exact RcAt.list_int i2 t2 p1 hA
    | str x2 t2 => exact RcAt.list_str x2 t2 p1 hA
    | lst p2 r2 =>
      cases n with
      | zero => cases hd
      | succ n =>
      rename_i l its1 ds1 l2 its2 ds2
      have n1 : its1.size = ds1.length := by have := r1.len; simpa using this
      have n2 : its2.size = ds2.length := by have := r2.len; simpa using this
      have it : ∀ j (h1 : j < its1.size) (h2 : j < its2.size), EqAt A.in1 s its1[j] its2[j] (eqD (ds1.getD j .non) (ds2.getD j .non)) := fun j h1 h2 => by
        obtain ⟨a1, m1⟩ := r1.at j (by simpa using h1)
        obtain ⟨a2, m2⟩ := r2.at j (by simpa using h2)
        have := ih n rfl (okXs_iff.mp hd _ m1) (okXs_iff.mp he _ m2) a1 a2
        simpa using this
      show RcAt A s _ _ (eqDs ds1 ds2)
      by_cases hz : its1.size = its2.size
      · rw [eqDs_all ds1 ds2 (by omega), ← n1]
        exact RcAt.lists p1 p2 hz hA it
      · rw [eqDs_len ds1 ds2 (by omega)]
        exact RcAt.lists_lengths p1 p2 (by simpa using hz) hA
    | kls p2 r2 =>
      cases n with
      | zero => cases hd
      | succ n =>
      rename_i l its1 ds1 l2 its2 ds2
      have n1 : its1.size = ds1.length := by have := r1.len; simpa using this
      have n2 : its2.size = ds2.length := by have := r2.len; simpa using this
      have it : ∀ j (h1 : j < its1.size) (h2 : j < its2.size), EqAt A.in1 s its1[j] its2[j] (eqD (ds1.getD j .non) (ds2.getD j .non)) := fun j h1 h2 => by
        obtain ⟨a1, m1⟩ := r1.at j (by simpa using h1)
        obtain ⟨a2, m2⟩ := r2.at j (by simpa using h2)
        have := ih n rfl (okXs_iff.mp hd _ m1) (okXs_iff.mp he _ m2) a1 a2
        simpa using this
      show RcAt A s _ _ (eqDs ds1 ds2)
      by_cases hz : its1.size = its2.size
      · rw [eqDs_all ds1 ds2 (by omega), ← n1]
        exact RcAt.lists p1 p2 hz hA it
      · rw [eqDs_len ds1 ds2 (by omega)]
        exact RcAt.lists_lengths p1 p2 (by simpa using hz) hA
    | tup p2 r2 => exact RcAt.list_tuple p1 p2 hA
    | ktp p2 r2 => exact RcAt.list_tuple p1 p2 hA
    | dct z2 p2 => exact RcAt.list_dict p2 p1 hA
  | tup p1 r1 => cases hw with
    | non => exact RcAt.tuple_none p1 hA
    | bl b2 => exact RcAt.tuple_bool b2 p1 hA
    | int i2 t2 => exact RcAt.tuple_int i2 t2 p1 hA
    | str x2 t2 => exact RcAt.tuple_str x2 t2 p1 hA
    | lst p2 r2 => exact RcAt.tuple_list p1 p2 hA
    | kls p2 r2 => exact RcAt.tuple_list p1 p2 hA
    | tup p2 r2 =>
      cases n with
      | zero => cases hd
      | succ n =>
      rename_i l its1 ds1 l2 its2 ds2
      have n1 : its1.size = ds1.length := by have := r1.len; simpa using this
      have n2 : its2.size = ds2.length := by have := r2.len; simpa using this
      have it : ∀ j (h1 : j < its1.size) (h2 : j < its2.size), EqAt A.in1 s its1[j] its2[j] (eqD (ds1.getD j .non) (ds2.getD j .non)) := fun j h1 h2 => by
        obtain ⟨a1, m1⟩ := r1.at j (by simpa using h1)
        obtain ⟨a2, m2⟩ := r2.at j (by simpa using h2)
        have := ih n rfl (okXs_iff.mp hd _ m1) (okXs_iff.mp he _ m2) a1 a2
        simpa using this
      show RcAt A s _ _ (eqDs ds1 ds2)
      have k := RcAt.tuples p1 p2 hA it
      have q : ((List.range (min its1.size its2.size)).all (fun j => eqD (ds1.getD j .non) (ds2.getD j .non)) && its1.size == its2.size) = eqDs ds1 ds2 := by
        by_cases hz : its1.size = its2.size
        · rw [eqDs_all ds1 ds2 (by omega), ← n1, hz, Nat.min_self, beq_self_eq_true, Bool.and_true]
        · rw [eqDs_len ds1 ds2 (by omega), beq_eq_false_iff_ne.mpr hz, Bool.and_false]
      rw [q] at k
      exact k
    | ktp p2 r2 =>
      cases n with
      | zero => cases hd
      | succ n =>
      rename_i l its1 ds1 l2 its2 ds2
      have n1 : its1.size = ds1.length := by have := r1.len; simpa using this
      have n2 : its2.size = ds2.length := by have := r2.len; simpa using this
      have it : ∀ j (h1 : j < its1.size) (h2 : j < its2.size), EqAt A.in1 s its1[j] its2[j] (eqD (ds1.getD j .non) (ds2.getD j .non)) := fun j h1 h2 => by
        obtain ⟨a1, m1⟩ := r1.at j (by simpa using h1)
        obtain ⟨a2, m2⟩ := r2.at j (by simpa using h2)
        have := ih n rfl (okXs_iff.mp hd _ m1) (okXs_iff.mp he _ m2) a1 a2
        simpa using this
      show RcAt A s _ _ (eqDs ds1 ds2)
      have k := RcAt.tuples p1 p2 hA it
      have q : ((List.range (min its1.size its2.size)).all (fun j => eqD (ds1.getD j .non) (ds2.getD j .non)) && its1.size == its2.size) = eqDs ds1 ds2 := by
        by_cases hz : its1.size = its2.size
        · rw [eqDs_all ds1 ds2 (by omega), ← n1, hz, Nat.min_self, beq_self_eq_true, Bool.and_true]
        · rw [eqDs_len ds1 ds2 (by omega), beq_eq_false_iff_ne.mpr hz, Bool.and_false]
      rw [q] at k
      exact k
    | dct z2 p2 => exact RcAt.tuple_dict p2 p1 hA
  | ktp p1 r1 => cases hw with
    | non => exact RcAt.tuple_none p1 hA
    | bl b2 => exact RcAt.tuple_bool b2 p1 hA
    | int i2 t2 => exact RcAt.tuple_int i2 t2 p1 hA
    | str x2 t2 => exact RcAt.tuple_str x2 t2 p1 hA
    | lst p2 r2 => exact RcAt.tuple_list p1 p2 hA
    | kls p2 r2 => exact RcAt.tuple_list p1 p2 hA
    | tup p2 r2 =>
      cases n with
      | zero => cases hd
      | succ n =>
      rename_i l its1 ds1 l2 its2 ds2
      have n1 : its1.size = ds1.length := by have := r1.len; simpa using this
      have n2 : its2.size = ds2.length := by have := r2.len; simpa using this
      have it : ∀ j (h1 : j < its1.size) (h2 : j < its2.size), EqAt A.in1 s its1[j] its2[j] (eqD (ds1.getD j .non) (ds2.getD j .non)) := fun j h1 h2 => by
        obtain ⟨a1, m1⟩ := r1.at j (by simpa using h1)
        obtain ⟨a2, m2⟩ := r2.at j (by simpa using h2)
        have := ih n rfl (okXs_iff.mp hd _ m1) (okXs_iff.mp he _ m2) a1 a2
        simpa using this
      show RcAt A s _ _ (eqDs ds1 ds2)
      have k := RcAt.tuples p1 p2 hA it
      have q : ((List.range (min its1.size its2.size)).all (fun j => eqD (ds1.getD j .non) (ds2.getD j .non)) && its1.size == its2.size) = eqDs ds1 ds2 := by
        by_cases hz : its1.size = its2.size
        · rw [eqDs_all ds1 ds2 (by omega), ← n1, hz, Nat.min_self, beq_self_eq_true, Bool.and_true]
        · rw [eqDs_len ds1 ds2 (by omega), beq_eq_false_iff_ne.mpr hz, Bool.and_false]
      rw [q] at k
      exact k
    | ktp p2 r2 =>
      cases n with
      | zero => cases hd
      | succ n =>
      rename_i l its1 ds1 l2 its2 ds2
      have n1 : its1.size = ds1.length := by have := r1.len; simpa using this
      have n2 : its2.size = ds2.length := by have := r2.len; simpa using this
      have it : ∀ j (h1 : j < its1.size) (h2 : j < its2.size), EqAt A.in1 s its1[j] its2[j] (eqD (ds1.getD j .non) (ds2.getD j .non)) := fun j h1 h2 => by
        obtain ⟨a1, m1⟩ := r1.at j (by simpa using h1)
        obtain ⟨a2, m2⟩ := r2.at j (by simpa using h2)
        have := ih n rfl (okXs_iff.mp hd _ m1) (okXs_iff.mp he _ m2) a1 a2
        simpa using this
      show RcAt A s _ _ (eqDs ds1 ds2)
      have k := RcAt.tuples p1 p2 hA it
      have q : ((List.range (min its1.size its2.size)).all (fun j => eqD (ds1.getD j .non) (ds2.getD j .non)) && its1.size == its2.size) = eqDs ds1 ds2 := by
        by_cases hz : its1.size = its2.size
        · rw [eqDs_all ds1 ds2 (by omega), ← n1, hz, Nat.min_self, beq_self_eq_true, Bool.and_true]
        · rw [eqDs_len ds1 ds2 (by omega), beq_eq_false_iff_ne.mpr hz, Bool.and_false]
      rw [q] at k
      exact k
    | dct z2 p2 => exact RcAt.tuple_dict p2 p1 hA
  | dct z1 p1 => cases hw with
    | non => exact RcAt.dict_none p1 hA
    | bl b2 => exact RcAt.dict_bool b2 p1 hA
    | int i2 t2 => exact RcAt.dict_int i2 t2 p1 hA
    | str x2 t2 => exact RcAt.dict_str x2 t2 p1 hA
    | lst p2 r2 => exact RcAt.dict_list p1 p2 hA
    | kls p2 r2 => exact RcAt.dict_list p1 p2 hA
    | tup p2 r2 => exact RcAt.dict_tuple p1 p2 hA
    | ktp p2 r2 => exact RcAt.dict_tuple p1 p2 hA
    | dct z2 p2 => exact RcAt.dict_dict z1 z2 p1 p2 hA
theorem rnK {s : Shared} (n : Nat) (A : Around) {d e : D} {v u : Value} (hu : A.units + n < cLine) (hd : okX n d = true) (he : okX n e = true) (hv : KV s.heap v d) (hw : KV s.heap u e)
    (ih : ∀ (m : Nat) {d e : D} {v u : Value}, m + 1 = n → okX m d = true → okX m e = true → KV s.heap v d → KV s.heap u e → EqAt A.in1 s v u (eqD d e)) : RcNeAt A s v u (!eqD d e) := by
  have hA : A.units < cLine := by omega
  cases hv with
  | non => cases hw with
    | non => exact RcNeAt.none_none
    | bl b2 => exact RcNeAt.none_bool b2
    | int i2 t2 => exact RcNeAt.none_int i2 t2
    | str x2 t2 => exact RcNeAt.none_str x2 t2
    | lst p2 r2 => exact RcNeAt.none_list p2 hA
    | kls p2 r2 => exact RcNeAt.none_list p2 hA
    | tup p2 r2 => exact RcNeAt.none_tuple p2 hA
    | ktp p2 r2 => exact RcNeAt.none_tuple p2 hA
    | dct z2 p2 => exact RcNeAt.none_dict p2 hA
  | bl b1 => cases hw with
    | non => exact RcNeAt.bool_none b1
    | bl b2 => exact RcNeAt.bool_bool b1 b2
    | int i2 t2 => exact RcNeAt.bool_int b1 i2 t2
    | str x2 t2 => exact RcNeAt.bool_str b1 x2 t2
    | lst p2 r2 => exact RcNeAt.bool_list b1 p2 hA
    | kls p2 r2 => exact RcNeAt.bool_list b1 p2 hA
    | tup p2 r2 => exact RcNeAt.bool_tuple b1 p2 hA
    | ktp p2 r2 => exact RcNeAt.bool_tuple b1 p2 hA
    | dct z2 p2 => exact RcNeAt.bool_dict b1 p2 hA
  | int i1 t1 => cases hw with
    | non => exact RcNeAt.int_none i1 t1
    | bl b2 => exact RcNeAt.int_bool i1 t1 b2
    | int i2 t2 => exact RcNeAt.int_int i1 t1 i2 t2
    | str x2 t2 => exact RcNeAt.int_str i1 t1 x2 t2
    | lst p2 r2 => exact RcNeAt.int_list i1 t1 p2 hA
    | kls p2 r2 => exact RcNeAt.int_list i1 t1 p2 hA
    | tup p2 r2 => exact RcNeAt.int_tuple i1 t1 p2 hA
    | ktp p2 r2 => exact RcNeAt.int_tuple i1 t1 p2 hA
    | dct z2 p2 => exact RcNeAt.int_dict i1 t1 p2 hA
  | str x1 t1 => cases hw with
    | non => exact RcNeAt.str_none x1 t1
    | bl b2 => exact RcNeAt.str_bool x1 t1 b2
    | int i2 t2 => exact RcNeAt.str_int x1 t1 i2 t2
    | str x2 t2 => exact RcNeAt.str_str x1 t1 x2 t2
    | lst p2 r2 => exact RcNeAt.str_list x1 t1 p2 hA
    | kls p2 r2 => exact RcNeAt.str_list x1 t1 p2 hA
    | tup p2 r2 => exact RcNeAt.str_tuple x1 t1 p2 hA
    | ktp p2 r2 => exact RcNeAt.str_tuple x1 t1 p2 hA
    | dct z2 p2 => exact RcNeAt.str_dict x1 t1 p2 hA
  | lst p1 r1 => cases hw with
    | non => exact RcNeAt.list_none p1 hA
    | bl b2 => exact RcNeAt.list_bool b2 p1 hA
    | int i2 t2 => exact RcNeAt.list_int i2 t2 p1 hA
    | str x2 t2 => exact RcNeAt.list_str x2 t2 p1 hA
    | lst p2 r2 =>
      cases n with
      | zero => cases hd
      | succ n =>
      rename_i l its1 ds1 l2 its2 ds2
      have n1 : its1.size = ds1.length := by have := r1.len; simpa using this
      have n2 : its2.size = ds2.length := by have := r2.len; simpa using this
      have it : ∀ j (h1 : j < its1.size) (h2 : j < its2.size), EqAt A.in1 s its1[j] its2[j] (eqD (ds1.getD j .non) (ds2.getD j .non)) := fun j h1 h2 => by
        obtain ⟨a1, m1⟩ := r1.at j (by simpa using h1)
        obtain ⟨a2, m2⟩ := r2.at j (by simpa using h2)
        have := ih n rfl (okXs_iff.mp hd _ m1) (okXs_iff.mp he _ m2) a1 a2
        simpa using this
      show RcNeAt A s _ _ (!eqDs ds1 ds2)
      by_cases hz : its1.size = its2.size
      · rw [eqDs_all ds1 ds2 (by omega), ← n1]
        exact RcNeAt.lists p1 p2 hz hA it
      · rw [eqDs_len ds1 ds2 (by omega)]
        exact RcNeAt.lists_lengths p1 p2 (by simpa using hz) hA
    | kls p2 r2 =>
      cases n with
      | zero => cases hd
      | succ n =>
      rename_i l its1 ds1 l2 its2 ds2
      have n1 : its1.size = ds1.length := by have := r1.len; simpa using this
      have n2 : its2.size = ds2.length := by have := r2.len; simpa using this
      have it : ∀ j (h1 : j < its1.size) (h2 : j < its2.size), EqAt A.in1 s its1[j] its2[j] (eqD (ds1.getD j .non) (ds2.getD j .non)) := fun j h1 h2 => by
        obtain ⟨a1, m1⟩ := r1.at j (by simpa using h1)
        obtain ⟨a2, m2⟩ := r2.at j (by simpa using h2)
        have := ih n rfl (okXs_iff.mp hd _ m1) (okXs_iff.mp he _ m2) a1 a2
        simpa using this
      show RcNeAt A s _ _ (!eqDs ds1 ds2)
      by_cases hz : its1.size = its2.size
      · rw [eqDs_all ds1 ds2 (by omega), ← n1]
        exact RcNeAt.lists p1 p2 hz hA it
      · rw [eqDs_len ds1 ds2 (by omega)]
        exact RcNeAt.lists_lengths p1 p2 (by simpa using hz) hA
    | tup p2 r2 => exact RcNeAt.list_tuple p1 p2 hA
    | ktp p2 r2 => exact RcNeAt.list_tuple p1 p2 hA
    | dct z2 p2 => exact RcNeAt.list_dict p2 p1 hA
  | kls p1 r1 => cases hw with
    | non => exact RcNeAt.list_none p1 hA
    | bl b2 => exact RcNeAt.list_bool b2 p1 hA
    | int i2 t2 => exact RcNeAt.list_int i2 t2 p1 hA
    | str x2 t2 => exact RcNeAt.list_str x2 t2 p1 hA
    | lst p2 r2 =>
      cases n with
      | zero => cases hd
      | succ n =>
      rename_i l its1 ds1 l2 its2 ds2
      have n1 : its1.size = ds1.length := by have := r1.len; simpa using this
      have n2 : its2.size = ds2.length := by have := r2.len; simpa using this
      have it : ∀ j (h1 : j < its1.size) (h2 : j < its2.size), EqAt A.in1 s its1[j] its2[j] (eqD (ds1.getD j .non) (ds2.getD j .non)) := fun j h1 h2 => by
        obtain ⟨a1, m1⟩ := r1.at j (by simpa using h1)
        obtain ⟨a2, m2⟩ := r2.at j (by simpa using h2)
        have := ih n rfl (okXs_iff.mp hd _ m1) (okXs_iff.mp he _ m2) a1 a2
        simpa using this
      show RcNeAt A s _ _ (!eqDs ds1 ds2)
      by_cases hz : its1.size = its2.size
      · rw [eqDs_all ds1 ds2 (by omega), ← n1]
        exact RcNeAt.lists p1 p2 hz hA it
      · rw [eqDs_len ds1 ds2 (by omega)]
        exact RcNeAt.lists_lengths p1 p2 (by simpa using hz) hA
    | kls p2 r2 =>
      cases n with
      | zero => cases hd
      | succ n =>
      rename_i l its1 ds1 l2 its2 ds2
      have n1 : its1.size = ds1.length := by have := r1.len; simpa using this
      have n2 : its2.size = ds2.length := by have := r2.len; simpa using this
      have it : ∀ j (h1 : j < its1.size) (h2 : j < its2.size), EqAt A.in1 s its1[j] its2[j] (eqD (ds1.getD j .non) (ds2.getD j .non)) := fun j h1 h2 => by
        obtain ⟨a1, m1⟩ := r1.at j (by simpa using h1)
        obtain ⟨a2, m2⟩ := r2.at j (by simpa using h2)
        have := ih n rfl (okXs_iff.mp hd _ m1) (okXs_iff.mp he _ m2) a1 a2
        simpa using this
      show RcNeAt A s _ _ (!eqDs ds1 ds2)
      by_cases hz : its1.size = its2.size
      · rw [eqDs_all ds1 ds2 (by omega), ← n1]
        exact RcNeAt.lists p1 p2 hz hA it
      · rw [eqDs_len ds1 ds2 (by omega)]
        exact RcNeAt.lists_lengths p1 p2 (by simpa using hz) hA
    | tup p2 r2 => exact RcNeAt.list_tuple p1 p2 hA
    | ktp p2 r2 => exact RcNeAt.list_tuple p1 p2 hA
    | dct z2 p2 => exact RcNeAt.list_dict p2 p1 hA
  | tup p1 r1 => cases hw with
    | non => exact RcNeAt.tuple_none p1 hA
    | bl b2 => exact RcNeAt.tuple_bool b2 p1 hA
    | int i2 t2 => exact RcNeAt.tuple_int i2 t2 p1 hA
    | str x2 t2 => exact RcNeAt.tuple_str x2 t2 p1 hA
    | lst p2 r2 => exact RcNeAt.tuple_list p1 p2 hA
    | kls p2 r2 => exact RcNeAt.tuple_list p1 p2 hA
    | tup p2 r2 =>
      cases n with
      | zero => cases hd
      | succ n =>
      rename_i l its1 ds1 l2 its2 ds2
      have n1 : its1.size = ds1.length := by have := r1.len; simpa using this
      have n2 : its2.size = ds2.length := by have := r2.len; simpa using this
      have it : ∀ j (h1 : j < its1.size) (h2 : j < its2.size), EqAt A.in1 s its1[j] its2[j] (eqD (ds1.getD j .non) (ds2.getD j .non)) := fun j h1 h2 => by
        obtain ⟨a1, m1⟩ := r1.at j (by simpa using h1)
        obtain ⟨a2, m2⟩ := r2.at j (by simpa using h2)
        have := ih n rfl (okXs_iff.mp hd _ m1) (okXs_iff.mp he _ m2) a1 a2
        simpa using this
      show RcNeAt A s _ _ (!eqDs ds1 ds2)
      have k := RcNeAt.tuples p1 p2 hA it
      have q : ((List.range (min its1.size its2.size)).all (fun j => eqD (ds1.getD j .non) (ds2.getD j .non)) && its1.size == its2.size) = eqDs ds1 ds2 := by
        by_cases hz : its1.size = its2.size
        · rw [eqDs_all ds1 ds2 (by omega), ← n1, hz, Nat.min_self, beq_self_eq_true, Bool.and_true]
        · rw [eqDs_len ds1 ds2 (by omega), beq_eq_false_iff_ne.mpr hz, Bool.and_false]
      rw [q] at k
      exact k
    | ktp p2 r2 =>
      cases n with
      | zero => cases hd
      | succ n =>
      rename_i l its1 ds1 l2 its2 ds2
      have n1 : its1.size = ds1.length := by have := r1.len; simpa using this
      have n2 : its2.size = ds2.length := by have := r2.len; simpa using this
      have it : ∀ j (h1 : j < its1.size) (h2 : j < its2.size), EqAt A.in1 s its1[j] its2[j] (eqD (ds1.getD j .non) (ds2.getD j .non)) := fun j h1 h2 => by
        obtain ⟨a1, m1⟩ := r1.at j (by simpa using h1)
        obtain ⟨a2, m2⟩ := r2.at j (by simpa using h2)
        have := ih n rfl (okXs_iff.mp hd _ m1) (okXs_iff.mp he _ m2) a1 a2
        simpa using this
      show RcNeAt A s _ _ (!eqDs ds1 ds2)
      have k := RcNeAt.tuples p1 p2 hA it
      have q : ((List.range (min its1.size its2.size)).all (fun j => eqD (ds1.getD j .non) (ds2.getD j .non)) && its1.size == its2.size) = eqDs ds1 ds2 := by
        by_cases hz : its1.size = its2.size
        · rw [eqDs_all ds1 ds2 (by omega), ← n1, hz, Nat.min_self, beq_self_eq_true, Bool.and_true]
        · rw [eqDs_len ds1 ds2 (by omega), beq_eq_false_iff_ne.mpr hz, Bool.and_false]
      rw [q] at k
      exact k
    | dct z2 p2 => exact RcNeAt.tuple_dict p2 p1 hA
  | ktp p1 r1 => cases hw with
    | non => exact RcNeAt.tuple_none p1 hA
    | bl b2 => exact RcNeAt.tuple_bool b2 p1 hA
    | int i2 t2 => exact RcNeAt.tuple_int i2 t2 p1 hA
    | str x2 t2 => exact RcNeAt.tuple_str x2 t2 p1 hA
    | lst p2 r2 => exact RcNeAt.tuple_list p1 p2 hA
    | kls p2 r2 => exact RcNeAt.tuple_list p1 p2 hA
    | tup p2 r2 =>
      cases n with
      | zero => cases hd
      | succ n =>
      rename_i l its1 ds1 l2 its2 ds2
      have n1 : its1.size = ds1.length := by have := r1.len; simpa using this
      have n2 : its2.size = ds2.length := by have := r2.len; simpa using this
      have it : ∀ j (h1 : j < its1.size) (h2 : j < its2.size), EqAt A.in1 s its1[j] its2[j] (eqD (ds1.getD j .non) (ds2.getD j .non)) := fun j h1 h2 => by
        obtain ⟨a1, m1⟩ := r1.at j (by simpa using h1)
        obtain ⟨a2, m2⟩ := r2.at j (by simpa using h2)
        have := ih n rfl (okXs_iff.mp hd _ m1) (okXs_iff.mp he _ m2) a1 a2
        simpa using this
      show RcNeAt A s _ _ (!eqDs ds1 ds2)
      have k := RcNeAt.tuples p1 p2 hA it
      have q : ((List.range (min its1.size its2.size)).all (fun j => eqD (ds1.getD j .non) (ds2.getD j .non)) && its1.size == its2.size) = eqDs ds1 ds2 := by
        by_cases hz : its1.size = its2.size
        · rw [eqDs_all ds1 ds2 (by omega), ← n1, hz, Nat.min_self, beq_self_eq_true, Bool.and_true]
        · rw [eqDs_len ds1 ds2 (by omega), beq_eq_false_iff_ne.mpr hz, Bool.and_false]
      rw [q] at k
      exact k
    | ktp p2 r2 =>
      cases n with
      | zero => cases hd
      | succ n =>
      rename_i l its1 ds1 l2 its2 ds2
      have n1 : its1.size = ds1.length := by have := r1.len; simpa using this
      have n2 : its2.size = ds2.length := by have := r2.len; simpa using this
      have it : ∀ j (h1 : j < its1.size) (h2 : j < its2.size), EqAt A.in1 s its1[j] its2[j] (eqD (ds1.getD j .non) (ds2.getD j .non)) := fun j h1 h2 => by
        obtain ⟨a1, m1⟩ := r1.at j (by simpa using h1)
        obtain ⟨a2, m2⟩ := r2.at j (by simpa using h2)
        have := ih n rfl (okXs_iff.mp hd _ m1) (okXs_iff.mp he _ m2) a1 a2
        simpa using this
      show RcNeAt A s _ _ (!eqDs ds1 ds2)
      have k := RcNeAt.tuples p1 p2 hA it
      have q : ((List.range (min its1.size its2.size)).all (fun j => eqD (ds1.getD j .non) (ds2.getD j .non)) && its1.size == its2.size) = eqDs ds1 ds2 := by
        by_cases hz : its1.size = its2.size
        · rw [eqDs_all ds1 ds2 (by omega), ← n1, hz, Nat.min_self, beq_self_eq_true, Bool.and_true]
        · rw [eqDs_len ds1 ds2 (by omega), beq_eq_false_iff_ne.mpr hz, Bool.and_false]
      rw [q] at k
      exact k
    | dct z2 p2 => exact RcNeAt.tuple_dict p2 p1 hA
  | dct z1 p1 => cases hw with
    | non => exact RcNeAt.dict_none p1 hA
    | bl b2 => exact RcNeAt.dict_bool b2 p1 hA
    | int i2 t2 => exact RcNeAt.dict_int i2 t2 p1 hA
    | str x2 t2 => exact RcNeAt.dict_str x2 t2 p1 hA
    | lst p2 r2 => exact RcNeAt.dict_list p1 p2 hA
    | kls p2 r2 => exact RcNeAt.dict_list p1 p2 hA
    | tup p2 r2 => exact RcNeAt.dict_tuple p1 p2 hA
    | ktp p2 r2 => exact RcNeAt.dict_tuple p1 p2 hA
    | dct z2 p2 => exact RcNeAt.dict_dict z1 z2 p1 p2 hA
theorem rc_eqAt {A : Around} {s : Shared} {d e : D} {v u : Value} (hv : KV s.heap v d) (hw : KV s.heap u e) (fl : ∀ {a b : Value}, (∀ l, a ≠ .ref l) ∨ (∀ l, b ≠ .ref l) → KV s.heap a d → KV s.heap b e → EqAt A s a b (eqD d e)) (h : RcAt A s v u (eqD d e)) : EqAt A s v u (eqD d e) := by
  by_cases h1 : ∃ l, v = .ref l
  · by_cases h2 : ∃ l, u = .ref l
    · obtain ⟨l, rfl⟩ := h1
      obtain ⟨b, rfl⟩ := h2
      by_cases e : l = b
      · subst e
        rw [sameK hv hw]
        exact EqAt.same _
      · exact EqAt.of_refs e h
    · exact fl (.inr fun l hl => h2 ⟨l, hl⟩) hv hw
  · exact fl (.inl fun l hl => h1 ⟨l, hl⟩) hv hw
theorem flK {A : Around} {s : Shared} (hA : A.units < cLine) {d e : D} {v u : Value} (hf : (∀ l, v ≠ .ref l) ∨ (∀ l, u ≠ .ref l)) (hv : KV s.heap v d) (hw : KV s.heap u e) : EqAt A s v u (eqD d e) := by
  cases hv with
  | non => cases hw with
    | non => exact EqAt.same _
    | bl b2 => exact EqAt.none_bool b2
    | int i2 t2 => exact EqAt.none_int i2 t2
    | str x2 t2 => exact EqAt.none_str x2 t2
    | lst p2 r2 => exact EqAt.none_list p2 hA
    | kls p2 r2 => exact EqAt.none_list p2 hA
    | tup p2 r2 => exact EqAt.none_tuple p2 hA
    | ktp p2 r2 => exact EqAt.none_tuple p2 hA
    | dct z2 p2 => exact EqAt.none_dict p2 hA
  | bl b1 => cases hw with
    | non => exact EqAt.bool_none b1
    | bl b2 => exact EqAt.bool_bool b1 b2
    | int i2 t2 => exact EqAt.bool_int b1 i2 t2
    | str x2 t2 => exact EqAt.bool_str b1 x2 t2
    | lst p2 r2 => exact EqAt.bool_list b1 p2 hA
    | kls p2 r2 => exact EqAt.bool_list b1 p2 hA
    | tup p2 r2 => exact EqAt.bool_tuple b1 p2 hA
    | ktp p2 r2 => exact EqAt.bool_tuple b1 p2 hA
    | dct z2 p2 => exact EqAt.bool_dict b1 p2 hA
  | int i1 t1 => cases hw with
    | non => exact EqAt.int_none i1 t1
    | bl b2 => exact EqAt.int_bool i1 t1 b2
    | int i2 t2 => exact EqAt.int_int i1 t1 i2 t2
    | str x2 t2 => exact EqAt.int_str i1 t1 x2 t2
    | lst p2 r2 => exact EqAt.int_list i1 t1 p2 hA
    | kls p2 r2 => exact EqAt.int_list i1 t1 p2 hA
    | tup p2 r2 => exact EqAt.int_tuple i1 t1 p2 hA
    | ktp p2 r2 => exact EqAt.int_tuple i1 t1 p2 hA
    | dct z2 p2 => exact EqAt.int_dict i1 t1 p2 hA
  | str x1 t1 => cases hw with
    | non => exact EqAt.str_none x1 t1
    | bl b2 => exact EqAt.str_bool x1 t1 b2
    | int i2 t2 => exact EqAt.str_int x1 t1 i2 t2
    | str x2 t2 => exact EqAt.str_str x1 t1 x2 t2
    | lst p2 r2 => exact EqAt.str_list x1 t1 p2 hA
    | kls p2 r2 => exact EqAt.str_list x1 t1 p2 hA
    | tup p2 r2 => exact EqAt.str_tuple x1 t1 p2 hA
    | ktp p2 r2 => exact EqAt.str_tuple x1 t1 p2 hA
    | dct z2 p2 => exact EqAt.str_dict x1 t1 p2 hA
  | lst p1 r1 => cases hw with
    | non => exact EqAt.list_none p1 hA
    | bl b2 => exact EqAt.list_bool b2 p1 hA
    | int i2 t2 => exact EqAt.list_int i2 t2 p1 hA
    | str x2 t2 => exact EqAt.list_str x2 t2 p1 hA
    | lst p2 r2 => exact absurd rfl (hf.elim (fun h => h _) (fun h => (h _ rfl).elim))
    | kls p2 r2 => exact absurd rfl (hf.elim (fun h => h _) (fun h => (h _ rfl).elim))
    | tup p2 r2 => exact absurd rfl (hf.elim (fun h => h _) (fun h => (h _ rfl).elim))
    | ktp p2 r2 => exact absurd rfl (hf.elim (fun h => h _) (fun h => (h _ rfl).elim))
    | dct z2 p2 => exact absurd rfl (hf.elim (fun h => h _) (fun h => (h _ rfl).elim))
  | kls p1 r1 => cases hw with
    | non => exact EqAt.list_none p1 hA
    | bl b2 => exact EqAt.list_bool b2 p1 hA
    | int i2 t2 => exact EqAt.list_int i2 t2 p1 hA
    | str x2 t2 => exact EqAt.list_str x2 t2 p1 hA
    | lst p2 r2 => exact absurd rfl (hf.elim (fun h => h _) (fun h => (h _ rfl).elim))
    | kls p2 r2 => exact absurd rfl (hf.elim (fun h => h _) (fun h => (h _ rfl).elim))
    | tup p2 r2 => exact absurd rfl (hf.elim (fun h => h _) (fun h => (h _ rfl).elim))
    | ktp p2 r2 => exact absurd rfl (hf.elim (fun h => h _) (fun h => (h _ rfl).elim))
    | dct z2 p2 => exact absurd rfl (hf.elim (fun h => h _) (fun h => (h _ rfl).elim))
  | tup p1 r1 => cases hw with
    | non => exact EqAt.tuple_none p1 hA
    | bl b2 => exact EqAt.tuple_bool b2 p1 hA
    | int i2 t2 => exact EqAt.tuple_int i2 t2 p1 hA
    | str x2 t2 => exact EqAt.tuple_str x2 t2 p1 hA
    | lst p2 r2 => exact absurd rfl (hf.elim (fun h => h _) (fun h => (h _ rfl).elim))
    | kls p2 r2 => exact absurd rfl (hf.elim (fun h => h _) (fun h => (h _ rfl).elim))
    | tup p2 r2 => exact absurd rfl (hf.elim (fun h => h _) (fun h => (h _ rfl).elim))
    | ktp p2 r2 => exact absurd rfl (hf.elim (fun h => h _) (fun h => (h _ rfl).elim))
    | dct z2 p2 => exact absurd rfl (hf.elim (fun h => h _) (fun h => (h _ rfl).elim))
  | ktp p1 r1 => cases hw with
    | non => exact EqAt.tuple_none p1 hA
    | bl b2 => exact EqAt.tuple_bool b2 p1 hA
    | int i2 t2 => exact EqAt.tuple_int i2 t2 p1 hA
    | str x2 t2 => exact EqAt.tuple_str x2 t2 p1 hA
    | lst p2 r2 => exact absurd rfl (hf.elim (fun h => h _) (fun h => (h _ rfl).elim))
    | kls p2 r2 => exact absurd rfl (hf.elim (fun h => h _) (fun h => (h _ rfl).elim))
    | tup p2 r2 => exact absurd rfl (hf.elim (fun h => h _) (fun h => (h _ rfl).elim))
    | ktp p2 r2 => exact absurd rfl (hf.elim (fun h => h _) (fun h => (h _ rfl).elim))
    | dct z2 p2 => exact absurd rfl (hf.elim (fun h => h _) (fun h => (h _ rfl).elim))
  | dct z1 p1 => cases hw with
    | non => exact EqAt.dict_none p1 hA
    | bl b2 => exact EqAt.dict_bool b2 p1 hA
    | int i2 t2 => exact EqAt.dict_int i2 t2 p1 hA
    | str x2 t2 => exact EqAt.dict_str x2 t2 p1 hA
    | lst p2 r2 => exact absurd rfl (hf.elim (fun h => h _) (fun h => (h _ rfl).elim))
    | kls p2 r2 => exact absurd rfl (hf.elim (fun h => h _) (fun h => (h _ rfl).elim))
    | tup p2 r2 => exact absurd rfl (hf.elim (fun h => h _) (fun h => (h _ rfl).elim))
    | ktp p2 r2 => exact absurd rfl (hf.elim (fun h => h _) (fun h => (h _ rfl).elim))
    | dct z2 p2 => exact absurd rfl (hf.elim (fun h => h _) (fun h => (h _ rfl).elim))
theorem eqK {s : Shared} : ∀ (n : Nat) (A : Around) {d e : D} {v u : Value}, A.units + n < cLine → okX n d = true → okX n e = true → KV s.heap v d → KV s.heap u e → EqAt A s v u (eqD d e)
  | 0, A, d, e, v, u, hu, hd, he, hv, hw => rc_eqAt hv hw (fun f a b => flK (by omega) f a b) (rcK 0 A hu hd he hv hw fun m _ _ _ _ h => by omega)
  | n + 1, A, d, e, v, u, hu, hd, he, hv, hw => rc_eqAt hv hw (fun f a b => flK (by omega) f a b) (rcK (n + 1) A hu hd he hv hw fun m d e v u h h1 h2 h3 h4 => by
    cases h
    exact eqK n A.in1 (by show A.units + 1 + n < cLine; omega) h1 h2 h3 h4)
theorem rcX {s : Shared} (n : Nat) (A : Around) {d e : D} {v u : Value} (hu : A.units + n < cLine) (hd : okX n d = true) (he : okX n e = true) (hv : KV s.heap v d) (hw : KV s.heap u e) : RcAt A s v u (eqD d e) :=
  rcK n A hu hd he hv hw fun m d e v u h h1 h2 h3 h4 => by
    subst h
    exact eqK m A.in1 (by show A.units + 1 + m < cLine; omega) h1 h2 h3 h4
theorem rnX {s : Shared} (n : Nat) (A : Around) {d e : D} {v u : Value} (hu : A.units + n < cLine) (hd : okX n d = true) (he : okX n e = true) (hv : KV s.heap v d) (hw : KV s.heap u e) : RcNeAt A s v u (!eqD d e) :=
  rnK n A hu hd he hv hw fun m d e v u h h1 h2 h3 h4 => by
    subst h
    exact eqK m A.in1 (by show A.units + 1 + m < cLine; omega) h1 h2 h3 h4
end DE

section
set_option autoImplicit false
/-! DLG2: more constructs over data. -/
namespace DL
open PySem
/-- an empty dict, by what its keys will be -/
def eNewK : E := fun r => .ok (.tm (.dct [])) r
def eNewT : E := fun r => .ok (.tm (.dtt [])) r
/-- {k: v} -/
def eDisp1 (k v : E) : E := fun r => match k r with
  | .ok o r1 => match v r1 with
    | .ok p r2 => match rsv r2 o with
      | some dk => match keyD dk with
        | some key => match fzo r2 p with
          | some (dv, r3) => .ok (.tm (.dct [(key, dv)])) r3
          | none => .bad
        | none => .bad
      | none => .bad
    | .err c r2 => .err c r2
    | .bad => .bad
  | .err c r1 => .err c r1
  | .bad => .bad
def gDictOf : List D → Option Op
  | [.dct kvs] => some (.tm (.dct kvs))
  | _ => none
def gStr : List D → Option Op
  | [.int i] => if i.natAbs.log2 < 1920 then some (.fz (.str (toString i))) else none
  | [.str x] => some (.fz (.str x))
  | _ => none
/-- x[::-1] of a list -/
def gRev : D → Option Op
  | .lst xs => some (.tm (.lst xs.reverse))
  | .kls xs => some (.tm (.lst xs.reverse))
  | _ => none
/-- list(range(a)), list(range(a, b)) -/
def eLstR1 (a : E) : E := fun r => match a r with
  | .ok (.fz (.int j)) r1 => if (-(2 ^ 62) ≤ j ∧ j < 2 ^ 62) ∧ j.toNat ≤ SZ then .ok (.tm (.lst (upFrom 0 j.toNat))) r1 else .bad
  | .ok _ _ => .bad
  | .err c r1 => .err c r1
  | .bad => .bad
def eLstR2 (a b : E) : E := fun r => match a r with
  | .ok (.fz (.int i)) r1 => match b r1 with
    | .ok (.fz (.int j)) r2 => if ((-(2 ^ 62) ≤ i ∧ i < 2 ^ 62) ∧ -(2 ^ 62) ≤ j ∧ j < 2 ^ 62) ∧ (j - i).toNat ≤ SZ then .ok (.tm (.lst (upFrom i (j - i).toNat))) r2 else .bad
    | .ok _ _ => .bad
    | .err c r2 => .err c r2
    | .bad => .bad
  | .ok _ _ => .bad
  | .err c r1 => .err c r1
  | .bad => .bad
def zipD : List D → List D → List D
  | x :: xs, y :: ys => .tup [x, y] :: zipD xs ys
  | _, _ => []
/-- zip of two lists, of two tuples -/
def iZip (a b : E) : I := fun r => match a r with
  | .ok o r1 => match b r1 with
    | .ok p r2 => match fzo r2 o with
      | some (x, r3) => match fzo r3 p with
        | some (y, r4) => match asL x, asL y with
          | some xs, some ys => .ok (zipD xs ys) r4
          | _, _ => match asT x, asT y with
            | some xs, some ys => .ok (zipD xs ys) r4
            | _, _ => .bad
        | none => .bad
      | none => .bad
    | .err c r2 => .err c r2
    | .bad => .bad
  | .err c r1 => .err c r1
  | .bad => .bad
def enumD (i : Int) : List D → List D
  | [] => []
  | x :: xs => .tup [.int i, x] :: enumD (i + 1) xs
def iEnum (a : E) : I := fun r => match a r with
  | .ok o r1 => match fzo r1 o with
    | some (x, r2) => match asL x with
      | some xs => .ok (enumD 0 xs) r2
      | none => .bad
    | none => .bad
  | .err c r1 => .err c r1
  | .bad => .bad
def isDc : Option D → Bool
  | some (.dct _) => true
  | some (.dtt _) => true
  | _ => false
/-- d.get(k, x) -/
def eGet2 (d k x : E) : E := fun r => match d r with
  | .ok o r1 => if isDc (rsv r1 o) = true then (match k r1 with
    | .ok p r2 => match x r2 with
      | .ok (.fz dx) r3 => match rsv r3 o, rsv r3 p with
        | some dd, some dk => match dget dd dk with
          | some (some v) => .ok (.fz v) r3
          | some none => .ok (.fz dx) r3
          | none => .bad
        | _, _ => .bad
      | .ok _ _ => .bad
      | .err c r3 => .err c r3
      | .bad => .bad
    | .err c r2 => .err c r2
    | .bad => .bad) else .bad
  | .err c r1 => .err c r1
  | .bad => .bad
/-- l.insert(i, y) -/
def gInsert : D → List D → Option (D × Op)
  | .lst xs, [.int i, y] => if xs.length < SZ ∧ 0 ≤ i ∧ i < 2 ^ 63 then some (.lst (xs.take i.toNat ++ [y] ++ xs.drop i.toNat), .fz .non) else none
  | _, _ => none
/-- a dict comprehension -/
def dcGo (vs : List Nat) (t : Tg) (c : T) (k v : E) (r0 : Ev) : List D → List (DK × D) → Ev → EOut
  | [], acc, r => .ok (.tm (.dct acc)) (backE r0 r vs)
  | d :: ds, acc, r => match t.put d (wipeE r vs) with
    | some r1 => match c r1 with
      | .ok true r2 => match k r2 with
        | .ok o r3 => match v r3 with
          | .ok p r4 => match rsv r4 o with
            | some dk => match keyD dk with
              | some key => match fzo r4 p with
                | some (dv, r5) => if acc.length < SZ then dcGo vs t c k v r0 ds (putD acc key dv) r5 else .bad
                | none => .bad
              | none => .bad
            | none => .bad
          | _ => .bad
        | _ => .bad
      | .ok false r2 => dcGo vs t c k v r0 ds acc r2
      | _ => .bad
    | none => .bad
def eDc (vs : List Nat) (t : Tg) (it : I) (c : T) (k v : E) : E := fun r => match it r with
  | .ok ds r1 => if vs.all (fun v => !isOw r1[v]?) then dcGo vs t c k v r1 ds [] r1 else .bad
  | .err c r1 => .err c r1
  | .bad => .bad
end DL
end

section
set_option autoImplicit false
/-! DLG3: walks over a dict. -/
namespace DL
open PySem
def kD : DK → D
  | .inl i => .int i
  | .inr x => .str x
def isK : Option Sl → Bool
  | some (.va (.dct _)) => true
  | some (.ow _ (.dct _)) => true
  | _ => false
/-- the keys of the dict in slot i, which stands still -/
def iKeysD (i : Nat) : I := fun r => match r[i]? with
  | some (.va (.dct kvs)) => .ok (kvs.map fun p => kD p.1) r
  | _ => .bad
/-- a comprehension over what slot i holds: a dict, else a row -/
def eLcN (vs : List Nat) (t : Tg) (i : Nat) (c : T) (e : E) : E := fun r => if isK r[i]? = true then (match fzo r (.br i) with
  | some (_, r1) => eLc vs t (iKeysD i) c e r1
  | none => .bad) else eLc vs t (iSeq (eName i)) c e r
def eDcN (vs : List Nat) (t : Tg) (i : Nat) (c : T) (k v : E) : E := fun r => if isK r[i]? = true then (match fzo r (.br i) with
  | some (_, r1) => eDc vs t (iKeysD i) c k v r1
  | none => .bad) else eDc vs t (iSeq (eName i)) c k v r
/-- raise of an error that no law meets -/
def sBad : S := fun _ => .bad
/-- whole numbers of a row of keys -/
def keysI : List DK → Option (List Int)
  | [] => some []
  | .inl i :: r => match keysI r with
    | some ns => some (i :: ns)
    | none => none
  | .inr _ :: _ => none
/-- sorted, also of a dict -/
def gSortedD (ds : List D) : Option Op := match ds with
  | [.dct kvs] => match keysI (kvs.map (·.1)) with
    | some ns => some (.tm (.lst ((sortI ns).map .int)))
    | none => none
  | ds => gSorted ds
end DL
end

section
set_option autoImplicit false
/-! DLG4: an expression that changes nothing: it is taken where everything stands still. -/
namespace DL
open PySem
def frzS : Sl → Sl
  | .ow _ d => .va d
  | s => s
def frzAll (r : Ev) : Ev := r.map frzS
/-- flat results of an expression that changes nothing; else as before -/
def eQ (f : E) : E := fun r => match f (frzAll r) with
  | .ok (.fz d) _ => if flatD d = true then .ok (.fz d) r else f r
  | .ok (.tm (.lst acc)) _ => if acc.all flatD = true then .ok (.tm (.lst acc)) r else f r
  | _ => f r
end DL
end

section
set_option autoImplicit false
/-! DLG5: the order of data; in, [::-1], enumerate of tuples; sorted of rows of data. -/
namespace DL
open PySem
mutual
def ltD : D → D → Bool
  | .bl a, .bl b => !a && b
  | .int i, .int j => decide (i < j)
  | .str x, .str y => decide (x.cps.toList < y.cps.toList)
  | .tup xs, .tup ys => ltDs xs ys
  | .tup xs, .ktp ys => ltDs xs ys
  | .ktp xs, .tup ys => ltDs xs ys
  | .ktp xs, .ktp ys => ltDs xs ys
  | .lst xs, .lst ys => ltDs xs ys
  | .lst xs, .kls ys => ltDs xs ys
  | .kls xs, .lst ys => ltDs xs ys
  | .kls xs, .kls ys => ltDs xs ys
  | _, _ => false
def ltDs : List D → List D → Bool
  | [], [] => false
  | [], _ :: _ => true
  | _ :: _, [] => false
  | x :: xs, y :: ys => if eqD x y then ltDs xs ys else ltD x y
end
/-! the two can be compared, place by place -/
mutual
def alD : D → D → Bool
  | .non, .non => true
  | .bl _, .bl _ => true
  | .int _, .int _ => true
  | .str _, .str _ => true
  | .tup xs, .tup ys => alDs xs ys
  | .tup xs, .ktp ys => alDs xs ys
  | .ktp xs, .tup ys => alDs xs ys
  | .ktp xs, .ktp ys => alDs xs ys
  | .lst xs, .lst ys => alDs xs ys
  | .lst xs, .kls ys => alDs xs ys
  | .kls xs, .lst ys => alDs xs ys
  | .kls xs, .kls ys => alDs xs ys
  | _, _ => false
def alDs : List D → List D → Bool
  | x :: xs, y :: ys => alD x y && alDs xs ys
  | [], _ => true
  | _ :: _, [] => true
end
def isNon : D → Bool
  | .non => true
  | _ => false
def cmpOk (x y : D) : Bool := okD 64 x && okD 64 y && alD x y && !isNon x
def cmpB (x y : D) (b : Bool) : Option Op := if cmpOk x y then some (.fz (.bl b)) else none
def gLtA (x y : D) : Option Op := (gLt x y).or (cmpB x y (ltD x y))
def gLeA (x y : D) : Option Op := (gLe x y).or (cmpB x y (!ltD y x))
def gGtA (x y : D) : Option Op := (gGt x y).or (cmpB x y (ltD y x))
def gGeA (x y : D) : Option Op := (gGe x y).or (cmpB x y (!ltD x y))
def inT (neg : Bool) (x y : D) : Option Op := match y with
  | .tup ys => if okD 64 x && okD 64 (.tup ys) then some (.fz (.bl (if neg then !ys.any (fun z => eqD z x) else ys.any fun z => eqD z x))) else none
  | .ktp ys => if okD 64 x && okD 64 (.ktp ys) then some (.fz (.bl (if neg then !ys.any (fun z => eqD z x) else ys.any fun z => eqD z x))) else none
  | _ => none
def gInA (x y : D) : Option Op := (gIn x y).or (inT false x y)
def gNotInA (x y : D) : Option Op := (gNotIn x y).or (inT true x y)
/-! ### sorted -/
def isTupNe : D → Bool
  | .tup (_ :: _) => true
  | .ktp (_ :: _) => true
  | _ => false
def isPlainK : D → Bool
  | .non => false
  | .tup _ => false
  | .ktp _ => false
  | _ => true
def srtOk (xs : List D) : Bool := okDs 60 xs && xs.all (fun x => xs.all fun y => alD x y) && (xs.all isTupNe || xs.all isPlainK)
def srtD (xs : List D) : List D := xs.mergeSort fun a b => !ltD b a
def gSortedA : List D → Option Op
  | [.lst xs] => if srtOk xs then some (.tm (.lst (srtD xs))) else none
  | _ => none
def gSortedT : List D → Option Op
  | [.dtt kvs] => if srtOk (kvs.map fun p => .tup (p.1.map kD)) then some (.tm (.lst (srtD (kvs.map fun p => .tup (p.1.map kD))))) else none
  | _ => none
def gSortedE (ds : List D) : Option Op := (gSortedD ds).or ((gSortedA ds).or (gSortedT ds))
end DL

section
set_option autoImplicit false
namespace DL
open PySem
/-- x[::-1] -/
def gRevA (d : D) : Option Op := match d with
  | .tup xs => some (.fz (.tup xs.reverse))
  | d => gRev d
end DL
namespace DL
open PySem
/-- tuple(range(a)) -/
def eTupR1 (a : E) : E := fun r => match a r with
  | .ok (.fz (.int j)) r1 => if (-(2 ^ 62) ≤ j ∧ j < 2 ^ 62) ∧ j.toNat ≤ SZ then .ok (.fz (.tup (upFrom 0 j.toNat))) r1 else .bad
  | .ok _ _ => .bad
  | .err c r1 => .err c r1
  | .bad => .bad
end DL
end

section
set_option Elab.async false
set_option linter.all false
set_option maxRecDepth 100000
set_option autoImplicit false
/-! DL1: data in the abstract heap; the state of a frame; the judgements over data. -/
namespace DL
open PySem PySem.Spec PyProof.Rows L2
abbrev FG := PySem.W.Frag

/-! ### data that stands still: G holds the objects that are not changed any more -/
mutual
inductive RD (K : FG) (G : Hp) : D → V → Prop
  | non : RD K G .non .non
  | bl (b : Bool) : RD K G (.bl b) (.bl b)
  | int (i : Int) : RD K G (.int i) (.int i)
  | str (x : Str) : RD K G (.str x) (.str x)
  | tup {a : Addr} {vs : List V} {ds : List D} : G a = some (.tup vs) → RDs K G ds vs → RD K G (.tup ds) (.ref a)
  | ktp {a : Addr} {vs : List V} {ds : List D} : SqT K G a vs → RDs K G ds vs → RD K G (.ktp ds) (.ref a)
  | kls {a : Addr} {vs : List V} {ds : List D} : SqL K G a vs → RDs K G ds vs → RD K G (.kls ds) (.ref a)
  | lst {a : Addr} {vs : List V} {ds : List D} : G a = some (.lst vs) → RDs K G ds vs → RD K G (.lst ds) (.ref a)
  | dct {a : Addr} {ws : List (Key × V)} {kvs : List (DK × D)} : Rd G a (.dK ws) → ws.map (·.1) = kvs.map (·.1) → RDs K G (kvs.map (·.2)) (ws.map (·.2)) → RD K G (.dct kvs) (.ref a)
  | dtt {a : Addr} {ws : List (List Key × V)} {kvs : List (List DK × D)} : G a = some (.dT ws) → ws.map (·.1) = kvs.map (·.1) → RDs K G (kvs.map (·.2)) (ws.map (·.2)) → RD K G (.dtt kvs) (.ref a)
inductive RDs (K : FG) (G : Hp) : List D → List V → Prop
  | nil : RDs K G [] []
  | cons {d : D} {v : V} {ds : List D} {vs : List V} : RD K G d v → RDs K G ds vs → RDs K G (d :: ds) (v :: vs)
end
theorem Same.rd {H H' : Hp} {a : Addr} {u : HO} (e : Same H H') (h : Rd H a u) : Rd H' a u := by
  rcases h with h | ⟨o, h⟩
  · exact .inl (e _ _ h)
  · exact .inr ⟨o, e _ _ h⟩
theorem Same.seqT {K : FG} {H H' : Hp} {a : Addr} {xs : List V} (e : Same H H') (h : SqT K H a xs) : SqT K H' a xs := by
  rcases h with (h | ⟨o, h⟩) | h
  · exact .inl (.inl (e _ _ h))
  · exact .inl (.inr ⟨o, e _ _ h⟩)
  · exact .inr h
mutual
theorem RD.mono {K : FG} {G G' : Hp} (sm : Same G G') : ∀ {d : D} {v : V}, RD K G d v → RD K G' d v
  | _, _, .non => .non
  | _, _, .bl b => .bl b
  | _, _, .int i => .int i
  | _, _, .str x => .str x
  | _, _, .tup h r => .tup (sm _ _ h) (RDs.mono sm r)
  | _, _, .ktp h r => .ktp (Same.seqT sm h) (RDs.mono sm r)
  | _, _, .kls h r => .kls (sm.seq h) (RDs.mono sm r)
  | _, _, .lst h r => .lst (sm _ _ h) (RDs.mono sm r)
  | _, _, .dct h e r => .dct (Same.rd sm h) e (RDs.mono sm r)
  | _, _, .dtt h e r => .dtt (sm _ _ h) e (RDs.mono sm r)
theorem RDs.mono {K : FG} {G G' : Hp} (sm : Same G G') : ∀ {ds : List D} {vs : List V}, RDs K G ds vs → RDs K G' ds vs
  | _, _, .nil => .nil
  | _, _, .cons a b => .cons (RD.mono sm a) (RDs.mono sm b)
end
section
variable {K : FG} {G G' H H' : Hp}
theorem RDs.length : ∀ {ds : List D} {vs : List V}, RDs K G ds vs → ds.length = vs.length
  | _, _, .nil => rfl
  | _, _, .cons _ b => congrArg (· + 1) b.length
theorem RDs.append : ∀ {ds es : List D} {vs ws : List V}, RDs K G ds vs → RDs K G es ws → RDs K G (ds ++ es) (vs ++ ws)
  | _, _, _, _, .nil, s => s
  | _, _, _, _, .cons a b, s => .cons a (b.append s)
theorem RDs.one {d : D} {v : V} (h : RD K G d v) : RDs K G [d] [v] := .cons h .nil
theorem RDs.take : ∀ (n : Nat) {ds : List D} {vs : List V}, RDs K G ds vs → RDs K G (ds.take n) (vs.take n)
  | 0, _, _, _ => by simp; exact .nil
  | _ + 1, _, _, .nil => .nil
  | n + 1, _, _, .cons a b => .cons a (b.take n)
theorem RDs.drop : ∀ (n : Nat) {ds : List D} {vs : List V}, RDs K G ds vs → RDs K G (ds.drop n) (vs.drop n)
  | 0, _, _, h => h
  | _ + 1, _, _, .nil => .nil
  | n + 1, _, _, .cons a b => b.drop n
theorem RDs.get : ∀ {ds : List D} {vs : List V} {i : Nat} {d : D}, RDs K G ds vs → ds[i]? = some d → ∃ v, vs[i]? = some v ∧ RD K G d v
  | _, _, _, _, .nil, e => by simp at e
  | _, _, 0, _, .cons a b, e => by simp at e; subst e; exact ⟨_, rfl, a⟩
  | _, _, i + 1, _, .cons a b, e => by simpa using b.get (i := i) (by simpa using e)
theorem RDs.get' : ∀ {ds : List D} {vs : List V} {i : Nat} {v : V}, RDs K G ds vs → vs[i]? = some v → ∃ d, ds[i]? = some d ∧ RD K G d v
  | _, _, _, _, .nil, e => by simp at e
  | _, _, 0, _, .cons a b, e => by simp at e; subst e; exact ⟨_, rfl, a⟩
  | _, _, i + 1, _, .cons a b, e => by simpa using b.get' (i := i) (by simpa using e)
theorem RDs.set : ∀ {ds : List D} {vs : List V} (i : Nat) {d : D} {v : V}, RDs K G ds vs → RD K G d v → RDs K G (ds.set i d) (vs.set i v)
  | _, _, _, _, _, .nil, _ => .nil
  | _, _, 0, _, _, .cons a b, h => .cons h b
  | _, _, i + 1, _, _, .cons a b, h => .cons a (b.set i h)
theorem RDs.eraseIdx : ∀ {ds : List D} {vs : List V} (i : Nat), RDs K G ds vs → RDs K G (ds.eraseIdx i) (vs.eraseIdx i)
  | _, _, _, .nil => .nil
  | _, _, 0, .cons a b => b
  | _, _, i + 1, .cons a b => .cons a (b.eraseIdx i)
theorem RDs.reverse {ds : List D} {vs : List V} (h : RDs K G ds vs) : RDs K G ds.reverse vs.reverse := by
  induction h using RDs.rec (motive_1 := fun _ _ _ => True) with
  | nil => exact .nil
  | cons a b _ ih => simp only [List.reverse_cons]; exact ih.append (.one a)
  | _ => trivial

/-- data that may be read: the top object of a list, a dict as it stands in H -/
def RH (K : FG) (G H : Hp) : D → V → Prop
  | .lst ds, v => ∃ a vs, v = .ref a ∧ H a = some (.lst vs) ∧ RDs K G ds vs
  | .dct kvs, v => ∃ a ws, v = .ref a ∧ Rd H a (.dK ws) ∧ ws.map (·.1) = kvs.map (·.1) ∧ RDs K G (kvs.map (·.2)) (ws.map (·.2))
  | .dtt kvs, v => ∃ a ws, v = .ref a ∧ H a = some (.dT ws) ∧ ws.map (·.1) = kvs.map (·.1) ∧ RDs K G (kvs.map (·.2)) (ws.map (·.2))
  | d, v => RD K G d v
theorem RD.rh (sg : Same G H) : ∀ {d : D} {v : V}, RD K G d v → RH K G H d v
  | _, _, .non => .non
  | _, _, .bl b => .bl b
  | _, _, .int i => .int i
  | _, _, .str x => .str x
  | _, _, .tup h r => .tup h r
  | _, _, .ktp h r => .ktp h r
  | _, _, .kls h r => .kls h r
  | _, _, .lst h r => ⟨_, _, rfl, sg _ _ h, r⟩
  | _, _, .dct h e r => ⟨_, _, rfl, Same.rd sg h, e, r⟩
  | _, _, .dtt h e r => ⟨_, _, rfl, sg _ _ h, e, r⟩
/-- an object that may be changed -/
def RM (K : FG) (G H : Hp) (a : Addr) : D → Prop
  | .lst ds => ∃ vs, H a = some (.lst vs) ∧ RDs K G ds vs
  | .dct kvs => ∃ ws, H a = some (.dK ws) ∧ ws.map (·.1) = kvs.map (·.1) ∧ RDs K G (kvs.map (·.2)) (ws.map (·.2))
  | .dtt kvs => ∃ ws, H a = some (.dT ws) ∧ ws.map (·.1) = kvs.map (·.1) ∧ RDs K G (kvs.map (·.2)) (ws.map (·.2))
  | _ => False
theorem RM.rh {a : Addr} : ∀ {d : D}, RM K G H a d → RH K G H d (.ref a)
  | .lst _, ⟨_, h, r⟩ => ⟨_, _, rfl, h, r⟩
  | .dct _, ⟨_, h, e, r⟩ => ⟨_, _, rfl, .inl h, e, r⟩
  | .dtt _, ⟨_, h, e, r⟩ => ⟨_, _, rfl, h, e, r⟩
theorem RM.at {a : Addr} (sm : Same G G') (e : H' a = H a) : ∀ {d : D}, RM K G H a d → RM K G' H' a d
  | .lst _, ⟨_, h, r⟩ => ⟨_, e.trans h, r.mono sm⟩
  | .dct _, ⟨_, h, e', r⟩ => ⟨_, e.trans h, e', r.mono sm⟩
  | .dtt _, ⟨_, h, e', r⟩ => ⟨_, e.trans h, e', r.mono sm⟩
theorem RM.there {a : Addr} : ∀ {d : D}, RM K G H a d → ∃ o, H a = some o
  | .lst _, ⟨_, h, _⟩ => ⟨_, h⟩
  | .dct _, ⟨_, h, _⟩ => ⟨_, h⟩
  | .dtt _, ⟨_, h, _⟩ => ⟨_, h⟩
/-- it is put away: it stands in G from now on -/
theorem RM.freeze {a : Addr} (hn : G a = none) : ∀ {d : D}, RM K G H a d → ∃ o, H a = some o ∧ RD K (upd G a o) d (.ref a)
  | .lst _, ⟨_, h, r⟩ => ⟨_, h, .lst upd_same (r.mono fun b x e => by rw [upd_ne (ne_of_none e hn)]; exact e)⟩
  | .dct _, ⟨_, h, e, r⟩ => ⟨_, h, .dct (.inl upd_same) e (r.mono fun b x e => by rw [upd_ne (ne_of_none e hn)]; exact e)⟩
  | .dtt _, ⟨_, h, e, r⟩ => ⟨_, h, .dtt upd_same e (r.mono fun b x e => by rw [upd_ne (ne_of_none e hn)]; exact e)⟩
end
theorem same_new {G : Hp} {a : Addr} {o : HO} (hn : G a = none) : Same G (upd G a o) := fun b x e => by rw [upd_ne (ne_of_none e hn)]; exact e
theorem same_in {G H : Hp} {a : Addr} {o : HO} (sg : Same G H) (h : H a = some o) : Same (upd G a o) H := fun b x e => by
  by_cases hb : b = a
  · subst hb; rw [upd_same] at e; rw [h]; exact e
  · rw [upd_ne hb] at e; exact sg b x e

/-- it is new, or a tuple that stands there -/
def nw (H : Hp) (a : Addr) (o : HO) : Prop := H a = none ∨ H a = some o ∧ ∃ vs, o = HO.tup vs
theorem nw.no {H : Hp} {a : Addr} {o u : HO} (k : nw H a o) (h : H a = some u) (nt : ∀ vs, u ≠ HO.tup vs) : False := by
  rcases k with k | ⟨k, vs, e⟩
  · rw [h] at k; cases k
  · rw [h] at k; cases k; exact nt vs e
theorem nw.back {Hs H : Hp} {a : Addr} {o : HO} {own : Prop} (h : ∀ u, Hs a = some u → ¬ own → H a = some u) (n : H a = none → Hs a = none) (k : nw H a o) : nw Hs a o ∨ own := by
  by_cases w : own
  · exact .inr w
  · refine .inl ?_
    cases q : Hs a with
    | none => exact .inl q
    | some u =>
      have e := h u q w
      rcases k with k | ⟨k, t⟩
      · rw [n k] at q; cases q
      · rw [e] at k; cases k; exact .inr ⟨q, t⟩
theorem nw.congr {H H' : Hp} {a : Addr} {o : HO} (e : H' a = H a) (k : nw H a o) : nw H' a o := by
  unfold nw at k ⊢
  rw [e]; exact k
theorem RM.notTup {K : FG} {G H : Hp} {a : Addr} {d : D} {vs : List V} (h : RM K G H a d) (e : H a = some (.tup vs)) : False := by
  cases d with
  | lst _ => obtain ⟨_, k, _⟩ := h; rw [e] at k; cases k
  | dct _ => obtain ⟨_, k, _⟩ := h; rw [e] at k; cases k
  | dtt _ => obtain ⟨_, k, _⟩ := h; rw [e] at k; cases k
  | _ => exact h.elim
theorem RM.notNw {K : FG} {G H : Hp} {a : Addr} {d : D} {o : HO} (h : RM K G H a d) (k : nw H a o) : False := by
  rcases k with k | ⟨k, vs, rfl⟩
  · obtain ⟨o, e⟩ := h.there
    rw [e] at k; cases k
  · exact h.notTup k
/-! ### a frame's state -/
structure Fr0 where
  G0 : Hp
  H0 : Hp
  io : List Addr
structure RS (K : FG) (Z : Fr0) (G H : Hp) (r : Ev) (σ : L2.St) : Prop where
  len : r.length = σ.length
  sg : Same G H
  g0 : Same Z.G0 G
  h0 : ∀ a o, Z.H0 a = some o → a ∉ Z.io → H a = some o
  dm : ∀ a, H a = none → Z.H0 a = none
  fr : ∀ a o, G a = some o → Z.G0 a = some o ∨ nw Z.H0 a o ∨ a ∈ Z.io
  va : ∀ (i : Nat) (d : D), r[i]? = some (.va d) → ∃ v : V, σ[i]? = some (some v) ∧ RD K G d v
  ow : ∀ (i : Nat) (b : Bool) (d : D), r[i]? = some (.ow b d) → ∃ a : Addr, σ[i]? = some (some (V.ref a)) ∧ G a = none ∧ RM K G H a d ∧ (if b then a ∈ Z.io else Z.H0 a = none)
  inj : ∀ (i j : Nat) (a : Addr), isOw r[i]? = true → isOw r[j]? = true → σ[i]? = some (some (V.ref a)) → σ[j]? = some (some (V.ref a)) → i = j
def ownAt (r : Ev) (σ : L2.St) (a : Addr) : Prop := ∃ i : Nat, isOw r[i]? = true ∧ σ[i]? = some (some (V.ref a))
theorem isOw_some {x : Option Sl} (h : isOw x = true) : ∃ b d, x = some (.ow b d) := by
  cases x with
  | none => cases h
  | some y => cases y with
    | ow b d => exact ⟨b, d, rfl⟩
    | _ => cases h
/-- an expression's effect -/
structure EX (σ : L2.St) (G H : Hp) (r : Ev) (G' H' : Hp) (r' : Ev) : Prop where
  g : Same G G'
  h : ∀ a o, H a = some o → ¬ ownAt r σ a → H' a = some o
  n : ∀ a, H' a = none → H a = none
  f : ∀ a o, G' a = some o → G a = some o ∨ nw H a o ∨ ownAt r σ a
  o : ∀ a, ownAt r' σ a → ownAt r σ a
theorem EX.refl {σ : L2.St} {G H : Hp} {r : Ev} : EX σ G H r G H r := ⟨Same.refl _, fun _ _ h _ => h, fun _ h => h, fun _ _ h => .inl h, fun _ h => h⟩
theorem EX.trans {σ : L2.St} {G H G1 H1 G2 H2 : Hp} {r r1 r2 : Ev} (a : EX σ G H r G1 H1 r1) (b : EX σ G1 H1 r1 G2 H2 r2) : EX σ G H r G2 H2 r2 where
  g := a.g.trans b.g
  h := fun c o h n => b.h c o (a.h c o h n) fun k => n (a.o c k)
  n := fun c h => a.n c (b.n c h)
  f := fun c o h => by
    rcases b.f c o h with h | h | h
    · exact a.f c o h
    · by_cases own : ownAt r σ c
      · exact .inr (.inr own)
      · refine .inr (.inl ?_)
        cases q : H c with
        | none => exact .inl q
        | some u =>
          have e := a.h c u q own
          rcases h with h | ⟨h, k⟩
          · rw [e] at h; cases h
          · rw [e] at h; cases h; exact .inr ⟨q, k⟩
    · exact .inr (.inr (a.o c h))
  o := fun c h => a.o c (b.o c h)
/-- an operand's value -/
def RO (K : FG) (Z : Fr0) (σ : L2.St) (B G H : Hp) (r : Ev) : Op → V → Prop
  | .fz d, v => RD K G d v
  | .br i, v => σ[i]? = some (some v)
  | .tm d, v => ∃ a, v = .ref a ∧ G a = none ∧ (Z.H0 a = none ∧ B a = none) ∧ ¬ ownAt r σ a ∧ RM K G H a d
theorem RO.keep {K : FG} {Z : Fr0} {σ : L2.St} {B G H G' H' : Hp} {r r' : Ev} (x : EX σ G H r G' H' r') : ∀ {o : Op} {v : V}, RO K Z σ B G H r o v → RO K Z σ B G' H' r' o v
  | .fz _, _, h => RD.mono x.g h
  | .br _, _, h => h
  | .tm _, _, ⟨a, e, h1, h2, h3, h4⟩ => by
    obtain ⟨o, ho⟩ := h4.there
    refine ⟨a, e, ?_, h2, fun k => h3 (x.o a k), h4.at x.g ((x.h a o ho h3).trans ho.symm)⟩
    cases q : G' a with
    | none => rfl
    | some u =>
      rcases x.f a u q with k | k | k
      · rw [h1] at k; cases k
      · exact (h4.notNw k).elim
      · exact absurd k h3
theorem RO.base {K : FG} {Z : Fr0} {σ : L2.St} {B B' G H : Hp} {r : Ev} (n : ∀ a, B a = none → B' a = none) : ∀ {o : Op} {v : V}, RO K Z σ B G H r o v → RO K Z σ B' G H r o v
  | .fz _, _, h => h
  | .br _, _, h => h
  | .tm _, _, ⟨a, e, h1, h2, h3, h4⟩ => ⟨a, e, h1, ⟨h2.1, n a h2.2⟩, h3, h4⟩
/-- operands' values -/
inductive ROs (K : FG) (Z : Fr0) (σ : L2.St) (B G H : Hp) (r : Ev) : List Op → List V → Prop
  | nil : ROs K Z σ B G H r [] []
  | cons {o : Op} {v : V} {os : List Op} {vs : List V} : RO K Z σ B G H r o v → ROs K Z σ B G H r os vs → ROs K Z σ B G H r (o :: os) (v :: vs)
theorem RO.rsv {K : FG} {Z : Fr0} {σ : L2.St} {B G H : Hp} {r : Ev} (S : RS K Z G H r σ) : ∀ {o : Op} {v : V} {d : D}, RO K Z σ B G H r o v → rsv r o = some d → RH K G H d v
  | .fz _, _, _, h, e => by cases e; exact RD.rh S.sg h
  | .tm _, _, _, ⟨a, e1, _, _, _, h⟩, e => by cases e; subst e1; exact h.rh
  | .br i, v, d, h, e => by
    have h' : σ[i]? = some (some v) := h
    unfold DL.rsv at e
    cases q : r[i]? with
    | none => simp [q] at e
    | some s =>
      cases s with
      | no => simp [q] at e
      | va d' =>
        simp only [q] at e; cases e
        obtain ⟨v', e1, e2⟩ := S.va i d q
        rw [h'] at e1; cases e1
        exact e2.rh S.sg
      | ow b d' =>
        simp only [q] at e; cases e
        obtain ⟨a, e1, e2, e3, _⟩ := S.ow i b d q
        rw [h'] at e1; cases e1
        exact e3.rh
inductive RHs (K : FG) (G H : Hp) : List D → List V → Prop
  | nil : RHs K G H [] []
  | cons {d : D} {v : V} {ds : List D} {vs : List V} : RH K G H d v → RHs K G H ds vs → RHs K G H (d :: ds) (v :: vs)
theorem ROs.rsvs {K : FG} {Z : Fr0} {σ : L2.St} {B G H : Hp} {r : Ev} (S : RS K Z G H r σ) : ∀ {os : List Op} {vs : List V} {ds : List D}, ROs K Z σ B G H r os vs → rsvs r os = some ds → RHs K G H ds vs
  | [], _, _, .nil, e => by cases e; exact .nil
  | o :: os, _, ds, .cons a b, e => by
    unfold DL.rsvs at e
    cases q : rsv r o with
    | none => simp [q] at e
    | some d =>
      cases q2 : DL.rsvs r os with
      | none => simp [q, q2] at e
      | some ds' =>
        simp only [q, q2] at e; cases e
        exact .cons (a.rsv S q) (ROs.rsvs S b q2)
theorem isOw_set {r : Ev} {i j : Nat} {d : D} (h : isOw (r.set i (.va d))[j]? = true) : isOw r[j]? = true ∧ j ≠ i := by
  by_cases e : i = j
  · subst e
    by_cases hl : i < r.length
    · rw [List.getElem?_set_self hl] at h; cases h
    · rw [List.getElem?_eq_none (by simpa using hl)] at h; cases h
  · rw [List.getElem?_set_ne e] at h; exact ⟨h, fun k => e k.symm⟩
/-- the object in slot i is put away -/
theorem RS.freeze {K : FG} {Z : Fr0} {G H : Hp} {r : Ev} {σ : L2.St} (S : RS K Z G H r σ) {i : Nat} {d : D} (h : r[i]? = some (.ow false d)) :
    ∃ a G', σ[i]? = some (some (.ref a)) ∧ RS K Z G' H (r.set i (.va d)) σ ∧ EX σ G H r G' H (r.set i (.va d)) ∧ (∀ b u, G' b = some u → G b = some u ∨ ownAt r σ b) ∧ RD K G' d (.ref a) := by
  obtain ⟨a, e1, e2, e3, e4⟩ := S.ow i false d h
  obtain ⟨o, ho, rd⟩ := e3.freeze e2
  have hi : i < r.length := (List.getElem?_eq_some_iff.mp h).1
  have ow_a : ownAt r σ a := ⟨i, by rw [h]; rfl, e1⟩
  refine ⟨a, upd G a o, e1, ?_, ?_, fun b u q => ?_, rd⟩
  · refine ⟨by rw [List.length_set]; exact S.len, same_in S.sg ho, S.g0.trans (same_new e2), S.h0, S.dm, fun b u q => ?_, fun j d' q => ?_, fun j b d' q => ?_, fun j k b p q => ?_⟩
    · by_cases hb : b = a
      · subst hb; exact .inr (.inl (.inl e4))
      · rw [upd_ne hb] at q; exact S.fr b u q
    · by_cases hj : i = j
      · subst hj
        rw [List.getElem?_set_self hi] at q; cases q
        exact ⟨_, e1, rd⟩
      · rw [List.getElem?_set_ne hj] at q
        obtain ⟨v, p1, p2⟩ := S.va j d' q
        exact ⟨v, p1, p2.mono (same_new e2)⟩
    · by_cases hj : i = j
      · subst hj
        rw [List.getElem?_set_self hi] at q; cases q
      · rw [List.getElem?_set_ne hj] at q
        obtain ⟨b', p1, p2, p3, p4⟩ := S.ow j b d' q
        have ne : b' ≠ a := fun z => hj (S.inj i j a (by rw [h]; rfl) (by rw [q]; rfl) e1 (by rw [← z]; exact p1))
        exact ⟨b', p1, by rw [upd_ne ne]; exact p2, p3.at (same_new e2) rfl, p4⟩
    · exact S.inj j k b (isOw_set p).1 (isOw_set q).1
  · refine ⟨same_new e2, fun _ _ h _ => h, fun _ h => h, fun b u q => ?_, fun b ⟨j, p, q⟩ => ⟨j, (isOw_set p).1, q⟩⟩
    by_cases hb : b = a
    · subst hb; exact .inr (.inr ow_a)
    · rw [upd_ne hb] at q; exact .inl q
  · by_cases hb : b = a
    · subst hb; exact .inr ow_a
    · rw [upd_ne hb] at q; exact .inl q
/-- a new object is put away -/
theorem RS.frz {K : FG} {Z : Fr0} {G H : Hp} {r : Ev} {σ : L2.St} (S : RS K Z G H r σ) {a : Addr} {d : D} (e2 : G a = none) (e4 : Z.H0 a = none) (no : ¬ ownAt r σ a) (e3 : RM K G H a d)
    : ∃ o, H a = some o ∧ RS K Z (upd G a o) H r σ ∧ Same G (upd G a o) ∧ RD K (upd G a o) d (.ref a) := by
  obtain ⟨o, ho, rd⟩ := e3.freeze e2
  refine ⟨o, ho, ?_, same_new e2, rd⟩
  refine ⟨S.len, same_in S.sg ho, S.g0.trans (same_new e2), S.h0, S.dm, fun b u q => ?_, fun j d' q => ?_, fun j b d' q => ?_, S.inj⟩
  · by_cases hb : b = a
    · subst hb; exact .inr (.inl (.inl e4))
    · rw [upd_ne hb] at q; exact S.fr b u q
  · obtain ⟨v, p1, p2⟩ := S.va j d' q
    exact ⟨v, p1, p2.mono (same_new e2)⟩
  · obtain ⟨b', p1, p2, p3, p4⟩ := S.ow j b d' q
    have ne : b' ≠ a := fun z => no ⟨j, by rw [q]; rfl, by rw [← z]; exact p1⟩
    exact ⟨b', p1, by rw [upd_ne ne]; exact p2, p3.at (same_new e2) rfl, p4⟩
end DL

section
set_option Elab.async false
set_option linter.all false
set_option maxRecDepth 100000
set_option autoImplicit false
/-! DL2: the judgements; names, constants, operators, tests. -/
namespace DL
open PySem PySem.Spec PyProof.Rows L2

def EPost (X : Cx) (W : WX) (Z : Fr0) (σ : L2.St) (G H : Hp) (r : Ev) (Q : VK) : EOut → Prop
  | .ok o r' => ∀ v G' H', RS X.K Z G' H' r' σ → EX σ G H r G' H' r' → RO X.K Z σ H G' H' r' o v → Q v H'
  | .err c r' => ∀ C G' H', RS X.K Z G' H' r' σ → EX σ G H r G' H' r' → X.mg c = some (.ref C) → W (.ref C) none σ H'
  | .bad => False
def TPost (X : Cx) (W : WX) (Z : Fr0) (σ : L2.St) (G H : Hp) (r : Ev) (Q : Bool → Hp → Prop) : TOut → Prop
  | .ok b r' => ∀ G' H', RS X.K Z G' H' r' σ → EX σ G H r G' H' r' → Q b H'
  | .err c r' => ∀ C G' H', RS X.K Z G' H' r' σ → EX σ G H r G' H' r' → X.mg c = some (.ref C) → W (.ref C) none σ H'
  | .bad => False
def APost (X : Cx) (W : WX) (Z : Fr0) (σ : L2.St) (G H : Hp) (r : Ev) (Q : List V → Hp → Prop) : AOut → Prop
  | .ok os r' => ∀ vs G' H', RS X.K Z G' H' r' σ → EX σ G H r G' H' r' → ROs X.K Z σ H G' H' r' os vs → Q vs H'
  | .err c r' => ∀ C G' H', RS X.K Z G' H' r' σ → EX σ G H r G' H' r' → X.mg c = some (.ref C) → W (.ref C) none σ H'
  | .bad => False
structure DE (X : Cx) (W : WX) (e : Expr) (f : E) : Prop where
  ex : ∃ t : L2.TE, PE X e t ∧ ∀ (Z : Fr0) (σ : L2.St) (G H : Hp) (r : Ev) (Q : VK), RS X.K Z G H r σ → EPost X W Z σ G H r Q (f r) → t σ H Q
structure DT (X : Cx) (W : WX) (e : Expr) (f : T) : Prop where
  ex : ∃ t : L2.TT, PT X e t ∧ ∀ (Z : Fr0) (σ : L2.St) (G H : Hp) (r : Ev) (Q : Bool → Hp → Prop), RS X.K Z G H r σ → TPost X W Z σ G H r Q (f r) → t σ H Q
structure DW (X : Cx) (W : WX) (e : Expr) (f : T) : Prop where
  ex : ∃ t : L2.TT, PW X e t ∧ ∀ (Z : Fr0) (σ : L2.St) (G H : Hp) (r : Ev) (Q : Bool → Hp → Prop), RS X.K Z G H r σ → TPost X W Z σ G H r Q (f r) → t σ H Q
structure DA (X : Cx) (W : WX) (es : List Expr) (f : A) : Prop where
  ex : ∃ t : L2.TA, PA X es t ∧ ∀ (Z : Fr0) (σ : L2.St) (G H : Hp) (r : Ev) (Q : List V → Hp → Prop), RS X.K Z G H r σ → APost X W Z σ G H r Q (f r) → t σ H Q
theorem DW.dt {X : Cx} {W : WX} {e : Expr} {f : T} (h : DW X W e f) : DT X W e f := ⟨let ⟨t, p, q⟩ := h.ex; ⟨t, p.pt, q⟩⟩
section
variable {X : Cx} {W : WX} {Z : Fr0} {σ : L2.St} {G H G1 H1 : Hp} {r r1 : Ev}
theorem EPost.pre (x : EX σ G H r G1 H1 r1) {Q : VK} : ∀ {o : EOut}, EPost X W Z σ G H r Q o → EPost X W Z σ G1 H1 r1 Q o
  | .ok _ _, h => fun v G' H' S e ro => h v G' H' S (x.trans e) (ro.base x.n)
  | .err _ _, h => fun C G' H' S e m => h C G' H' S (x.trans e) m
  | .bad, h => h
theorem TPost.pre (x : EX σ G H r G1 H1 r1) {Q : Bool → Hp → Prop} : ∀ {o : TOut}, TPost X W Z σ G H r Q o → TPost X W Z σ G1 H1 r1 Q o
  | .ok _ _, h => fun G' H' S e => h G' H' S (x.trans e)
  | .err _ _, h => fun C G' H' S e m => h C G' H' S (x.trans e) m
  | .bad, h => h
theorem ROs.base {K : FG} {B B' : Hp} (n : ∀ a, B a = none → B' a = none) : ∀ {os : List Op} {vs : List V}, ROs K Z σ B G H r os vs → ROs K Z σ B' G H r os vs
  | _, _, .nil => .nil
  | _, _, .cons a b => .cons (a.base n) (ROs.base n b)
theorem APost.pre (x : EX σ G H r G1 H1 r1) {Q : List V → Hp → Prop} : ∀ {o : AOut}, APost X W Z σ G H r Q o → APost X W Z σ G1 H1 r1 Q o
  | .ok _ _, h => fun v G' H' S e ro => h v G' H' S (x.trans e) (ROs.base x.n ro)
  | .err _ _, h => fun C G' H' S e m => h C G' H' S (x.trans e) m
  | .bad, h => h
theorem ROs.keep {K : FG} {B G' H' : Hp} {r' : Ev} (x : EX σ G H r G' H' r') : ∀ {os : List Op} {vs : List V}, ROs K Z σ B G H r os vs → ROs K Z σ B G' H' r' os vs
  | _, _, .nil => .nil
  | _, _, .cons a b => .cons (a.keep x) (ROs.keep x b)

/-! ### new objects -/
theorem RS.fresh {K : FG} (S : RS K Z G H r σ) {p : Addr} (hp : H p = none) : G p = none ∧ Z.H0 p = none ∧ ¬ ownAt r σ p := by
  refine ⟨S.sg.free hp, S.dm p hp, fun ⟨i, q, e⟩ => ?_⟩
  obtain ⟨b, d, q'⟩ := isOw_some q
  obtain ⟨a, e1, _, e3, _⟩ := S.ow i b d q'
  rw [e] at e1; cases e1
  obtain ⟨o, ho⟩ := e3.there
  rw [hp] at ho; cases ho
theorem RS.newH {K : FG} (S : RS K Z G H r σ) {p : Addr} {o : HO} (hp : H p = none) : RS K Z G (upd H p o) r σ ∧ EX σ G H r G (upd H p o) r := by
  have sn : Same H (upd H p o) := same_new hp
  have nn : ∀ a, upd H p o a = none → H a = none := fun a h => by
    by_cases e : a = p
    · subst e; rw [upd_same] at h; cases h
    · rw [upd_ne e] at h; exact h
  refine ⟨⟨S.len, S.sg.trans sn, S.g0, fun a u h n => sn a u (S.h0 a u h n), fun a h => S.dm a (nn a h), S.fr, S.va, fun i b d q => ?_, S.inj⟩, ⟨Same.refl _, fun a u h _ => sn a u h, nn, fun _ _ h => .inl h, fun _ h => h⟩⟩
  obtain ⟨a, e1, e2, e3, e4⟩ := S.ow i b d q
  obtain ⟨u, hu⟩ := e3.there
  exact ⟨a, e1, e2, e3.at (Same.refl _) (by rw [sn a u hu, hu]), e4⟩
/-- a new tuple stands still at once -/
theorem RS.newT {K : FG} (S : RS K Z G H r σ) {p : Addr} {vs : List V} {ds : List D} (hp : H p = none) (rd : RDs K G ds vs) :
    RS K Z (upd G p (.tup vs)) (upd H p (.tup vs)) r σ ∧ EX σ G H r (upd G p (.tup vs)) (upd H p (.tup vs)) r ∧ RD K (upd G p (.tup vs)) (.tup ds) (.ref p) := by
  obtain ⟨g0, h0, no⟩ := S.fresh hp
  obtain ⟨S1, X1⟩ := S.newH (o := .tup vs) hp
  have sg : Same G (upd G p (.tup vs)) := same_new g0
  have gg : ∀ a o, upd G p (.tup vs) a = some o → G a = some o ∨ a = p := fun a o h => by
    by_cases e : a = p
    · exact .inr e
    · rw [upd_ne e] at h; exact .inl h
  refine ⟨⟨S1.len, same_in S1.sg upd_same, S1.g0.trans sg, S1.h0, S1.dm, fun a o h => ?_, fun i d q => ?_, fun i b d q => ?_, S1.inj⟩, ⟨sg, X1.h, X1.n, fun a o h => ?_, X1.o⟩, .tup upd_same (rd.mono sg)⟩
  · rcases gg a o h with h | h
    · exact S1.fr a o h
    · subst h; exact .inr (.inl (.inl h0))
  · obtain ⟨v, e1, e2⟩ := S1.va i d q
    exact ⟨v, e1, e2.mono sg⟩
  · obtain ⟨a, e1, e2, e3, e4⟩ := S1.ow i b d q
    have ne : a ≠ p := fun z => no ⟨i, by rw [q]; rfl, by rw [← z]; exact e1⟩
    exact ⟨a, e1, by rw [upd_ne ne]; exact e2, e3.at sg rfl, e4⟩
  · rcases gg a o h with h | h
    · exact .inl h
    · subst h; exact .inr (.inl (.inl hp))
end

/-! ### what an operator's rule gives over data -/
def ResOk (K : FG) (Z : Fr0) (σ : L2.St) (G H : Hp) (r : Ev) (Q : VK) (o : Op) : Prop :=
  ∀ v G' H', RS K Z G' H' r σ → EX σ G H r G' H' r → RO K Z σ H G' H' r o v → Q v H'
section
variable {K : FG} {Z : Fr0} {σ : L2.St} {G H : Hp} {r : Ev} {Q : VK}
theorem ResOk.val (S : RS K Z G H r σ) {d : D} {v : V} (h : ResOk K Z σ G H r Q (.fz d)) (rd : RD K G d v) : Q v H := h v G H S .refl rd
theorem ResOk.int (S : RS K Z G H r σ) {i : Int} (h : ResOk K Z σ G H r Q (.fz (.int i))) : Q (.int i) H := h.val S (.int i)
theorem ResOk.bl (S : RS K Z G H r σ) {i : Bool} (h : ResOk K Z σ G H r Q (.fz (.bl i))) : Q (.bl i) H := h.val S (.bl i)
theorem ResOk.str (S : RS K Z G H r σ) {i : Str} (h : ResOk K Z σ G H r Q (.fz (.str i))) : Q (.str i) H := h.val S (.str i)
theorem ResOk.tup (S : RS K Z G H r σ) {ds : List D} {vs : List V} (h : ResOk K Z σ G H r Q (.fz (.tup ds))) (rd : RDs K G ds vs) {p : Addr} (hp : H p = none) : Q (.ref p) (upd H p (.tup vs)) := by
  obtain ⟨S1, X1, R1⟩ := S.newT hp rd
  exact h _ _ _ S1 X1 R1
theorem ResOk.new (S : RS K Z G H r σ) {d : D} {o : HO} (h : ResOk K Z σ G H r Q (.tm d)) {p : Addr} (hp : H p = none) (rm : RM K G (upd H p o) p d) : Q (.ref p) (upd H p o) := by
  obtain ⟨S1, X1⟩ := S.newH (o := o) hp
  obtain ⟨g0, h0, no⟩ := S.fresh hp
  exact h _ _ _ S1 X1 ⟨p, rfl, g0, ⟨h0, hp⟩, no, rm⟩
theorem ResOk.lst (S : RS K Z G H r σ) {ds : List D} {vs : List V} (h : ResOk K Z σ G H r Q (.tm (.lst ds))) (rd : RDs K G ds vs) {p : Addr} (hp : H p = none) : Q (.ref p) (upd H p (.lst vs)) :=
  h.new S hp ⟨vs, upd_same, rd⟩
end
def OpD (X : Cx) (f : Value → Value → Sem Value) (g : D → D → Option Op) : Prop :=
  ∃ rr : R2, OpR X f rr ∧ ∀ (Z : Fr0) (σ : L2.St) (G H : Hp) (r : Ev) (x y : V) (dx dy : D) (o : Op) (Q : VK), RS X.K Z G H r σ → RH X.K G H dx x → RH X.K G H dy y → g dx dy = some o → ResOk X.K Z σ G H r Q o → rr x y H Q
/-- two rules: the one where it says something, else the other -/
theorem OpD.or {X : Cx} {f : Value → Value → Sem Value} {g g' : D → D → Option Op} (a : OpD X f g) (b : OpD X f g') : OpD X f (fun x y => (g x y).or (g' x y)) := by
  obtain ⟨r1, p1, q1⟩ := a
  obtain ⟨r2, p2, q2⟩ := b
  refine ⟨_, p1.or p2, fun Z σ G H r x y dx dy o Q S hx hy e h => ?_⟩
  cases e1 : g dx dy with
  | some o' =>
    have e : (g dx dy).or (g' dx dy) = some o := e
    rw [e1] at e
    have e' : o' = o := by simpa using e
    subst e'
    exact .inl (q1 Z σ G H r x y dx dy _ Q S hx hy e1 h)
  | none =>
    have e : (g dx dy).or (g' dx dy) = some o := e
    rw [e1] at e
    exact .inr (q2 Z σ G H r x y dx dy o Q S hx hy (by simpa using e) h)

/-! ### expressions -/
section
variable {X : Cx} {W : WX} {a b c : Expr} {fa fb fc : E} {pos : Pos}
theorem de_name {i : Nat} {x : Str} (h : PE X (.Name x pos) (tVar i)) : DE X W (.Name x pos) (eName i) := by
  refine ⟨_, h, fun Z σ G H r Q S p => ?_⟩
  unfold eName at p
  cases q : r[i]? with
  | none => simp only [q] at p; exact p.elim
  | some s =>
    cases s with
    | no => simp only [q] at p; exact p.elim
    | va d =>
      simp only [q] at p
      obtain ⟨v, e1, e2⟩ := S.va i d q
      exact ⟨v, e1, p v G H S .refl e2⟩
    | ow b d =>
      simp only [q] at p
      obtain ⟨a, e1, _⟩ := S.ow i b d q
      exact ⟨_, e1, p _ G H S .refl e1⟩
theorem de_c {e : Expr} {v : V} {d : D} (h : PE X e (tC v)) (rd : ∀ G, RD X.K G d v) : DE X W e (eC d) :=
  ⟨_, h, fun Z σ G H r Q S p => p v G H S .refl (rd G)⟩
theorem de_int {i : Int} {j} : DE X W (.Constant (.int i) j pos) (eC (.int i)) := de_c pe_int fun _ => .int i
theorem de_bl {i : Bool} {j} : DE X W (.Constant (.bool i) j pos) (eC (.bl i)) := de_c pe_bl fun _ => .bl i
theorem de_non {j} : DE X W (.Constant .none j pos) (eC .non) := de_c pe_non fun _ => .non
theorem de_str {x : Str} {j} : DE X W (.Constant (.str x) j pos) (eC (.str x)) := de_c pe_str fun _ => .str x

/-- the second operand behind the first -/
theorem two {ta tb : L2.TE} {R : V → V → Hp → Prop} {Z : Fr0} {σ : L2.St} {G H : Hp} {r : Ev}
    (ha : ∀ (Z : Fr0) (σ : L2.St) (G H : Hp) (r : Ev) (Q : VK), RS X.K Z G H r σ → EPost X W Z σ G H r Q (fa r) → ta σ H Q)
    (hb : ∀ (Z : Fr0) (σ : L2.St) (G H : Hp) (r : Ev) (Q : VK), RS X.K Z G H r σ → EPost X W Z σ G H r Q (fb r) → tb σ H Q) (S : RS X.K Z G H r σ)
    (h : match fa r with
      | .ok o r1 => match fb r1 with
        | .ok p r2 => ∀ x y G' H', RS X.K Z G' H' r2 σ → EX σ G H r G' H' r2 → RO X.K Z σ H G' H' r2 o x → RO X.K Z σ H G' H' r2 p y → R x y H'
        | .err c r2 => EPost X W Z σ G H r (fun _ _ => True) (.err c r2)
        | .bad => False
      | .err c r1 => EPost X W Z σ G H r (fun _ _ => True) (.err c r1)
      | .bad => False) : ta σ H fun x H1 => tb σ H1 fun y H2 => R x y H2 := by
  refine ha Z σ G H r _ S ?_
  cases q : fa r with
  | ok o r1 =>
    simp only [q] at h
    refine fun x G1 H1 S1 X1 R1 => hb Z σ G1 H1 r1 _ S1 ?_
    cases q2 : fb r1 with
    | ok p r2 =>
      simp only [q2] at h
      exact fun y G2 H2 S2 X2 R2 => h x y G2 H2 S2 (X1.trans X2) (R1.keep X2) (R2.base X1.n)
    | err c r2 =>
      simp only [q2] at h
      exact EPost.pre (Q := fun _ _ => True) X1 h
    | bad => simp only [q2] at h
  | err c r1 =>
    simp only [q] at h
    exact h
  | bad => simp only [q] at h
theorem two_op {f : Value → Value → Sem Value} {g : D → D → Option Op} {rr : R2} {ta tb : L2.TE} {Z : Fr0} {σ : L2.St} {G H : Hp} {r : Ev} {Q : VK}
    (ha : ∀ (Z : Fr0) (σ : L2.St) (G H : Hp) (r : Ev) (Q : VK), RS X.K Z G H r σ → EPost X W Z σ G H r Q (fa r) → ta σ H Q)
    (hb : ∀ (Z : Fr0) (σ : L2.St) (G H : Hp) (r : Ev) (Q : VK), RS X.K Z G H r σ → EPost X W Z σ G H r Q (fb r) → tb σ H Q)
    (ho : ∀ (Z : Fr0) (σ : L2.St) (G H : Hp) (r : Ev) (x y : V) (dx dy : D) (o : Op) (Q : VK), RS X.K Z G H r σ → RH X.K G H dx x → RH X.K G H dy y → g dx dy = some o → ResOk X.K Z σ G H r Q o → rr x y H Q)
    (S : RS X.K Z G H r σ) (p : EPost X W Z σ G H r Q (eBin g fa fb r)) : tOp rr ta tb σ H Q := by
  refine two ha hb S ?_
  unfold eBin at p
  cases q : fa r with
  | ok o r1 =>
    simp only [q] at p ⊢
    cases q2 : fb r1 with
    | ok o2 r2 =>
      simp only [q2] at p ⊢
      intro x y G' H' S' X' Ra Rb
      cases e1 : rsv r2 o with
      | none => simp only [e1] at p; exact p.elim
      | some dx =>
        cases e2 : rsv r2 o2 with
        | none => simp only [e1, e2] at p; exact p.elim
        | some dy =>
          cases e3 : g dx dy with
          | none => simp only [e1, e2, e3] at p; exact p.elim
          | some z =>
            simp only [e1, e2, e3] at p
            exact ho Z σ G' H' r2 x y dx dy z Q S' (Ra.rsv S' e1) (Rb.rsv S' e2) e3 fun v G2 H2 S2 X2 R2 => p v G2 H2 S2 (X'.trans X2) (R2.base X'.n)
    | err c r2 => simp only [q2] at p ⊢; exact p
    | bad => simp only [q2] at p; exact p.elim
  | err c r1 => simp only [q] at p ⊢; exact p
  | bad => simp only [q] at p; exact p.elim
theorem de_bin {op : Operator} {g : D → D → Option Op} (ho : OpD X (binaryOp op) g) (ha : DE X W a fa) (hb : DE X W b fb) : DE X W (.BinOp a op b pos) (eBin g fa fb) := by
  obtain ⟨ta, pa, qa⟩ := ha.ex
  obtain ⟨tb, pb, qb⟩ := hb.ex
  obtain ⟨rr, po, qo⟩ := ho
  exact ⟨_, pe_op po pa pb, fun Z σ G H r Q S p => two_op (f := binaryOp op) qa qb qo S p⟩
theorem de_cmp {op : CmpOp} {g : D → D → Option Op} (ho : OpD X (compareOp op) g) (ha : DE X W a fa) (hb : DE X W b fb) (hm : behindInMarks op b = false) : DE X W (.Compare a [op] [b] pos) (eBin g fa fb) := by
  obtain ⟨ta, pa, qa⟩ := ha.ex
  obtain ⟨tb, pb, qb⟩ := hb.ex
  obtain ⟨rr, po, qo⟩ := ho
  exact ⟨_, pe_cmpR po pa pb hm, fun Z σ G H r Q S p => two_op (f := compareOp op) qa qb qo S p⟩
/-- a test that is an expression's truth -/
def TruD (X : Cx) : Prop := ∃ rr, TruR X rr ∧ ∀ (Z : Fr0) (σ : L2.St) (G H : Hp) (r : Ev) (x : V) (d : D) (b : Bool) (Q : Bool → Hp → Prop), RS X.K Z G H r σ → RH X.K G H d x → dtr d = some b → Q b H → rr x H Q
theorem tBl_post {te : L2.TE} {Z : Fr0} {σ : L2.St} {G H : Hp} {r : Ev} {Q : Bool → Hp → Prop}
    (ha : ∀ (Z : Fr0) (σ : L2.St) (G H : Hp) (r : Ev) (Q : VK), RS X.K Z G H r σ → EPost X W Z σ G H r Q (fa r) → te σ H Q) (S : RS X.K Z G H r σ) (p : TPost X W Z σ G H r Q (tBl fa r)) :
    tTest te σ H Q := by
  refine ha Z σ G H r _ S ?_
  unfold tBl at p
  cases q : fa r with
  | ok o r1 =>
    simp only [q] at p
    cases o with
    | fz d =>
      cases d with
      | bl k => exact fun v G1 H1 S1 X1 R1 => by cases R1; exact ⟨k, rfl, p G1 H1 S1 X1⟩
      | _ => exact p.elim
    | _ => exact p.elim
  | err c r1 => simp only [q] at p; exact p
  | bad => simp only [q] at p; exact p.elim
theorem dt_cmp {op : CmpOp} {g : D → D → Option Op} (ho : OpD X (compareOp op) g) (ha : DE X W a fa) (hb : DE X W b fb) (hm : behindInMarks op b = false) : DT X W (.Compare a [op] [b] pos) (tBl (eBin g fa fb)) := by
  obtain ⟨ta, pa, qa⟩ := ha.ex
  obtain ⟨tb, pb, qb⟩ := hb.ex
  obtain ⟨rr, po, qo⟩ := ho
  exact ⟨_, pt_cmpR po pa pb hm, fun Z σ G H r Q S p => tBl_post (fa := eBin g fa fb) (fun Z σ G H r Q S p => two_op (f := compareOp op) qa qb qo S p) S p⟩
theorem truV_of {K : FG} {G H : Hp} (sg : Same G H) {d : D} {v : V} {k : Bool} (rh : RH K G H d v) (e3 : dtr d = some k) : TruV K v H k := by
  unfold dtr at e3
  cases d with
  | non => cases rh; cases e3; rfl
  | bl b => cases rh; cases e3; rfl
  | int i => cases rh; cases e3; rfl
  | str x =>
    cases rh
    dsimp only at e3
    split at e3
    · cases e3; rename_i hz; exact ⟨hz, rfl⟩
    · cases e3
  | lst ds =>
    obtain ⟨a, vs, rfl, h1, h2⟩ := rh
    cases e3
    exact .inl ⟨vs, .of h1, by cases h2 <;> rfl⟩
  | tup ds =>
    cases rh with
    | tup h1 h2 =>
      cases e3
      exact .inr (.inl ⟨_, .inl (.inl (sg _ _ h1)), by cases h2 <;> rfl⟩)
  | ktp ds =>
    cases rh with
    | ktp h1 h2 =>
      cases e3
      exact .inr (.inl ⟨_, Same.seqT sg h1, by cases h2 <;> rfl⟩)
  | kls ds =>
    cases rh with
    | kls h1 h2 =>
      cases e3
      exact .inl ⟨_, sg.seq h1, by cases h2 <;> rfl⟩
  | dct _ => cases e3
  | dtt _ => cases e3
theorem dt_tru {e : Expr} {f : E} (h : DE X W e f) (he : ∀ whole, isTrue e X.env whole = (do let v ← whole; standAt e.pos; holding [v] (truthy v)) := by intro _; rfl) : DT X W e (tTru f) := by
  obtain ⟨t, p, q⟩ := h.ex
  refine ⟨_, pt_truth p he, fun Z σ G H r Q S hp => q Z σ G H r _ S ?_⟩
  unfold tTru at hp
  cases e1 : f r with
  | ok o r1 =>
    simp only [e1] at hp
    intro v G1 H1 S1 X1 R1
    cases e2 : rsv r1 o with
    | none => simp only [e2] at hp; exact hp.elim
    | some d =>
      cases e3 : dtr d with
      | none => simp only [e2, e3] at hp; exact hp.elim
      | some k =>
        simp only [e2, e3] at hp
        exact ⟨k, truV_of S1.sg (R1.rsv S1 e2) e3, hp G1 H1 S1 X1⟩
  | err c r1 => simp only [e1] at hp; exact hp
  | bad => simp only [e1] at hp; exact hp.elim
end
end DL
end

section
set_option Elab.async false
set_option linter.all false
set_option maxRecDepth 100000
set_option autoImplicit false
/-! DL3: operators over data. -/
namespace DL
open PySem PySem.Spec PyProof.Rows L2
section
variable {X : Cx} {Z : Fr0} {σ : L2.St} {G H : Hp} {r : Ev}
theorem SZ_eq : SZ = sizeLine := rfl
theorem opd_add : OpD X (binaryOp .Add) gAdd := by
  refine ⟨_, (op_add (X := X)).or ((op_add_str (X := X)).or ((op_cat (X := X)).or op_catA)), ?_⟩
  intro Z σ G H r x y dx dy o Q S hx hy e h
  unfold gAdd at e
  cases dx <;> cases dy <;> first | (cases e; done) | skip
  · cases hx; cases hy; cases e
    exact .inl ⟨_, _, rfl, rfl, h.int S⟩
  · cases hx; cases hy
    dsimp only at e; split at e <;> cases e
    rename_i hz
    exact .inr (.inl ⟨_, _, rfl, rfl, hz, h.str S⟩)
  · cases hx with | tup a1 a2 => cases hy with | tup b1 b2 =>
    dsimp only at e; split at e <;> cases e
    rename_i hz
    rw [a2.length, b2.length] at hz
    refine .inr (.inr (.inr ⟨_, _, _, _, rfl, rfl, .inl (.inl (S.sg _ _ a1)), .inl (.inl (S.sg _ _ b1)), hz, fun z => ?_, fun _ z => ?_, fun _ _ p hp => h.tup S (a2.append b2) hp⟩))
    · subst z
      cases a2
      exact h.val S (.tup b1 b2)
    · subst z
      cases b2
      exact h.val S (.tup a1 (by simpa using a2))
  · obtain ⟨a, vs, rfl, a1, a2⟩ := hx
    obtain ⟨b, ws, rfl, b1, b2⟩ := hy
    dsimp only at e; split at e <;> cases e
    rename_i hz
    rw [a2.length, b2.length] at hz
    exact .inr (.inr (.inl ⟨_, _, _, _, rfl, rfl, a1, b1, hz, fun p hp => h.lst S (a2.append b2) hp⟩))
theorem opd_sub : OpD X (binaryOp .Sub) gSub := by
  refine ⟨_, op_sub, ?_⟩
  intro Z σ G H r x y dx dy o Q S hx hy e h
  unfold gSub at e
  cases dx <;> cases dy <;> first | (cases e; done) | skip
  cases hx; cases hy; cases e
  exact ⟨_, _, rfl, rfl, h.int S⟩
theorem RDs.flat {K : FG} {G : Hp} {ds : List D} {vs : List V} (h : RDs K G ds vs) : ∀ k : Nat, RDs K G (List.replicate k ds).flatten (List.replicate k vs).flatten
  | 0 => .nil
  | k + 1 => by simp only [List.replicate_succ, List.flatten_cons]; exact h.append (h.flat k)
theorem op_mulI : OpR X (binaryOp .Mult) (rI mulOk fun i j => .int (i * j)) := opI fun i j _ _ _ _ _ hc q => by
  rcases hc with k | k | k
  · exact mul_int q (.of_left (intBits_le_64 (by omega) (by omega)))
  · exact mul_int q (.of_right (intBits_le_64 (by omega) (by omega)))
  · exact mul_int q (CMulW.ok k)
theorem opd_mul : OpD X (binaryOp .Mult) gMul := by
  refine ⟨_, (op_mulI (X := X)).or ((op_rep (X := X)).or op_repT), ?_⟩
  intro Z σ G H r x y dx dy o Q S hx hy e h
  unfold gMul at e
  cases dx <;> cases dy <;> first | (cases e; done) | skip
  · cases hx; cases hy
    dsimp only at e; split at e <;> cases e
    rename_i hz
    exact .inl ⟨_, _, rfl, rfl, hz, h.int S⟩
  · cases hy; cases hx with | tup a1 a2 =>
    dsimp only at e; split at e <;> cases e
    rename_i hz
    refine .inr (.inr ⟨_, _, _, rfl, rfl, .inl (.inl (S.sg _ _ a1)), fun z => ?_, hz.1.2, hz.2.1, by rw [← a2.length]; exact hz.2.2, fun p hp => h.tup S (a2.flat _) hp⟩)
    subst z
    cases a2
    exact hz.1.1 rfl
  · obtain ⟨a, vs, rfl, a1, a2⟩ := hx
    cases hy
    dsimp only at e; split at e <;> cases e
    rename_i hz
    rw [a2.length] at hz
    exact .inr (.inl ⟨_, _, _, rfl, rfl, a1, hz.1.1, hz.1.2, hz.2, fun p hp => h.lst S (a2.flat _) hp⟩)
theorem op_fdivI : OpR X (binaryOp .FloorDiv) (rI (fun _ j => j ≠ 0 ∧ j.natAbs.log2 < 9000) fun i j => .int (i.fdiv j)) := opI fun _ _ _ _ _ _ _ hc q => floordiv_int hc.1 q (.inl (PyProof.noPylong_of_log2 hc.2))
theorem opd_fdiv : OpD X (binaryOp .FloorDiv) gFdiv := by
  refine ⟨_, op_fdivI, ?_⟩
  intro Z σ G H r x y dx dy o Q S hx hy e h
  unfold gFdiv at e
  cases dx <;> cases dy <;> first | (cases e; done) | skip
  cases hx; cases hy
  dsimp only at e; split at e <;> cases e
  rename_i hz
  exact ⟨_, _, rfl, rfl, hz, h.int S⟩
theorem opd_mod : OpD X (binaryOp .Mod) gMod := by
  refine ⟨_, op_modN, ?_⟩
  intro Z σ G H r x y dx dy o Q S hx hy e h
  unfold gMod at e
  cases dx <;> cases dy <;> first | (cases e; done) | skip
  cases hx; cases hy
  dsimp only at e; split at e <;> cases e
  rename_i hz
  exact ⟨_, _, rfl, rfl, hz, h.int S⟩
theorem opd_pow : OpD X (binaryOp .Pow) gPow := by
  refine ⟨_, op_pow, ?_⟩
  intro Z σ G H r x y dx dy o Q S hx hy e h
  unfold gPow at e
  cases dx <;> cases dy <;> first | (cases e; done) | skip
  cases hx; cases hy
  dsimp only at e; split at e <;> cases e
  rename_i hz
  exact ⟨_, _, rfl, rfl, ⟨hz.1.1, hz.1.2, hz.2⟩, h.int S⟩
theorem opd_shl : OpD X (binaryOp .LShift) gShl := by
  refine ⟨_, op_shlW, ?_⟩
  intro Z σ G H r x y dx dy o Q S hx hy e h
  unfold gShl at e
  cases dx <;> cases dy <;> first | (cases e; done) | skip
  cases hx; cases hy
  dsimp only at e; split at e <;> cases e
  rename_i i j hz
  refine ⟨_, _, rfl, rfl, ⟨hz.1, ?_⟩, h.int S⟩
  have hb : Builtin.Int.intBits i ≤ i.natAbs.log2 + 1 := by unfold Builtin.Int.intBits; split <;> omega
  have := hz.2
  omega
theorem opd_shr : OpD X (binaryOp .RShift) gShr := by
  refine ⟨_, op_shr, ?_⟩
  intro Z σ G H r x y dx dy o Q S hx hy e h
  unfold gShr at e
  cases dx <;> cases dy <;> first | (cases e; done) | skip
  cases hx; cases hy
  dsimp only at e; split at e <;> cases e
  rename_i hz
  exact ⟨_, _, rfl, rfl, hz, h.int S⟩
/-! ### order -/
theorem intsV {K : FG} {G : Hp} : ∀ {ns : List Int} {vs : List V}, RDs K G (ns.map D.int) vs → vs = ns.map V.int
  | [], _, .nil => rfl
  | _ :: _, _, .cons a b => by cases a; rw [intsV b]; rfl
theorem lexLt_eq : ∀ ns ms : List Int, lexLtI ns ms = HT.lexLt ns ms
  | [], [] => rfl
  | [], _ :: _ => rfl
  | _ :: _, [] => rfl
  | x :: xs, y :: ys => by rw [HT.lexLt_cons, ← lexLt_eq xs ys]; rfl
theorem opd_lt (hu : X.A.units < cLine) : OpD X (compareOp .Lt) gLt := by
  refine ⟨_, (op_lt (X := X)).or ((op_lt_str (X := X)).or (op_ltT hu)), ?_⟩
  intro Z σ G H r x y dx dy o Q S hx hy e h
  unfold gLt at e
  cases dx <;> cases dy <;> first | (cases e; done) | skip
  · cases hx; cases hy; cases e
    exact .inl ⟨_, _, rfl, rfl, h.bl S⟩
  · cases hx; cases hy; cases e
    exact .inr (.inl ⟨_, _, rfl, rfl, h.bl S⟩)
  · rename_i xs ys
    cases hx with | tup a1 a2 => cases hy with | tup b1 b2 =>
    cases e1 : intsD xs with
    | none => simp [e1] at e
    | some ns =>
      cases e2 : intsD ys with
      | none => simp [e1, e2] at e
      | some ms =>
        simp only [e1, e2] at e
        cases e
        have q1 := intsD_eq e1
        have q2 := intsD_eq e2
        subst q1 q2
        have w1 := intsV a2
        have w2 := intsV b2
        subst w1 w2
        refine .inr (.inr ⟨_, _, ns, ms, rfl, rfl, .inl (.inl (S.sg _ _ a1)), .inl (.inl (S.sg _ _ b1)), ?_⟩)
        rw [← lexLt_eq]
        exact h.bl S
theorem opd_le : OpD X (compareOp .LtE) gLe := by
  refine ⟨_, op_le, ?_⟩
  intro Z σ G H r x y dx dy o Q S hx hy e h
  unfold gLe at e
  cases dx <;> cases dy <;> first | (cases e; done) | skip
  cases hx; cases hy; cases e
  exact ⟨_, _, rfl, rfl, h.bl S⟩
theorem opd_gt : OpD X (compareOp .Gt) gGt := by
  refine ⟨_, op_gt, ?_⟩
  intro Z σ G H r x y dx dy o Q S hx hy e h
  unfold gGt at e
  cases dx <;> cases dy <;> first | (cases e; done) | skip
  cases hx; cases hy; cases e
  exact ⟨_, _, rfl, rfl, h.bl S⟩
theorem opd_ge : OpD X (compareOp .GtE) gGe := by
  refine ⟨_, op_ge, ?_⟩
  intro Z σ G H r x y dx dy o Q S hx hy e h
  unfold gGe at e
  cases dx <;> cases dy <;> first | (cases e; done) | skip
  cases hx; cases hy; cases e
  exact ⟨_, _, rfl, rfl, h.bl S⟩
/-! ### ==, in, is -/
mutual
def toP : D → PyData
  | .non => .none
  | .bl b => .bool b
  | .int i => .int i
  | .str x => .str x
  | .tup xs => .tuple (toPs xs)
  | .ktp xs => .tuple (toPs xs)
  | .lst xs => .list (toPs xs)
  | .kls xs => .list (toPs xs)
  | .dct _ => .none
  | .dtt _ => .none
def toPs : List D → List PyData
  | [] => []
  | x :: xs => toP x :: toPs xs
end
mutual
theorem okD_lay : ∀ {n : Nat} {d : D}, okD n d = true → (toP d).canLay0 = true ∧ (toP d).depth ≤ n
  | _, .non, _ => ⟨rfl, Nat.zero_le _⟩
  | _, .bl _, _ => ⟨rfl, Nat.zero_le _⟩
  | _, .int _, _ => ⟨rfl, Nat.zero_le _⟩
  | n, .str x, h => ⟨by cases n <;> exact h, Nat.zero_le _⟩
  | 0, .tup _, h => by cases h
  | 0, .ktp _, h => by cases h
  | 0, .lst _, h => by cases h
  | 0, .kls _, h => by cases h
  | 0, .dct _, h => by cases h
  | 0, .dtt _, h => by cases h
  | n + 1, .tup xs, h => let ⟨a, b⟩ := okDs_lay (n := n) (ds := xs) h; ⟨a, Nat.succ_le_succ b⟩
  | n + 1, .ktp xs, h => let ⟨a, b⟩ := okDs_lay (n := n) (ds := xs) h; ⟨a, Nat.succ_le_succ b⟩
  | n + 1, .lst xs, h => let ⟨a, b⟩ := okDs_lay (n := n) (ds := xs) h; ⟨a, Nat.succ_le_succ b⟩
  | n + 1, .kls xs, h => let ⟨a, b⟩ := okDs_lay (n := n) (ds := xs) h; ⟨a, Nat.succ_le_succ b⟩
  | n + 1, .dct _, h => by cases h
  | n + 1, .dtt _, h => by cases h
theorem okDs_lay : ∀ {n : Nat} {ds : List D}, okDs n ds = true → PyData.canLayAll0 (toPs ds) = true ∧ PyData.depthAll (toPs ds) ≤ n
  | _, [], _ => ⟨rfl, Nat.zero_le _⟩
  | n, x :: xs, h => by
    unfold okDs at h
    rw [Bool.and_eq_true] at h
    obtain ⟨a, b⟩ := okD_lay h.1
    obtain ⟨c, d⟩ := okDs_lay (ds := xs) h.2
    refine ⟨?_, Nat.max_le.mpr ⟨b, d⟩⟩
    show (PyData.canLay0 _ && PyData.canLayAll0 _) = true
    rw [a, c]; rfl
end
theorem okD_shaped {d : D} (h : okD 64 d = true) : SeqAt.shaped (toP d) = true := by
  obtain ⟨a, b⟩ := okD_lay h
  unfold SeqAt.shaped
  rw [a, decide_eq_true b]; rfl
mutual
theorem eqD_eqv : ∀ {n m : Nat} (d e : D), okD n d = true → okD m e = true → PyData.eqv (toP d) (toP e) = eqD d e
  | n, m, d, e, hd, he => by
    cases d <;> cases e <;> first
      | rfl
      | (exfalso; cases n <;> cases hd; done)
      | (exfalso; cases m <;> cases he; done)
      | (cases n <;> first | (cases hd; done) | (cases m <;> first | (cases he; done) | exact eqDs_eqv _ _ hd he))
theorem eqDs_eqv : ∀ {n m : Nat} (ds es : List D), okDs n ds = true → okDs m es = true → PyData.eqvAll (toPs ds) (toPs es) = eqDs ds es
  | _, _, [], [], _, _ => rfl
  | _, _, [], _ :: _, _, _ => rfl
  | _, _, _ :: _, [], _, _ => rfl
  | n, m, x :: xs, y :: ys, h, k => by
    unfold okDs at h k
    rw [Bool.and_eq_true] at h k
    show (PyData.eqv (toP x) (toP y) && PyData.eqvAll (toPs xs) (toPs ys)) = (eqD x y && eqDs xs ys)
    rw [eqD_eqv x y h.1 k.1, eqDs_eqv xs ys h.2 k.2]
end
mutual
theorem RD.dp {K : FG} {G H : Hp} (sg : Same G H) : ∀ {n : Nat} {d : D} {v : V}, RD K G d v → okD n d = true → Dp K H v (toP d)
  | _, _, _, .non, _ => .non
  | _, _, _, .bl b, _ => .bl b
  | _, _, _, .int i, _ => .int i
  | _, _, _, .str x, _ => .str x
  | 0, _, _, .tup _ _, k => by cases k
  | 0, _, _, .ktp _ _, k => by cases k
  | 0, _, _, .lst _ _, k => by cases k
  | 0, _, _, .kls _ _, k => by cases k
  | 0, _, _, .dct _ _ _, k => by cases k
  | 0, _, _, .dtt _ _ _, k => by cases k
  | n + 1, _, _, .tup h r, k => .tup (.inl (.inl (sg _ _ h))) (RDs.dp sg (n := n) r k)
  | n + 1, _, _, .ktp h r, k => .tup (Same.seqT sg h) (RDs.dp sg (n := n) r k)
  | n + 1, _, _, .lst h r, k => .lst (.of (sg _ _ h)) (RDs.dp sg (n := n) r k)
  | n + 1, _, _, .kls h r, k => .lst (sg.seq h) (RDs.dp sg (n := n) r k)
  | n + 1, _, _, .dct _ _ _, k => by cases k
  | n + 1, _, _, .dtt _ _ _, k => by cases k
theorem RDs.dp {K : FG} {G H : Hp} (sg : Same G H) : ∀ {n : Nat} {ds : List D} {vs : List V}, RDs K G ds vs → okDs n ds = true → DpAll K H vs (toPs ds)
  | _, _, _, .nil, _ => .nil
  | n, _, _, .cons a b, k => by
    unfold okDs at k
    rw [Bool.and_eq_true] at k
    exact .cons (RD.dp sg a k.1) (RDs.dp sg b k.2)
end
theorem RH.dp {K : FG} {G H : Hp} (sg : Same G H) {n : Nat} {d : D} {v : V} (h : RH K G H d v) (k : okD n d = true) : Dp K H v (toP d) := by
  cases d with
  | lst ds =>
    obtain ⟨a, vs, rfl, a1, a2⟩ := h
    cases n with
    | zero => cases k
    | succ n => exact .lst (.of a1) (a2.dp sg (n := n) k)
  | dct _ => cases n <;> cases k
  | dtt _ => cases n <;> cases k
  | _ => exact RD.dp sg h k
theorem beq_dec {α : Type} [DecidableEq α] [BEq α] [LawfulBEq α] (a b : α) : decide (a = b) = (a == b) := by
  by_cases e : a = b
  · rw [decide_eq_true e]; exact (beq_iff_eq.mpr e).symm
  · rw [decide_eq_false e]; exact (beq_eq_false_iff_ne.mpr e).symm
theorem dct_kv {pins : List (Addr × Obj)} {s : Shared} (I : Inv X pins σ H s) {a : Addr} {ws : List (Key × V)} {kvs : List (DK × D)} (h : Rd H a (.dK ws)) (e : ws.map (·.1) = kvs.map (·.1)) (k : kvs.isEmpty = true) : DE.KV s.heap (.ref a) (.dct kvs) := by
  cases kvs with
  | cons _ _ => cases k
  | nil =>
    cases ws with
    | cons _ _ => cases e
    | nil =>
      obtain ⟨_, z, vs, r, o, es, ep, e1, e2, e3, _, e4, _⟩ := h.ok I.hok
      have hv : vs = [] := List.eq_nil_of_length_eq_zero (by rw [← r.length]; rfl)
      subst hv
      have : es = #[] := by
        have := e4.length
        exact Array.eq_empty_of_size_eq_zero (by simpa using this)
      subst this
      exact .dct z ⟨o, ep, e1, e2, e3⟩
/-! ### with empty dicts within -/
mutual
theorem RD.kv {pins : List (Addr × Obj)} {s : Shared} (I : Inv X pins σ H s) (sg : Same G H) : ∀ {n : Nat} {d : D} {v : V} {u : Value}, RD X.K G d v → okX n d = true → RelV v u → DE.KV s.heap u d
  | _, _, _, _, .non, _, q => by cases q; exact .non
  | _, _, _, _, .bl b, _, q => by cases q; exact .bl b
  | _, _, _, _, .int i, _, q => by obtain ⟨t, rfl⟩ := q; exact .int i t
  | _, _, _, _, .str x, _, q => by obtain ⟨t, rfl⟩ := q; exact .str x t
  | 0, _, _, _, .tup _ _, k, _ => by cases k
  | 0, _, _, _, .ktp _ _, k, _ => by cases k
  | 0, _, _, _, .lst _ _, k, _ => by cases k
  | 0, _, _, _, .kls _ _, k, _ => by cases k
  | n, _, _, _, .dct (ws := ws) h e r, k, q => by
    cases q
    exact dct_kv I (Same.rd sg h) e (by cases n <;> exact k)
  | n, _, _, _, .dtt _ _ _, k, _ => by cases n <;> cases k
  | n + 1, _, _, _, .tup h r, k, q => by
    cases q
    obtain ⟨its, rv, ⟨o, ho, hc, m, hd⟩, _⟩ := I.tuple (.inl (.inl (sg _ _ h)))
    exact .tup (its := its.toArray) ⟨o, ho, hc, m, hd⟩ (RDs.kv I sg (n := n) r k rv)
  | n + 1, _, _, _, .ktp h r, k, q => by
    cases q
    obtain ⟨its, rv, ⟨o, ho, hc, m, hd⟩, _⟩ := I.tuple (Same.seqT sg h)
    exact .ktp (its := its.toArray) ⟨o, ho, hc, m, hd⟩ (RDs.kv I sg (n := n) r k rv)
  | n + 1, _, _, _, .lst h r, k, q => by
    cases q
    obtain ⟨its, rv, p, _⟩ := I.list (.of (sg _ _ h))
    exact .lst (its := its.toArray) p.isList (RDs.kv I sg (n := n) r k rv)
  | n + 1, _, _, _, .kls h r, k, q => by
    cases q
    obtain ⟨its, rv, p, _⟩ := I.list (sg.seq h)
    exact .kls (its := its.toArray) p.isList (RDs.kv I sg (n := n) r k rv)
theorem RDs.kv {pins : List (Addr × Obj)} {s : Shared} (I : Inv X pins σ H s) (sg : Same G H) : ∀ {n : Nat} {ds : List D} {vs : List V} {us : List Value}, RDs X.K G ds vs → okXs n ds = true → Vals vs us → DE.KVs s.heap us ds
  | _, _, _, _, .nil, _, q => by cases q; exact .nil
  | n, _, _, _, .cons a b, k, q => by
    unfold okXs at k
    rw [Bool.and_eq_true] at k
    cases q with
    | cons q1 q2 => exact .cons (RD.kv I sg a k.1 q1) (RDs.kv I sg b k.2 q2)
end
theorem RH.kv {pins : List (Addr × Obj)} {s : Shared} (I : Inv X pins σ H s) (sg : Same G H) {n : Nat} {d : D} {v : V} {u : Value} (h : RH X.K G H d v) (k : okX n d = true) (q : RelV v u) : DE.KV s.heap u d := by
  cases d with
  | lst ds =>
    obtain ⟨a, vs, rfl, a1, a2⟩ := h
    cases n with
    | zero => cases k
    | succ n =>
      cases q
      obtain ⟨its, rv, p, _⟩ := I.list (.of a1)
      exact .lst (its := its.toArray) p.isList (RDs.kv I sg (n := n) a2 k rv)
  | dct kvs =>
    obtain ⟨a, ws, rfl, a1, a2, a3⟩ := h
    cases q
    exact dct_kv I a1 a2 (by cases n <;> exact k)
  | dtt _ => cases n <;> cases k
  | _ => exact RD.kv I sg h k q
def rEqX (K : FG) : R2 := fun x y H Q => ∃ G n d e, Same G H ∧ n ≤ 60 ∧ okX n d = true ∧ okX n e = true ∧ RH K G H d x ∧ RH K G H e y ∧ Q (.bl (eqD d e)) H
def rNeX (K : FG) : R2 := fun x y H Q => ∃ G n d e, Same G H ∧ n ≤ 60 ∧ okX n d = true ∧ okX n e = true ∧ RH K G H d x ∧ RH K G H e y ∧ Q (.bl (!eqD d e)) H
theorem op_eqX (hu : X.A.units + 64 < cLine) : OpR X (compareOp .Eq) (rEqX X.K) := by
  intro pins s σ H x y v u Q I rx ry h
  obtain ⟨G, n, d, e, sg, hn, kd, ke, hd, he, q⟩ := h
  exact DE.rcX n X.A (by omega) kd ke (hd.kv I sg kd rx) (he.kv I sg ke ry) X.prog X.w _ _ ⟨.bl _, H, I, rfl, q⟩
theorem op_neX (hu : X.A.units + 64 < cLine) : OpR X (compareOp .NotEq) (rNeX X.K) := by
  intro pins s σ H x y v u Q I rx ry h
  obtain ⟨G, n, d, e, sg, hn, kd, ke, hd, he, q⟩ := h
  exact DE.rnX n X.A (by omega) kd ke (hd.kv I sg kd rx) (he.kv I sg ke ry) X.prog X.w _ _ ⟨.bl _, H, I, rfl, q⟩
theorem opd_eq (hu : X.A.units + 64 < cLine) : OpD X (compareOp .Eq) gEq := by
  refine ⟨_, ((op_eq (X := X)).or (op_eqD hu)).or (op_eqX hu), ?_⟩
  intro Z σ G H r x y dx dy o Q S hx hy e h
  unfold gEq at e
  split at e
  case isFalse =>
    split at e <;> cases e
    rename_i hz
    rw [Bool.and_eq_true] at hz
    exact .inr ⟨G, 60, dx, dy, S.sg, Nat.le_refl _, hz.1, hz.2, hx, hy, h.bl S⟩
  cases e
  rename_i hz
  refine .inl ?_
  have deep : (okD 64 dx && okD 64 dy) = true → ∃ d e, Dp X.K H x d ∧ Dp X.K H y e ∧ SeqAt.shaped d = true ∧ SeqAt.shaped e = true ∧ Q (.bl (PyData.eqv d e)) H := fun k => by
    rw [Bool.and_eq_true] at k
    refine ⟨_, _, hx.dp S.sg k.1, hy.dp S.sg k.2, okD_shaped k.1, okD_shaped k.2, ?_⟩
    rw [eqD_eqv dx dy k.1 k.2]
    exact h.bl S
  cases dx <;> cases dy <;> first
    | exact .inr (deep hz)
    | (cases hx; cases hy; refine .inl ⟨rfl, ?_⟩; have q := h.bl S; first | exact q | (rw [show decide (V.str _ = V.str _) = _ from dec_str]; exact q))
theorem opd_ne (hu : X.A.units + 64 < cLine) : OpD X (compareOp .NotEq) gNe := by
  refine ⟨_, ((op_ne (X := X)).or (op_neD hu)).or (op_neX hu), ?_⟩
  intro Z σ G H r x y dx dy o Q S hx hy e h
  unfold gNe at e
  split at e
  case isFalse =>
    split at e <;> cases e
    rename_i hz
    rw [Bool.and_eq_true] at hz
    exact .inr ⟨G, 60, dx, dy, S.sg, Nat.le_refl _, hz.1, hz.2, hx, hy, h.bl S⟩
  cases e
  rename_i hz
  refine .inl ?_
  have deep : (okD 64 dx && okD 64 dy) = true → ∃ d e, Dp X.K H x d ∧ Dp X.K H y e ∧ SeqAt.shaped d = true ∧ SeqAt.shaped e = true ∧ Q (.bl (!PyData.eqv d e)) H := fun k => by
    rw [Bool.and_eq_true] at k
    refine ⟨_, _, hx.dp S.sg k.1, hy.dp S.sg k.2, okD_shaped k.1, okD_shaped k.2, ?_⟩
    rw [eqD_eqv dx dy k.1 k.2]
    exact h.bl S
  cases dx <;> cases dy <;> first
    | exact .inr (deep hz)
    | (cases hx; cases hy; refine .inl ⟨rfl, ?_⟩; have q := h.bl S; first | exact q | (rw [show decide (V.str _ = V.str _) = _ from dec_str]; exact q))
end
end DL

section
set_option Elab.async false
set_option linter.all false
set_option maxRecDepth 100000
set_option autoImplicit false
/-! DL4: expressions over data. -/
namespace DL
open PySem PySem.Spec PyProof.Rows L2
section
variable {X : Cx} {W : WX} {a b c e : Expr} {es : List Expr} {fa fb fc : E} {pos : Pos}
/-! ### a judgement is what its run says -/
theorem DE.run (h : DE X W e fa) {pins : List (Addr × Obj)} {s : Shared} {Z : Fr0} {σ : L2.St} {G H : Hp} {r : Ev} {Q : VK} (I : Inv X pins σ H s) (S : RS X.K Z G H r σ) (p : EPost X W Z σ G H r Q (fa r)) :
    wpAny (model X.prog X.w) X.A (eval e X.env) (EP X pins σ Q) X.xe s := by
  obtain ⟨t, p1, p2⟩ := h.ex
  exact p1.run pins s σ H Q I (p2 Z σ G H r Q S p)
theorem DE.of (h : ∀ (pins : List (Addr × Obj)) (s : Shared) (Z : Fr0) (σ : L2.St) (G H : Hp) (r : Ev) (Q : VK), Inv X pins σ H s → RS X.K Z G H r σ → EPost X W Z σ G H r Q (fa r) → wpAny (model X.prog X.w) X.A (eval e X.env) (EP X pins σ Q) X.xe s) : DE X W e fa :=
  ⟨fun σ H Q => ∃ Z G r, RS X.K Z G H r σ ∧ EPost X W Z σ G H r Q (fa r), ⟨fun pins s σ H Q I ⟨Z, G, r, S, p⟩ => h pins s Z σ G H r Q I S p⟩, fun Z σ G H r Q S p => ⟨Z, G, r, S, p⟩⟩
theorem DT.run {f : T} (h : DT X W e f) {pins : List (Addr × Obj)} {s : Shared} {Z : Fr0} {σ : L2.St} {G H : Hp} {r : Ev} {Q : Bool → Hp → Prop} (I : Inv X pins σ H s) (S : RS X.K Z G H r σ) (p : TPost X W Z σ G H r Q (f r)) :
    wpAny (model X.prog X.w) X.A (isTrue e X.env (eval e X.env)) (TP X pins σ Q) X.xe s := by
  obtain ⟨t, p1, p2⟩ := h.ex
  exact p1.run pins s σ H Q I (p2 Z σ G H r Q S p)
theorem DT.of {f : T} (h : ∀ (pins : List (Addr × Obj)) (s : Shared) (Z : Fr0) (σ : L2.St) (G H : Hp) (r : Ev) (Q : Bool → Hp → Prop), Inv X pins σ H s → RS X.K Z G H r σ → TPost X W Z σ G H r Q (f r) → wpAny (model X.prog X.w) X.A (isTrue e X.env (eval e X.env)) (TP X pins σ Q) X.xe s) : DT X W e f :=
  ⟨fun σ H Q => ∃ Z G r, RS X.K Z G H r σ ∧ TPost X W Z σ G H r Q (f r), ⟨fun pins s σ H Q I ⟨Z, G, r, S, p⟩ => h pins s Z σ G H r Q I S p⟩, fun Z σ G H r Q S p => ⟨Z, G, r, S, p⟩⟩
/-! ### one operand -/
def UnD (X : Cx) (f : Value → Sem Value) (g : D → Option Op) : Prop :=
  ∃ rr : V → Hp → VK → Prop, UnR X f rr ∧ ∀ (Z : Fr0) (σ : L2.St) (G H : Hp) (r : Ev) (x : V) (dx : D) (o : Op) (Q : VK), RS X.K Z G H r σ → RH X.K G H dx x → g dx = some o → ResOk X.K Z σ G H r Q o → rr x H Q
theorem one_op {g : D → Option Op} {rr : V → Hp → VK → Prop} {ta : L2.TE} {Z : Fr0} {σ : L2.St} {G H : Hp} {r : Ev} {Q : VK}
    (ha : ∀ (Z : Fr0) (σ : L2.St) (G H : Hp) (r : Ev) (Q : VK), RS X.K Z G H r σ → EPost X W Z σ G H r Q (fa r) → ta σ H Q)
    (ho : ∀ (Z : Fr0) (σ : L2.St) (G H : Hp) (r : Ev) (x : V) (dx : D) (o : Op) (Q : VK), RS X.K Z G H r σ → RH X.K G H dx x → g dx = some o → ResOk X.K Z σ G H r Q o → rr x H Q)
    (S : RS X.K Z G H r σ) (p : EPost X W Z σ G H r Q (eUn g fa r)) : ta σ H fun x H1 => rr x H1 Q := by
  refine ha Z σ G H r _ S ?_
  unfold eUn at p
  cases q : fa r with
  | ok o r1 =>
    simp only [q] at p
    intro v G1 H1 S1 X1 R1
    cases e1 : rsv r1 o with
    | none => simp only [e1] at p; exact p.elim
    | some d =>
      cases e2 : g d with
      | none => simp only [e1, e2] at p; exact p.elim
      | some z =>
        simp only [e1, e2] at p
        exact ho Z σ G1 H1 r1 v d z Q S1 (R1.rsv S1 e1) e2 fun v G2 H2 S2 X2 R2 => p v G2 H2 S2 (X1.trans X2) (R2.base X1.n)
  | err c r1 => simp only [q] at p; exact p
  | bad => simp only [q] at p; exact p.elim
theorem de_un {op : UnaryOp} {g : D → Option Op} (ho : UnD X (unaryOp op) g) (ha : DE X W a fa) : DE X W (.UnaryOp op a pos) (eUn g fa) := by
  obtain ⟨ta, pa, qa⟩ := ha.ex
  obtain ⟨rr, po, qo⟩ := ho
  exact ⟨_, pe_un po pa, fun Z σ G H r Q S p => one_op qa qo S p⟩
theorem und_neg : UnD X (unaryOp .USub) gNeg := by
  refine ⟨_, un_neg, ?_⟩
  intro Z σ G H r x dx o Q S hx e h
  unfold gNeg at e
  cases dx <;> first | (cases e; done) | skip
  cases hx; cases e
  exact ⟨_, rfl, h.int S⟩
theorem de_notE (ha : DE X W a fa) : DE X W (.UnaryOp .Not a pos) (eNotE fa) := by
  obtain ⟨ta, pa, qa⟩ := ha.ex
  refine ⟨_, pe_notT pa, fun Z σ G H r Q S p => qa Z σ G H r _ S ?_⟩
  unfold eNotE tTru at p
  cases e1 : fa r with
  | ok o r1 =>
    simp only [e1] at p
    intro v G1 H1 S1 X1 R1
    cases e2 : rsv r1 o with
    | none => simp only [e2] at p; exact p.elim
    | some d =>
      cases e3 : dtr d with
      | none => simp only [e2, e3] at p; exact p.elim
      | some k =>
        simp only [e2, e3] at p
        exact ⟨k, truV_of S1.sg (R1.rsv S1 e2) e3, p _ G1 H1 S1 X1 (.bl _)⟩
  | err c r1 => simp only [e1] at p; exact p
  | bad => simp only [e1] at p; exact p.elim
/-! ### and, or, not -/
theorem TPost.imp {Z : Fr0} {σ : L2.St} {G H : Hp} {r : Ev} {Q Q' : Bool → Hp → Prop} (h : ∀ b H, Q b H → Q' b H) : ∀ {o : TOut}, TPost X W Z σ G H r Q o → TPost X W Z σ G H r Q' o
  | .ok _ _, p => fun G' H' S e => h _ _ (p G' H' S e)
  | .err _ _, p => p
  | .bad, p => p
theorem dt_not {f : T} (h : DT X W a f) : DT X W (.UnaryOp .Not a pos) (tNot f) := by
  obtain ⟨t, p, q⟩ := h.ex
  refine ⟨_, pt_not p, fun Z σ G H r Q S hp => q Z σ G H r _ S ?_⟩
  unfold DL.tNot at hp
  cases e1 : f r with
  | ok k r1 => simp only [e1] at hp; exact hp
  | err c r1 => simp only [e1] at hp; exact hp
  | bad => simp only [e1] at hp; exact hp.elim
section
variable {f g : T} {rest : List Expr}
theorem dw_and1 (h : DT X W a f) : DW X W (.BoolOp .And [a] pos) f := by
  obtain ⟨t, p, q⟩ := h.ex
  exact ⟨_, pw_and1 p, q⟩
theorem dw_or1 (h : DT X W a f) : DW X W (.BoolOp .Or [a] pos) f := by
  obtain ⟨t, p, q⟩ := h.ex
  exact ⟨_, pw_or1 p, q⟩
theorem dw_and (h : DT X W a f) (k : DW X W (.BoolOp .And (b :: rest) pos) g) : DW X W (.BoolOp .And (a :: b :: rest) pos) (tAnd f g) := by
  obtain ⟨t, p, q⟩ := h.ex
  obtain ⟨t2, p2, q2⟩ := k.ex
  refine ⟨_, pw_and p p2, fun Z σ G H r Q S hp => q Z σ G H r _ S ?_⟩
  unfold DL.tAnd at hp
  cases e1 : f r with
  | ok k r1 =>
    cases k with
    | true => simp only [e1] at hp; exact fun G1 H1 S1 X1 => iteT <| q2 Z σ G1 H1 r1 Q S1 (hp.pre X1)
    | false => simp only [e1] at hp; exact fun G1 H1 S1 X1 => iteF <| hp G1 H1 S1 X1
  | err c r1 => simp only [e1] at hp; exact hp
  | bad => simp only [e1] at hp; exact hp.elim
theorem dw_or (h : DT X W a f) (k : DW X W (.BoolOp .Or (b :: rest) pos) g) : DW X W (.BoolOp .Or (a :: b :: rest) pos) (tOr f g) := by
  obtain ⟨t, p, q⟩ := h.ex
  obtain ⟨t2, p2, q2⟩ := k.ex
  refine ⟨_, pw_or p p2, fun Z σ G H r Q S hp => q Z σ G H r _ S ?_⟩
  unfold DL.tOr at hp
  cases e1 : f r with
  | ok k r1 =>
    cases k with
    | true => simp only [e1] at hp; exact fun G1 H1 S1 X1 => iteT <| hp G1 H1 S1 X1
    | false => simp only [e1] at hp; exact fun G1 H1 S1 X1 => iteF <| q2 Z σ G1 H1 r1 Q S1 (hp.pre X1)
  | err c r1 => simp only [e1] at hp; exact hp
  | bad => simp only [e1] at hp; exact hp.elim
end
section
variable {rest : List Expr} {op : BoolOp}
theorem de_one (h : DE X W a fa) : DE X W (.BoolOp op [a] pos) fa := by
  obtain ⟨t, p, q⟩ := h.ex
  exact ⟨_, pe_one p, q⟩
theorem de_and (h : DE X W a fa) (k : DE X W (.BoolOp .And (b :: rest) pos) fb) : DE X W (.BoolOp .And (a :: b :: rest) pos) (eAnd fa fb) := by
  obtain ⟨t, p, q⟩ := h.ex
  obtain ⟨t2, p2, q2⟩ := k.ex
  refine ⟨_, pe_and p p2, fun Z σ G H r Q S hp => q Z σ G H r _ S ?_⟩
  unfold eAnd at hp
  cases e1 : fa r with
  | ok o r1 =>
    simp only [e1] at hp
    cases o with
    | fz d =>
      cases d with
      | bl k =>
        cases k with
        | true => intro v G1 H1 S1 X1 R1; cases R1; exact ⟨true, rfl, iteT <| q2 Z σ G1 H1 r1 Q S1 (hp.pre X1)⟩
        | false => intro v G1 H1 S1 X1 R1; cases R1; exact ⟨false, rfl, iteF <| hp _ G1 H1 S1 X1 (.bl _)⟩
      | _ => exact hp.elim
    | _ => exact hp.elim
  | err c r1 => simp only [e1] at hp; exact hp
  | bad => simp only [e1] at hp; exact hp.elim
theorem de_or (h : DE X W a fa) (k : DE X W (.BoolOp .Or (b :: rest) pos) fb) : DE X W (.BoolOp .Or (a :: b :: rest) pos) (eOr fa fb) := by
  obtain ⟨t, p, q⟩ := h.ex
  obtain ⟨t2, p2, q2⟩ := k.ex
  refine ⟨_, pe_or p p2, fun Z σ G H r Q S hp => q Z σ G H r _ S ?_⟩
  unfold eOr at hp
  cases e1 : fa r with
  | ok o r1 =>
    simp only [e1] at hp
    cases o with
    | fz d =>
      cases d with
      | bl k =>
        cases k with
        | true => intro v G1 H1 S1 X1 R1; cases R1; exact ⟨true, rfl, iteT <| hp _ G1 H1 S1 X1 (.bl _)⟩
        | false => intro v G1 H1 S1 X1 R1; cases R1; exact ⟨false, rfl, iteF <| q2 Z σ G1 H1 r1 Q S1 (hp.pre X1)⟩
      | _ => exact hp.elim
    | _ => exact hp.elim
  | err c r1 => simp only [e1] at hp; exact hp
  | bad => simp only [e1] at hp; exact hp.elim
end
theorem de_if {f : T} (h : DT X W c f) (ha : DE X W a fa) (hb : DE X W b fb) : DE X W (.IfExp c a b pos) (eIf f fa fb) := by
  obtain ⟨t, p, q⟩ := h.ex
  obtain ⟨ta, pa, qa⟩ := ha.ex
  obtain ⟨tb, pb, qb⟩ := hb.ex
  refine ⟨_, pe_ifExp p pa pb, fun Z σ G H r Q S hp => q Z σ G H r _ S ?_⟩
  unfold eIf at hp
  cases e1 : f r with
  | ok k r1 =>
    cases k with
    | true => simp only [e1] at hp; exact fun G1 H1 S1 X1 => iteT <| qa Z σ G1 H1 r1 Q S1 (hp.pre X1)
    | false => simp only [e1] at hp; exact fun G1 H1 S1 X1 => iteF <| qb Z σ G1 H1 r1 Q S1 (hp.pre X1)
  | err c r1 => simp only [e1] at hp; exact hp
  | bad => simp only [e1] at hp; exact hp.elim
/-! ### a row of operands -/
theorem da_nil : DA X W [] aNil := ⟨_, pa_nil, fun Z σ G H r Q S p => p [] G H S .refl .nil⟩
theorem da_cons {f : A} (h : DE X W e fa) (k : DA X W es f) (hs : starEach (e :: es) X.env = (false, eval e X.env) :: starEach es X.env := by rfl) : DA X W (e :: es) (aCons fa f) := by
  obtain ⟨t, p, q⟩ := h.ex
  obtain ⟨t2, p2, q2⟩ := k.ex
  refine ⟨_, pa_cons p p2 hs, fun Z σ G H r Q S hp => q Z σ G H r _ S ?_⟩
  unfold aCons at hp
  cases e1 : fa r with
  | ok o r1 =>
    simp only [e1] at hp
    intro v G1 H1 S1 X1 R1
    refine q2 Z σ G1 H1 r1 _ S1 ?_
    cases e2 : f r1 with
    | ok os r2 =>
      simp only [e2] at hp
      exact fun vs G2 H2 S2 X2 R2 => hp _ G2 H2 S2 (X1.trans X2) (.cons (R1.keep X2) (ROs.base X1.n R2))
    | err c r2 =>
      simp only [e2] at hp
      exact fun C G' H' S' x m => hp C G' H' S' (X1.trans x) m
    | bad => simp only [e2] at hp; exact hp.elim
  | err c r1 => simp only [e1] at hp; exact hp
  | bad => simp only [e1] at hp; exact hp.elim
end
/-! ### operands put away -/
/-- an operand, or a new object that has been put away already -/
def RF (K : FG) (Z : Fr0) (σ : L2.St) (B G H : Hp) (r : Ev) (o : Op) (v : V) : Prop := RO K Z σ B G H r o v ∨ ∃ d, o = .tm d ∧ RD K G d v
/-- what putting away changes -/
structure FZ (Z : Fr0) (σ : L2.St) (B G : Hp) (r : Ev) (G' : Hp) (r' : Ev) : Prop where
  g : Same G G'
  f : ∀ a u, G' a = some u → G a = some u ∨ ownAt r σ a ∨ B a = none
  o : ∀ a, ownAt r' σ a → ownAt r σ a
theorem FZ.refl {Z : Fr0} {σ : L2.St} {B G : Hp} {r : Ev} : FZ Z σ B G r G r := ⟨Same.refl _, fun _ _ h => .inl h, fun _ h => h⟩
theorem FZ.trans {Z : Fr0} {σ : L2.St} {B G G1 G2 : Hp} {r r1 r2 : Ev} (a : FZ Z σ B G r G1 r1) (b : FZ Z σ B G1 r1 G2 r2) : FZ Z σ B G r G2 r2 :=
  ⟨a.g.trans b.g, fun c u h => (b.f c u h).elim (a.f c u) fun h => h.elim (fun h => .inr (.inl (a.o c h))) fun h => .inr (.inr h), fun c h => a.o c (b.o c h)⟩
theorem FZ.ex {Z : Fr0} {σ : L2.St} {G H G1 H1 G2 : Hp} {r r1 r2 : Ev} (x : EX σ G H r G1 H1 r1) (z : FZ Z σ H G1 r1 G2 r2) : EX σ G H r G2 H1 r2 where
  g := x.g.trans z.g
  h := x.h
  n := x.n
  f := fun a u h => by
    rcases z.f a u h with k | k | k
    · exact x.f a u k
    · exact .inr (.inr (x.o a k))
    · exact .inr (.inl (.inl k))
  o := fun a h => x.o a (z.o a h)
section
variable {K : FG} {Z : Fr0} {σ : L2.St} {B G H : Hp} {r r' : Ev}
theorem RF.fzo (S : RS K Z G H r σ) {o : Op} {v : V} {d : D} (h : RF K Z σ B G H r o v) (e : fzo r o = some (d, r')) :
    ∃ G', RS K Z G' H r' σ ∧ RD K G' d v ∧ FZ Z σ B G r G' r' ∧ ∀ o2 v2, RF K Z σ B G H r o2 v2 → RF K Z σ B G' H r' o2 v2 := by
  rcases h with h | ⟨d', e', rd⟩
  · cases o with
    | fz d' => cases e; exact ⟨G, S, h, .refl, fun _ _ h => h⟩
    | tm d' =>
      cases e
      obtain ⟨a, e1, g0, h0, no, rm⟩ := h
      subst e1
      obtain ⟨u, hu, S', sm, rd⟩ := S.frz g0 h0.1 no rm
      refine ⟨_, S', rd, ⟨sm, fun b w q => ?_, fun _ h => h⟩, fun o2 v2 h2 => ?_⟩
      · by_cases hb : b = a
        · subst hb; exact .inr (.inr h0.2)
        · rw [upd_ne hb] at q; exact .inl q
      · rcases h2 with h2 | ⟨d2, e2, rd2⟩
        · cases o2 with
          | fz d2 => exact .inl (RD.mono sm h2)
          | br i => exact .inl h2
          | tm d2 =>
            obtain ⟨b, e1, p0, p1, p2, p3⟩ := h2
            subst e1
            by_cases hb : b = a
            · subst hb
              obtain ⟨u2, hu2, rd2⟩ := p3.freeze p0
              rw [hu] at hu2; cases hu2
              exact .inr ⟨d2, rfl, rd2⟩
            · exact .inl ⟨b, rfl, by rw [upd_ne hb]; exact p0, p1, p2, p3.at sm rfl⟩
        · exact .inr ⟨d2, e2, rd2.mono sm⟩
    | br i =>
      have h' : σ[i]? = some (some v) := h
      unfold DL.fzo at e
      cases q : r[i]? with
      | none => simp [q] at e
      | some s =>
        cases s with
        | no => simp [q] at e
        | va d' =>
          simp only [q] at e; cases e
          obtain ⟨v', e1, e2⟩ := S.va i _ q
          rw [h'] at e1; cases e1
          exact ⟨G, S, e2, .refl, fun _ _ h => h⟩
        | ow b d' =>
          cases b with
          | true => simp [q] at e
          | false =>
            simp only [q] at e; cases e
            obtain ⟨a, G', e1, S', X', fz, rd⟩ := S.freeze q
            rw [h'] at e1; cases e1
            refine ⟨G', S', rd, ⟨X'.g, fun b u z => ?_, X'.o⟩, fun o2 v2 h2 => ?_⟩
            · rcases fz b u z with k | k
              · exact .inl k
              · exact .inr (.inl k)
            · rcases h2 with h2 | ⟨d2, e2, rd2⟩
              · exact .inl (h2.keep X')
              · exact .inr ⟨d2, e2, rd2.mono X'.g⟩
  · subst e'
    cases e
    exact ⟨G, S, rd, .refl, fun _ _ h => h⟩
theorem RO.fzo (S : RS K Z G H r σ) {o : Op} {v : V} {d : D} (h : RO K Z σ B G H r o v) (e : fzo r o = some (d, r')) :
    ∃ G', RS K Z G' H r' σ ∧ RD K G' d v ∧ FZ Z σ B G r G' r' ∧ ∀ o2 v2, RF K Z σ B G H r o2 v2 → RF K Z σ B G' H r' o2 v2 := RF.fzo S (.inl h) e
inductive RFs (K : FG) (Z : Fr0) (σ : L2.St) (B G H : Hp) (r : Ev) : List Op → List V → Prop
  | nil : RFs K Z σ B G H r [] []
  | cons {o : Op} {v : V} {os : List Op} {vs : List V} : RF K Z σ B G H r o v → RFs K Z σ B G H r os vs → RFs K Z σ B G H r (o :: os) (v :: vs)
theorem ROs.rf : ∀ {os : List Op} {vs : List V}, ROs K Z σ B G H r os vs → RFs K Z σ B G H r os vs
  | _, _, .nil => .nil
  | _, _, .cons a b => .cons (.inl a) (ROs.rf b)
theorem RFs.imp {G' : Hp} {r' : Ev} (h : ∀ o2 v2, RF K Z σ B G H r o2 v2 → RF K Z σ B G' H r' o2 v2) : ∀ {os : List Op} {vs : List V}, RFs K Z σ B G H r os vs → RFs K Z σ B G' H r' os vs
  | _, _, .nil => .nil
  | _, _, .cons a b => .cons (h _ _ a) (RFs.imp h b)
end
theorem RFs.fzos {K : FG} {Z : Fr0} {σ : L2.St} {B H : Hp} : ∀ {os : List Op} {vs : List V} {ds : List D} {G : Hp} {r r' : Ev}, RS K Z G H r σ → RFs K Z σ B G H r os vs → fzos os r = some (ds, r') →
    ∃ G', RS K Z G' H r' σ ∧ RDs K G' ds vs ∧ FZ Z σ B G r G' r' ∧ ∀ o2 v2, RF K Z σ B G H r o2 v2 → RF K Z σ B G' H r' o2 v2
  | [], _, ds, G, r, r', S, .nil, e => by cases e; exact ⟨G, S, .nil, .refl, fun _ _ h => h⟩
  | o :: os, _, ds, G, r, r', S, .cons a b, e => by
    unfold DL.fzos at e
    cases q : fzo r o with
    | none => simp [q] at e
    | some p =>
      obtain ⟨d, r1⟩ := p
      simp only [q] at e
      obtain ⟨G1, S1, rd1, z1, k1⟩ := RF.fzo S a q
      cases q2 : DL.fzos os r1 with
      | none => simp [q2] at e
      | some p2 =>
        obtain ⟨ds2, r2⟩ := p2
        simp only [q2] at e; cases e
        obtain ⟨G2, S2, rd2, z2, k2⟩ := RFs.fzos S1 (b.imp k1) q2
        exact ⟨G2, S2, .cons (rd1.mono z2.g) rd2, z1.trans z2, fun o2 v2 h => k2 o2 v2 (k1 o2 v2 h)⟩
/-! ### displays -/
section
variable {X : Cx} {W : WX} {e : Expr} {es : List Expr} {fa : E} {pos : Pos} {f : A}
theorem de_tup {x1 : _} (h : DA X W es f) : DE X W (.Tuple es x1 pos) (eTup f) := by
  obtain ⟨t, p, q⟩ := h.ex
  refine ⟨_, pe_tup p, fun Z σ G H r Q S hp => q Z σ G H r _ S ?_⟩
  unfold eTup at hp
  cases e1 : f r with
  | ok os r1 =>
    simp only [e1] at hp
    intro vs G1 H1 S1 X1 R1
    cases e2 : fzos os r1 with
    | none => simp only [e2] at hp; exact hp.elim
    | some p2 =>
      obtain ⟨ds, r2⟩ := p2
      simp only [e2] at hp
      obtain ⟨G2, S2, rd, z2, _⟩ := RFs.fzos S1 (ROs.rf R1) e2
      have X2 := z2.ex X1
      split at hp
      · rename_i hz
        refine ⟨by rw [← rd.length]; exact hz, fun p hp' => ?_⟩
        obtain ⟨S3, X3, R3⟩ := S2.newT hp' rd
        exact hp _ _ _ S3 (X2.trans X3) R3
      · exact hp.elim
  | err c r1 => simp only [e1] at hp; exact hp
  | bad => simp only [e1] at hp; exact hp.elim
theorem de_lst (h : DA X W es f) : DE X W (.List es pos) (eLst f) := by
  obtain ⟨t, p, q⟩ := h.ex
  refine ⟨_, pe_lst p, fun Z σ G H r Q S hp => q Z σ G H r _ S ?_⟩
  unfold eLst at hp
  cases e1 : f r with
  | ok os r1 =>
    simp only [e1] at hp
    intro vs G1 H1 S1 X1 R1
    cases e2 : fzos os r1 with
    | none => simp only [e2] at hp; exact hp.elim
    | some p2 =>
      obtain ⟨ds, r2⟩ := p2
      simp only [e2] at hp
      obtain ⟨G2, S2, rd, z2, _⟩ := RFs.fzos S1 (ROs.rf R1) e2
      have X2 := z2.ex X1
      split at hp
      · rename_i hz
        refine ⟨by rw [← rd.length]; exact hz, fun p hp' => ?_⟩
        have k : ResOk X.K Z σ G2 H1 r2 Q (.tm (.lst ds)) := fun v G3 H3 S3 X3 R3 => hp v G3 H3 S3 (X2.trans X3) (R3.base X2.n)
        exact k.lst S2 rd hp'
      · exact hp.elim
  | err c r1 => simp only [e1] at hp; exact hp
  | bad => simp only [e1] at hp; exact hp.elim
/-! ### built-ins by name -/
def CallD (X : Cx) (f : Value) (g : List D → Option Op) : Prop :=
  ∃ rr : List V → Hp → VK → Prop, CallR X f rr ∧ ∀ (Z : Fr0) (σ : L2.St) (G H : Hp) (r : Ev) (xs : List V) (ds : List D) (o : Op) (Q : VK), RS X.K Z G H r σ → RHs X.K G H ds xs → g ds = some o → ResOk X.K Z σ G H r Q o → rr xs H Q
theorem pure_op {g : List D → Option Op} {rr : List V → Hp → VK → Prop} {t : L2.TA} {Z : Fr0} {σ : L2.St} {G H : Hp} {r : Ev} {Q : VK}
    (q : ∀ (Z : Fr0) (σ : L2.St) (G H : Hp) (r : Ev) (Q : List V → Hp → Prop), RS X.K Z G H r σ → APost X W Z σ G H r Q (f r) → t σ H Q)
    (qo : ∀ (Z : Fr0) (σ : L2.St) (G H : Hp) (r : Ev) (xs : List V) (ds : List D) (o : Op) (Q : VK), RS X.K Z G H r σ → RHs X.K G H ds xs → g ds = some o → ResOk X.K Z σ G H r Q o → rr xs H Q)
    (S : RS X.K Z G H r σ) (hp : EPost X W Z σ G H r Q (ePure g f r)) : t σ H fun xs H1 => rr xs H1 Q := by
  refine q Z σ G H r _ S ?_
  unfold ePure at hp
  cases e1 : f r with
  | ok os r1 =>
    simp only [e1] at hp
    intro vs G1 H1 S1 X1 R1
    cases e2 : rsvs r1 os with
    | none => simp only [e2] at hp; exact hp.elim
    | some ds =>
      cases e3 : g ds with
      | none => simp only [e2, e3] at hp; exact hp.elim
      | some z =>
        simp only [e2, e3] at hp
        exact qo Z σ G1 H1 r1 vs ds z Q S1 (ROs.rsvs S1 R1 e2) e3 fun v G2 H2 S2 X2 R2 => hp v G2 H2 S2 (X1.trans X2) (R2.base X1.n)
  | err c r1 => simp only [e1] at hp; exact hp
  | bad => simp only [e1] at hp; exact hp.elim
theorem de_callB {id : String} {g : List D → Option Op} {x : Str} {p : Pos} (hc : CallD X (.builtin id) g) (hg : Gl X x) (hm : X.mg x = none) (hv : bootBuiltins x = some (.builtin id)) (ha : DA X W (e :: es) f) (hn : x ≠ "__name__" := by decide) (hdb : (x == ("__debug__" : Str)) = false := by decide)
    (he : starEach (e :: es) X.env = (false, eval e X.env) :: starEach es X.env := by rfl) (hpl : (backTo pos (starEach es X.env)).any (·.1) = false := by rfl) : DE X W (.Call (.Name x p) (e :: es) [] pos) (ePure g f) := by
  obtain ⟨rr, po, qo⟩ := hc
  obtain ⟨t, p, q⟩ := ha.ex
  exact ⟨_, pe_callB po hg hm hv p hn hdb he hpl, fun Z σ G H r Q S hp => pure_op q qo S hp⟩
theorem de_callTy {T : String} {g : List D → Option Op} {x : Str} {p : Pos} (hc : CallD X (.type T) g) (hg : Gl X x) (hm : X.mg x = none) (hv : bootBuiltins x = some (.type T)) (ha : DA X W (e :: es) f) (hn : x ≠ "__name__" := by decide) (hdb : (x == ("__debug__" : Str)) = false := by decide)
    (he : starEach (e :: es) X.env = (false, eval e X.env) :: starEach es X.env := by rfl) (hpl : (backTo pos (starEach es X.env)).any (·.1) = false := by rfl) : DE X W (.Call (.Name x p) (e :: es) [] pos) (ePure g f) := by
  obtain ⟨rr, po, qo⟩ := hc
  obtain ⟨t, p, q⟩ := ha.ex
  exact ⟨_, pe_callTy po hg hm hv p hn hdb he hpl, fun Z σ G H r Q S hp => pure_op q qo S hp⟩
end
end DL
end

section
set_option Elab.async false
set_option linter.all false
set_option maxRecDepth 100000
set_option autoImplicit false
/-! DL5: in, is, chains, built-ins, subscripts, slices. -/
namespace DL
open PySem PySem.Spec PyProof.Rows L2
section
variable {X : Cx} {W : WX} {a b c e : Expr} {es : List Expr} {fa fb fc : E} {pos : Pos}
/-! ### dicts -/
theorem keyV {K : FG} {G : Hp} {d : D} {v : V} {k : DK} (h : RD K G d v) (e : keyD d = some k) : v = kV k := by
  cases d <;> first | (cases e; done) | skip
  · cases h; cases e; rfl
  · cases h; cases e; rfl
theorem keysV {K : FG} {G : Hp} : ∀ {ds : List D} {vs : List V} {ks : List DK}, RDs K G ds vs → keysD ds = some ks → vs = ks.map kV
  | [], _, _, .nil, e => by cases e; rfl
  | d :: ds, _, ks, .cons a b, e => by
    unfold keysD at e
    cases q : keyD d with
    | none => simp [q] at e
    | some k =>
      cases q2 : keysD ds with
      | none => simp [q, q2] at e
      | some ks' =>
        simp only [q, q2] at e; cases e
        rw [keyV a q, keysV b q2]; rfl
theorem valV_cons {κ : Type} [DecidableEq κ] (p : κ × V) (r : List (κ × V)) (x : κ) : valV (p :: r) x = if p.1 = x then some p.2 else valV r x := by
  by_cases e : p.1 = x
  · rw [if_pos e]; exact valV_pos e
  · rw [if_neg e]; exact valV_neg e
/-- a dict's value at a key -/
theorem valR {κ : Type} [DecidableEq κ] {K : FG} {G : Hp} (x : κ) : ∀ {kvs : List (κ × D)} {ws : List (κ × V)}, ws.map (·.1) = kvs.map (·.1) → RDs K G (kvs.map (·.2)) (ws.map (·.2)) →
    (valD kvs x = none ∧ valV ws x = none) ∨ ∃ d v, valD kvs x = some d ∧ valV ws x = some v ∧ RD K G d v
  | [], [], _, _ => .inl ⟨rfl, rfl⟩
  | [], _ :: _, h, _ => by simp at h
  | _ :: _, [], h, _ => by simp at h
  | (k, d) :: kvs, (k', v) :: ws, h, r => by
    simp only [List.map_cons, List.cons.injEq] at h
    obtain ⟨h1, h2⟩ := h
    subst h1
    cases r with
    | cons r1 r2 =>
      rw [valV_cons]
      unfold valD
      by_cases e : k' = x
      · rw [if_pos e, if_pos e]; exact .inr ⟨d, v, rfl, rfl, r1⟩
      · rw [if_neg e, if_neg e]; exact valR x h2 r2
/-- what dget says of a dict -/
theorem dgetR {K : FG} {Z : Fr0} {σ : L2.St} {G H : Hp} {r : Ev} (S : RS K Z G H r σ) {d k : D} {x y : V} {o : Option D} (hx : RH K G H d x) (hy : RH K G H k y) (e : dget d k = some o) :
    ∃ a o', x = .ref a ∧ DGet H a y o' ∧ ((o = none ∧ o' = none) ∨ ∃ dv v, o = some dv ∧ o' = some v ∧ RD K G dv v) := by
  unfold dget at e
  cases d <;> first | (cases e; done) | skip
  · obtain ⟨a, ws, rfl, h1, h2, h3⟩ := hx
    try dsimp only at e
    cases q : keyD k with
    | none => simp [q] at e
    | some kk =>
      simp only [q] at e; cases e
      have hk : y = kV kk := by
        cases k <;> first | (cases q; done) | exact keyV hy q
      subst hk
      refine ⟨a, valV ws kk, rfl, .inl ⟨ws, kk, h1, rfl, rfl⟩, ?_⟩
      rcases valR kk h2 h3 with ⟨e1, e2⟩ | ⟨dv, v, e1, e2, e3⟩
      · exact .inl ⟨e1, e2⟩
      · exact .inr ⟨dv, v, e1, e2, e3⟩
  · obtain ⟨a, ws, rfl, h1, h2, h3⟩ := hx
    try dsimp only at e
    cases k <;> first | (cases e; done) | skip
    rename_i ks
    try dsimp only at e
    cases q : keysD ks with
    | none => simp [q] at e
    | some kk =>
      simp only [q] at e; cases e
      cases hy with | tup t1 t2 =>
      have hk := keysV t2 q
      subst hk
      refine ⟨a, valV ws kk, rfl, .t h1 (S.sg _ _ t1), ?_⟩
      rcases valR kk h2 h3 with ⟨e1, e2⟩ | ⟨dv, v, e1, e2, e3⟩
      · exact .inl ⟨e1, e2⟩
      · exact .inr ⟨dv, v, e1, e2, e3⟩
def rInDict (neg : Bool) : R2 := fun x y H Q => ∃ a o, y = .ref a ∧ DGet H a x o ∧ Q (.bl (if neg then !o.isSome else o.isSome)) H
theorem op_in_dict (hu : X.A.units + 1 < cLine) : OpR X (compareOp .In) (rInDict false) := by
  intro pins s σ H x y v u Q I rx ry ⟨a, o, ey, g, q⟩
  subst ey; cases ry
  exact d_in hu I g rx fun s' I' => ⟨.bl o.isSome, H, I', rfl, q⟩
theorem op_notIn_dict (hu : X.A.units + 1 < cLine) : OpR X (compareOp .NotIn) (rInDict true) := by
  intro pins s σ H x y v u Q I rx ry ⟨a, o, ey, g, q⟩
  subst ey; cases ry
  exact d_notIn hu I g rx fun s' I' => ⟨.bl (!o.isSome), H, I', rfl, q⟩
/-! ### in -/
theorem flatR {K : FG} {G : Hp} {d : D} {v : V} (h : RD K G d v) (f : flatD d = true) : flatV v = true := by
  cases h <;> first | rfl | cases f
theorem flatsR {K : FG} {G : Hp} : ∀ {ds : List D} {vs : List V}, RDs K G ds vs → ds.all flatD = true → vs.all flatV = true
  | _, _, .nil, _ => rfl
  | _, _, .cons a b, h => by
    simp only [List.all_cons, Bool.and_eq_true] at h ⊢
    exact ⟨flatR a h.1, flatsR b h.2⟩
theorem eqR {K : FG} {G : Hp} {d e : D} {v u : V} (h : RD K G d v) (k : RD K G e u) (f : flatD d = true) (g : flatD e = true) : eqV v u = eqD d e := by
  cases h <;> cases k <;> first | rfl | (cases f; done) | (cases g; done)
theorem inR {K : FG} {G : Hp} {d : D} {v : V} (h : RD K G d v) (f : flatD d = true) : ∀ {ds : List D} {vs : List V}, RDs K G ds vs → ds.all flatD = true → inV v vs = ds.any fun z => eqD z d
  | _, _, .nil, _ => rfl
  | _, _, .cons a b, g => by
    simp only [List.all_cons, Bool.and_eq_true] at g
    show (eqV _ v || inV v _) = (eqD _ d || _)
    rw [eqR a h g.1 f, inR h f b g.2]
theorem asS_RH {K : FG} {Z : Fr0} {σ : L2.St} {G H : Hp} {r : Ev} (S : RS K Z G H r σ) {d : D} {v : V} {ds : List D} (h : RH K G H d v) (e : asS d = some ds) : ∃ a vs, v = .ref a ∧ (SqL K H a vs ∨ SqT K H a vs) ∧ RDs K G ds vs := by
  cases d <;> first | (cases e; done) | skip
  · cases e; cases h with | tup h1 h2 => exact ⟨_, _, rfl, .inr (.inl (.inl (S.sg _ _ h1))), h2⟩
  · cases e; obtain ⟨a, vs, rfl, h1, h2⟩ := h; exact ⟨_, _, rfl, .inl (.of h1), h2⟩
  · cases e; cases h with | ktp h1 h2 => exact ⟨_, _, rfl, .inr (Same.seqT S.sg h1), h2⟩
  · cases e; cases h with | kls h1 h2 => exact ⟨_, _, rfl, .inl (S.sg.seq h1), h2⟩
theorem eqs_any {n m : Nat} {d : D} (h : okD n d = true) : ∀ {ds : List D}, okDs m ds = true → ((toPs ds).any fun z => PyData.eqv z (toP d)) = ds.any fun z => eqD z d
  | [], _ => rfl
  | x :: xs, k => by
    unfold okDs at k
    rw [Bool.and_eq_true] at k
    show (PyData.eqv (toP x) (toP d) || _) = (eqD x d || _)
    rw [eqD_eqv x d k.1 h, eqs_any h k.2]
theorem rd_of_flat {K : FG} {G H : Hp} {d : D} {v : V} (h : RH K G H d v) (f : flatD d = true) : RD K G d v := by
  cases d <;> first | exact h | cases f
theorem opd_in (hu : X.A.units + 65 < cLine) : OpD X (compareOp .In) gIn := by
  refine ⟨_, (op_in_seq (X := X)).or ((op_inD (X := X) hu).or (op_in_dict (by omega))), ?_⟩
  intro Z σ G H r x y dx dy o Q S hx hy e h
  unfold gIn at e
  cases q : asS dy with
  | none =>
    simp only [q] at e
    cases q2 : dget dy dx with
    | none => simp [q2] at e
    | some od =>
      simp only [q2] at e; cases e
      obtain ⟨a, o', rfl, g, k⟩ := dgetR S hy hx q2
      refine .inr (.inr ⟨a, o', rfl, g, ?_⟩)
      have : od.isSome = o'.isSome := by
        rcases k with ⟨e1, e2⟩ | ⟨dv, v, e1, e2, _⟩ <;> rw [e1, e2] <;> rfl
      rw [if_neg Bool.false_ne_true, ← this]
      exact h.bl S
  | some ds =>
    simp only [q] at e
    split at e
    · rename_i f
      cases e
      rw [Bool.and_eq_true] at f
      obtain ⟨a, vs, rfl, h1, h2⟩ := asS_RH S hy q
      have rx := rd_of_flat hx f.1
      refine .inl ⟨a, vs, rfl, h1, flatR rx f.1, flatsR h2 f.2, ?_⟩
      rw [if_neg Bool.false_ne_true, inR rx f.1 h2 f.2]
      exact h.bl S
    · cases dy <;> first | (cases e; done) | skip
      rename_i ys
      dsimp only at e
      split at e <;> cases e
      rename_i f
      rw [Bool.and_eq_true] at f
      refine .inr (.inl ⟨_, toPs ys, hx.dp S.sg f.1, hy.dp S.sg f.2, okD_shaped f.1, okD_shaped f.2, ?_⟩)
      rw [eqs_any f.1 (m := 63) f.2]
      exact h.bl S
theorem opd_notIn (hu : X.A.units + 65 < cLine) : OpD X (compareOp .NotIn) gNotIn := by
  refine ⟨_, (op_notIn_seq (X := X)).or ((op_notInD (X := X) hu).or (op_notIn_dict (by omega))), ?_⟩
  intro Z σ G H r x y dx dy o Q S hx hy e h
  unfold gNotIn at e
  cases q : asS dy with
  | none =>
    simp only [q] at e
    cases q2 : dget dy dx with
    | none => simp [q2] at e
    | some od =>
      simp only [q2] at e; cases e
      obtain ⟨a, o', rfl, g, k⟩ := dgetR S hy hx q2
      refine .inr (.inr ⟨a, o', rfl, g, ?_⟩)
      have : od.isSome = o'.isSome := by
        rcases k with ⟨e1, e2⟩ | ⟨dv, v, e1, e2, _⟩ <;> rw [e1, e2] <;> rfl
      rw [if_pos rfl, ← this]
      exact h.bl S
  | some ds =>
    simp only [q] at e
    split at e
    · rename_i f
      cases e
      rw [Bool.and_eq_true] at f
      obtain ⟨a, vs, rfl, h1, h2⟩ := asS_RH S hy q
      have rx := rd_of_flat hx f.1
      refine .inl ⟨a, vs, rfl, h1, flatR rx f.1, flatsR h2 f.2, ?_⟩
      rw [if_pos rfl, inR rx f.1 h2 f.2]
      exact h.bl S
    · cases dy <;> first | (cases e; done) | skip
      rename_i ys
      dsimp only at e
      split at e <;> cases e
      rename_i f
      rw [Bool.and_eq_true] at f
      refine .inr (.inl ⟨_, toPs ys, hx.dp S.sg f.1, hy.dp S.sg f.2, okD_shaped f.1, okD_shaped f.2, ?_⟩)
      rw [eqs_any f.1 (m := 63) f.2]
      exact h.bl S
/-! ### is -/
theorem RH.nonV {K : FG} {G H : Hp} {v : V} (h : RH K G H .non v) : v = .non := by cases h; rfl
theorem RH.notNon {K : FG} {G H : Hp} {d : D} {v : V} (h : RH K G H d v) (n : d ≠ .non) : v ≠ .non := by
  cases d with
  | non => exact absurd rfl n
  | lst ds => obtain ⟨a, vs, rfl, _⟩ := h; exact fun z => nomatch z
  | dct ds => obtain ⟨a, vs, rfl, _⟩ := h; exact fun z => nomatch z
  | dtt ds => obtain ⟨a, vs, rfl, _⟩ := h; exact fun z => nomatch z
  | _ => cases h <;> exact fun z => nomatch z
theorem opd_is : OpD X (compareOp .Is) gIs := by
  refine ⟨_, (op_isN (X := X)).or op_is_bl, ?_⟩
  intro Z σ G H r x y dx dy o Q S hx hy e h
  unfold gIs at e
  split at e
  · cases e; cases hx.nonV; cases hy.nonV
    exact .inl ⟨rfl, h.bl S⟩
  · cases e; cases hx; cases hy
    rename_i p q
    refine .inr ⟨p, q, rfl, rfl, ?_⟩
    rw [beq_dec]; exact h.bl S
  · rename_i n
    cases e; cases hy.nonV
    refine .inl ⟨rfl, ?_⟩
    rw [decide_eq_false (hx.notNon n)]
    exact h.bl S
  · cases e
theorem opd_isNot : OpD X (compareOp .IsNot) gIsNot := by
  refine ⟨_, (op_notN (X := X)).or op_isnot_bl, ?_⟩
  intro Z σ G H r x y dx dy o Q S hx hy e h
  unfold gIsNot at e
  split at e
  · cases e; cases hx.nonV; cases hy.nonV
    exact .inl ⟨rfl, h.bl S⟩
  · cases e; cases hx; cases hy
    rename_i p q
    refine .inr ⟨p, q, rfl, rfl, ?_⟩
    rw [beq_dec]; exact h.bl S
  · rename_i n
    cases e; cases hy.nonV
    refine .inl ⟨rfl, ?_⟩
    rw [decide_eq_false (hx.notNon n)]
    exact h.bl S
  · cases e
end
end DL
end

section
set_option Elab.async false
set_option linter.all false
set_option maxRecDepth 100000
set_option autoImplicit false
/-! DL6: chains, built-ins, subscripts, slices over data. -/
namespace DL
open PySem PySem.Spec PyProof.Rows L2
section
variable {X : Cx} {W : WX} {a b c e : Expr} {es : List Expr} {fa fb fc : E} {pos : Pos}
/-! ### chains -/
/-- behind an operand o, the chain gives k -/
structure DCh (X : Cx) (W : WX) (ops : List CmpOp) (es : List Expr) (k : Ch) : Prop where
  val : ∀ (pos : Pos) (pins : List (Addr × Obj)) (s : Shared) (Z : Fr0) (σ : L2.St) (B G H : Hp) (r : Ev) (o : Op) (v : V) (u : Value) (Q : VK), Inv X pins σ H s → RS X.K Z G H r σ → RO X.K Z σ B G H r o v → RelV v u →
    EPost X W Z σ G H r Q (k o r) → wpAny (model X.prog X.w) X.A (compareChain pos u ops (evalEach es X.env)) (EP X pins σ Q) X.xe s
  tst : ∀ (pos : Pos) (pins : List (Addr × Obj)) (s : Shared) (Z : Fr0) (σ : L2.St) (B G H : Hp) (r : Ev) (o : Op) (v : V) (u : Value) (Q : Bool → Hp → Prop), Inv X pins σ H s → RS X.K Z G H r σ → RO X.K Z σ B G H r o v → RelV v u →
    TPost X W Z σ G H r Q (tBl (k o) r) → wpAny (model X.prog X.w) X.A (testChain pos u ops (evalEach es X.env)) (TP X pins σ Q) X.xe s
variable {op op' : CmpOp} {ops : List CmpOp} {g : D → D → Option Op} {k : Ch}
theorem ch_last (ho : OpD X (compareOp op) g) (hb : DE X W b fb) : DCh X W [op] [b] (chLast g fb) := by
  obtain ⟨rr, po, qo⟩ := ho
  refine ⟨?_, ?_⟩
  · intro pos pins s Z σ B G H r o v u Q I S R rv p
    refine chain_last ?_
    refine thn (hb.run (Q := fun y H2 => rr v y H2 Q) I S ?_) fun w s2 ⟨y, H2, I2, r2, q2⟩ => po pins s2 σ H2 v y u w Q I2 rv r2 q2
    unfold chLast at p
    cases e1 : fb r with
    | ok o2 r1 =>
      simp only [e1] at p
      intro y G1 H1 S1 X1 R1
      cases e2 : rsv r1 o with
      | none => simp only [e2] at p; exact p.elim
      | some dx =>
        cases e3 : rsv r1 o2 with
        | none => simp only [e2, e3] at p; exact p.elim
        | some dy =>
          cases e4 : g dx dy with
          | none => simp only [e2, e3, e4] at p; exact p.elim
          | some z =>
            simp only [e2, e3, e4] at p
            exact qo Z σ G1 H1 r1 v y dx dy z Q S1 ((R.keep X1).rsv S1 e2) (R1.rsv S1 e3) e4 fun v G2 H2 S2 X2 R2 => p v G2 H2 S2 (X1.trans X2) (R2.base X1.n)
    | err c r1 => simp only [e1] at p; exact p
    | bad => simp only [e1] at p; exact p.elim
  · intro pos pins s Z σ B G H r o v u Q I S R rv p
    refine test_last ?_
    refine thn (hb.run (Q := fun y H2 => rr v y H2 fun z H3 => ∃ c, z = .bl c ∧ Q c H3) I S ?_) fun w s2 ⟨y, H2, I2, r2, q2⟩ => thn (po pins s2 σ H2 v y u w _ I2 rv r2 q2) fun d s5 ⟨z2, H5, I5, r5, k2, ek, q5⟩ => by
      subst ek; cases r5
      exact wpAny_truthy_bool ⟨H5, I5, q5⟩
    unfold tBl chLast at p
    cases e1 : fb r with
    | ok o2 r1 =>
      simp only [e1] at p
      intro y G1 H1 S1 X1 R1
      cases e2 : rsv r1 o with
      | none => simp only [e2] at p; exact p.elim
      | some dx =>
        cases e3 : rsv r1 o2 with
        | none => simp only [e2, e3] at p; exact p.elim
        | some dy =>
          cases e4 : g dx dy with
          | none => simp only [e2, e3, e4] at p; exact p.elim
          | some z =>
            simp only [e2, e3, e4] at p
            refine qo Z σ G1 H1 r1 v y dx dy z _ S1 ((R.keep X1).rsv S1 e2) (R1.rsv S1 e3) e4 fun v G2 H2 S2 X2 R2 => ?_
            cases z with
            | fz d =>
              cases d with
              | bl c => cases R2; exact ⟨c, rfl, p G2 H2 S2 (X1.trans X2)⟩
              | _ => exact p.elim
            | _ => exact p.elim
    | err c r1 => simp only [e1] at p; exact p
    | bad => simp only [e1] at p; exact p.elim
/-- what a link leaves where its comparison is true -/
def LinkV (X : Cx) (W : WX) (Z : Fr0) (σ : L2.St) (k : Ch) (Q : VK) (y : V) (H3 : Hp) : Prop := ∃ B G3 r3 o3, RS X.K Z G3 H3 r3 σ ∧ RO X.K Z σ B G3 H3 r3 o3 y ∧ EPost X W Z σ G3 H3 r3 Q (k o3 r3)
def LinkT (X : Cx) (W : WX) (Z : Fr0) (σ : L2.St) (k : Ch) (Q : Bool → Hp → Prop) (y : V) (H3 : Hp) : Prop := ∃ B G3 r3 o3, RS X.K Z G3 H3 r3 σ ∧ RO X.K Z σ B G3 H3 r3 o3 y ∧ TPost X W Z σ G3 H3 r3 Q (tBl (k o3) r3)
theorem ch_link (ho : OpD X (compareOp op) g) (hb : DE X W b fb) (hk : DCh X W (op' :: ops) (c :: es) k) : DCh X W (op :: op' :: ops) (b :: c :: es) (chLink g fb k) := by
  obtain ⟨rr, po, qo⟩ := ho
  refine ⟨?_, ?_⟩
  · intro pos pins s Z σ B G H r o v u Q I S R rv p
    refine chain_link ?_
    refine thn (hb.run (Q := fun y H2 => rr v y H2 fun z H3 => ∃ c2, z = .bl c2 ∧ if c2 = true then LinkV X W Z σ k Q y H3 else Q (.bl false) H3) I S ?_)
      fun w s2 ⟨y, H2, I2, r2, q2⟩ => thn (po pins s2 σ H2 v y u w _ I2 rv r2 q2) fun d s3 ⟨z, H3, I3, r3, c2, ec, q3⟩ => ?_
    · unfold chLink at p
      cases e1 : fb r with
      | ok o2 r1 =>
        simp only [e1] at p
        intro y G1 H1 S1 X1 R1
        cases e2 : rsv r1 o with
        | none => simp only [e2] at p; exact p.elim
        | some dx =>
          cases e3 : rsv r1 o2 with
          | none => simp only [e2, e3] at p; exact p.elim
          | some dy =>
            cases e4 : g dx dy with
            | none => simp only [e2, e3, e4] at p; exact p.elim
            | some z =>
              refine qo Z σ G1 H1 r1 v y dx dy z _ S1 ((R.keep X1).rsv S1 e2) (R1.rsv S1 e3) e4 fun v G2 H2 S2 X2 R2 => ?_
              simp only [e2, e3, e4] at p
              cases z with
              | fz d =>
                cases d with
                | bl c2 =>
                  cases R2
                  refine ⟨c2, rfl, ?_⟩
                  cases c2 with
                  | true => exact iteT ⟨_, G2, r1, o2, S2, R1.keep X2, EPost.pre (X1.trans X2) p⟩
                  | false => exact iteF (p _ G2 H2 S2 (X1.trans X2) (.bl _))
                | _ => exact p.elim
              | _ => exact p.elim
      | err c r1 => simp only [e1] at p; exact p
      | bad => simp only [e1] at p; exact p.elim
    · subst ec; cases r3
      refine wpAny_truthy_bool ?_
      cases c2 with
      | true =>
        obtain ⟨B3, G3, r3, o3, S3, R3, p3⟩ := q3
        exact iteT (hk.val pos pins s3 Z σ B3 G3 H3 r3 o3 y w Q I3 S3 R3 r2 p3)
      | false => exact iteF ⟨.bl false, H3, I3, rfl, q3⟩
  · intro pos pins s Z σ B G H r o v u Q I S R rv p
    refine test_link ?_
    refine thn (hb.run (Q := fun y H2 => rr v y H2 fun z H3 => ∃ c2, z = .bl c2 ∧ if c2 = true then LinkT X W Z σ k Q y H3 else Q false H3) I S ?_)
      fun w s2 ⟨y, H2, I2, r2, q2⟩ => thn (po pins s2 σ H2 v y u w _ I2 rv r2 q2) fun d s3 ⟨z, H3, I3, r3, c2, ec, q3⟩ => ?_
    · unfold tBl chLink at p
      cases e1 : fb r with
      | ok o2 r1 =>
        simp only [e1] at p
        intro y G1 H1 S1 X1 R1
        cases e2 : rsv r1 o with
        | none => simp only [e2] at p; exact p.elim
        | some dx =>
          cases e3 : rsv r1 o2 with
          | none => simp only [e2, e3] at p; exact p.elim
          | some dy =>
            cases e4 : g dx dy with
            | none => simp only [e2, e3, e4] at p; exact p.elim
            | some z =>
              refine qo Z σ G1 H1 r1 v y dx dy z _ S1 ((R.keep X1).rsv S1 e2) (R1.rsv S1 e3) e4 fun v G2 H2 S2 X2 R2 => ?_
              simp only [e2, e3, e4] at p
              cases z with
              | fz d =>
                cases d with
                | bl c2 =>
                  cases R2
                  refine ⟨c2, rfl, ?_⟩
                  cases c2 with
                  | true => exact iteT ⟨_, G2, r1, o2, S2, R1.keep X2, TPost.pre (X1.trans X2) p⟩
                  | false => exact iteF (p G2 H2 S2 (X1.trans X2))
                | _ => exact p.elim
              | _ => exact p.elim
      | err c r1 => simp only [e1] at p; exact p
      | bad => simp only [e1] at p; exact p.elim
    · subst ec; cases r3
      refine wpAny_truthy_bool ?_
      cases c2 with
      | true =>
        obtain ⟨B3, G3, r3, o3, S3, R3, p3⟩ := q3
        exact iteT (hk.tst pos pins s3 Z σ B3 G3 H3 r3 o3 y w Q I3 S3 R3 r2 p3)
      | false => exact iteF ⟨H3, I3, q3⟩
theorem de_ch (ha : DE X W a fa) (hk : DCh X W (op :: op' :: ops) (b :: c :: es) k) (hm : lastMarks (op :: op' :: ops) (b :: c :: es) = false := by with_unfolding_all rfl) :
    DE X W (.Compare a (op :: op' :: ops) (b :: c :: es) pos) (eCh fa k) := by
  refine DE.of fun pins s Z σ G H r Q I S p => ?_
  refine Compare_chain ?_ hm
  refine thn (ha.run (Q := fun y H2 => LinkV X W Z σ k Q y H2) I S ?_) fun v s1 ⟨y, H1, I1, r1, B, G1, r1', o1, S1, R1, p1⟩ => hk.val pos pins s1 Z σ B G1 H1 r1' o1 y v Q I1 S1 R1 r1 p1
  unfold eCh at p
  cases e1 : fa r with
  | ok o r1 =>
    simp only [e1] at p
    exact fun y G1 H1 S1 X1 R1 => ⟨_, G1, r1, o, S1, R1, EPost.pre X1 p⟩
  | err c r1 => simp only [e1] at p; exact p
  | bad => simp only [e1] at p; exact p.elim
theorem dt_ch (ha : DE X W a fa) (hk : DCh X W (op :: op' :: ops) (b :: c :: es) k) (hm : lastMarks (op :: op' :: ops) (b :: c :: es) = false := by with_unfolding_all rfl) :
    DT X W (.Compare a (op :: op' :: ops) (b :: c :: es) pos) (tBl (eCh fa k)) := by
  refine DT.of fun pins s Z σ G H r Q I S p => ?_
  refine isTrue_chain ?_ hm
  refine thn (ha.run (Q := fun y H2 => LinkT X W Z σ k Q y H2) I S ?_) fun v s1 ⟨y, H1, I1, r1, B, G1, r1', o1, S1, R1, p1⟩ => hk.tst pos pins s1 Z σ B G1 H1 r1' o1 y v Q I1 S1 R1 r1 p1
  unfold tBl eCh at p
  cases e1 : fa r with
  | ok o r1 =>
    simp only [e1] at p
    exact fun y G1 H1 S1 X1 R1 => ⟨_, G1, r1, o, S1, R1, TPost.pre X1 p⟩
  | err c r1 => simp only [e1] at p; exact p
  | bad => simp only [e1] at p; exact p.elim
end
/-! ### built-ins -/
section
variable {X : Cx}
theorem rh1 {K : FG} {G H : Hp} {d : D} {vs : List V} (h : RHs K G H [d] vs) : ∃ v, vs = [v] ∧ RH K G H d v := by
  cases h with | cons a b => cases b; exact ⟨_, rfl, a⟩
theorem rh2 {K : FG} {G H : Hp} {d e : D} {vs : List V} (h : RHs K G H [d, e] vs) : ∃ v w, vs = [v, w] ∧ RH K G H d v ∧ RH K G H e w := by
  cases h with | cons a b => cases b with | cons b c => cases c; exact ⟨_, _, rfl, a, b⟩
theorem call_lenR : CallR X (.builtin "len") (fun xs H Q => ∃ a kvs, xs = [V.ref a] ∧ Rd H a (.dK kvs) ∧ Q (.int kvs.length) H) := by
  intro pins s σ H xs us Q I r ⟨a, kvs, hx, ha, q⟩
  subst hx
  obtain ⟨u, rfl, ru⟩ := vals1 r
  cases ru
  exact d_len I ha fun t s' I' => ⟨.int kvs.length, H, I', ⟨t, rfl⟩, q⟩
theorem cd_len : CallD X (.builtin "len") gLen := by
  refine ⟨_, (call_len (X := X)).or call_lenR, ?_⟩
  intro Z σ G H r xs ds o Q S hs e h
  unfold gLen at e
  split at e
  · rename_i x
    obtain ⟨v, rfl, k⟩ := rh1 hs
    split at e <;> cases e
    rename_i hz
    cases k
    exact .inl ⟨_, x.length, rfl, ⟨hz, rfl⟩, h.int S⟩
  · rename_i kvs
    obtain ⟨v, rfl, k⟩ := rh1 hs
    cases e
    obtain ⟨a, ws, rfl, h1, h2, h3⟩ := k
    refine .inr ⟨a, ws, rfl, h1, ?_⟩
    have hl : ws.length = kvs.length := by simpa using congrArg List.length h2
    rw [hl]
    exact h.int S
  · rename_i d _ _
    obtain ⟨v, rfl, k⟩ := rh1 hs
    cases q : asS d with
    | none => simp [q] at e
    | some ys =>
      simp only [q] at e; cases e
      obtain ⟨a, vs, rfl, h1, h2⟩ := asS_RH S k q
      refine .inl ⟨_, ys.length, rfl, ?_, h.int S⟩
      rcases h1 with h1 | h1
      · exact .inl ⟨vs, h1, h2.length⟩
      · exact .inr ⟨vs, h1, h2.length⟩
  · cases e
theorem cd_abs : CallD X (.builtin "abs") gAbs := by
  refine ⟨_, call_abs, ?_⟩
  intro Z σ G H r xs ds o Q S hs e h
  unfold gAbs at e
  split at e
  · obtain ⟨v, rfl, k⟩ := rh1 hs
    cases e; cases k
    exact ⟨_, rfl, h.int S⟩
  · cases e
theorem cd_int : CallD X (.type "int") gInt := by
  refine ⟨_, call_int1, ?_⟩
  intro Z σ G H r xs ds o Q S hs e h
  unfold gInt at e
  split at e
  · obtain ⟨v, rfl, k⟩ := rh1 hs
    cases e; cases k
    exact .inl ⟨_, rfl, h.int S⟩
  · obtain ⟨v, rfl, k⟩ := rh1 hs
    cases e; cases k
    exact .inr ⟨_, rfl, h.int S⟩
  · cases e
theorem cd_list : CallD X (.type "list") gList := by
  refine ⟨_, call_list_of, ?_⟩
  intro Z σ G H r xs ds o Q S hs e h
  unfold gList at e
  split at e
  · rename_i d
    obtain ⟨v, rfl, k⟩ := rh1 hs
    cases q : asS d with
    | none => simp [q] at e
    | some ys =>
      simp only [q] at e; cases e
      obtain ⟨a, vs, rfl, h1, h2⟩ := asS_RH S k q
      exact ⟨a, vs, rfl, h1, fun l hl => h.lst S h2 hl⟩
  · cases e
theorem cd_tuple : CallD X (.type "tuple") gTuple := by
  refine ⟨_, call_tuple_of, ?_⟩
  intro Z σ G H r xs ds o Q S hs e h
  unfold gTuple at e
  split at e
  · obtain ⟨v, rfl, k⟩ := rh1 hs
    cases e; cases k with | tup h1 h2 => exact ⟨_, _, rfl, .inr ⟨.inl (.inl (S.sg _ _ h1)), h.val S (.tup h1 h2)⟩⟩
  · obtain ⟨v, rfl, k⟩ := rh1 hs
    cases e; cases k with | ktp h1 h2 => exact ⟨_, _, rfl, .inr ⟨Same.seqT S.sg h1, h.val S (.ktp h1 h2)⟩⟩
  · obtain ⟨v, rfl, k⟩ := rh1 hs
    cases e; obtain ⟨a, vs, rfl, h1, h2⟩ := k
    exact ⟨_, _, rfl, .inl ⟨.of h1, fun l hl => h.tup S h2 hl⟩⟩
  · obtain ⟨v, rfl, k⟩ := rh1 hs
    cases e; cases k with | kls h1 h2 => exact ⟨_, _, rfl, .inl ⟨S.sg.seq h1, fun l hl => h.tup S h2 hl⟩⟩
  · cases e
theorem cd_sum (hc : X.calm = true) : CallD X (.builtin "sum") gSum := by
  refine ⟨_, cr_sum hc, ?_⟩
  intro Z σ G H r xs ds o Q S hs e h
  unfold gSum at e
  split at e
  · rename_i ys
    obtain ⟨v, rfl, k⟩ := rh1 hs
    cases q : intsD ys with
    | none => simp [q] at e
    | some ns =>
      simp only [q] at e; cases e
      obtain ⟨a, vs, rfl, h1, h2⟩ := k
      have := intsD_eq q; subst this
      have := intsV h2; subst this
      exact ⟨a, ns, rfl, .of h1, h.int S⟩
  · cases e
theorem foldMax_spec : ∀ (r : List Int) (x : Int), (r.foldl (fun a b => if a < b then b else a) x) ∈ x :: r ∧ ∀ y ∈ x :: r, y ≤ r.foldl (fun a b => if a < b then b else a) x
  | [], x => by simp
  | b :: r, x => by
    simp only [List.foldl_cons]
    obtain ⟨h1, h2⟩ := foldMax_spec r (if x < b then b else x)
    refine ⟨?_, fun y hy => ?_⟩
    · rcases List.mem_cons.mp h1 with h | h
      · rw [h]; split <;> simp
      · simp [h]
    · have h0 := h2 _ List.mem_cons_self
      have hx : x ≤ (if x < b then b else x) := by split <;> omega
      have hb : b ≤ (if x < b then b else x) := by split <;> omega
      rcases List.mem_cons.mp hy with h | h
      · rw [h]; exact Int.le_trans hx h0
      · rcases List.mem_cons.mp h with h | h
        · rw [h]; exact Int.le_trans hb h0
        · exact h2 y (List.mem_cons_of_mem _ h)
theorem foldMin_spec : ∀ (r : List Int) (x : Int), (r.foldl (fun a b => if b < a then b else a) x) ∈ x :: r ∧ ∀ y ∈ x :: r, r.foldl (fun a b => if b < a then b else a) x ≤ y
  | [], x => by simp
  | b :: r, x => by
    simp only [List.foldl_cons]
    obtain ⟨h1, h2⟩ := foldMin_spec r (if b < x then b else x)
    refine ⟨?_, fun y hy => ?_⟩
    · rcases List.mem_cons.mp h1 with h | h
      · rw [h]; split <;> simp
      · simp [h]
    · have h0 := h2 _ List.mem_cons_self
      have hx : (if b < x then b else x) ≤ x := by split <;> omega
      have hb : (if b < x then b else x) ≤ b := by split <;> omega
      rcases List.mem_cons.mp hy with h | h
      · rw [h]; exact Int.le_trans h0 hx
      · rcases List.mem_cons.mp h with h | h
        · rw [h]; exact Int.le_trans h0 hb
        · exact h2 y (List.mem_cons_of_mem _ h)
theorem maxI_spec {ns : List Int} {m : Int} (h : maxI ns = some m) : m ∈ ns ∧ ∀ y ∈ ns, y ≤ m := by
  cases ns with
  | nil => cases h
  | cons x r => cases h; exact foldMax_spec r x
theorem minI_spec {ns : List Int} {m : Int} (h : minI ns = some m) : m ∈ ns ∧ ∀ y ∈ ns, m ≤ y := by
  cases ns with
  | nil => cases h
  | cons x r => cases h; exact foldMin_spec r x
theorem ne_len {ns : List Int} {m : Int} (h : m ∈ ns) : 0 < ns.length := List.length_pos_of_mem h
theorem cd_max (hc : X.calm = true) : CallD X (.builtin "max") gMax := by
  refine ⟨_, (call_max2 hc).or (cr_max hc), ?_⟩
  intro Z σ G H r xs ds o Q S hs e h
  unfold gMax at e
  split at e
  · unfold gMax2 at e
    split at e
    · rename_i hd; simp only [List.cons.injEq] at hd; obtain ⟨rfl, rfl, _⟩ := hd
      obtain ⟨v, w, rfl, k1, k2⟩ := rh2 hs
      cases e; cases k1; cases k2
      exact .inl ⟨_, _, rfl, h.int S⟩
    · cases e
  · unfold gMaxL at e
    split at e
    · rename_i ys _
      obtain ⟨v, rfl, k⟩ := rh1 hs
      cases q : intsD ys with
      | none => simp [q] at e
      | some ns =>
        cases q2 : maxI ns with
        | none => simp [q, q2] at e
        | some m =>
          simp only [q, q2] at e; cases e
          obtain ⟨a, vs, rfl, h1, h2⟩ := k
          have := intsD_eq q; subst this
          have := intsV h2; subst this
          obtain ⟨m1, m2⟩ := maxI_spec q2
          refine .inr ⟨a, ns, rfl, .of h1, ne_len m1, fun m' p1 p2 => ?_⟩
          have : m' = m := Int.le_antisymm (m2 _ p1) (p2 _ m1)
          subst this
          exact h.int S
    · cases e
theorem cd_min (hc : X.calm = true) : CallD X (.builtin "min") gMin := by
  refine ⟨_, (call_min2 hc).or (cr_min hc), ?_⟩
  intro Z σ G H r xs ds o Q S hs e h
  unfold gMin at e
  split at e
  · unfold gMin2 at e
    split at e
    · rename_i hd; simp only [List.cons.injEq] at hd; obtain ⟨rfl, rfl, _⟩ := hd
      obtain ⟨v, w, rfl, k1, k2⟩ := rh2 hs
      cases e; cases k1; cases k2
      exact .inl ⟨_, _, rfl, h.int S⟩
    · cases e
  · unfold gMinL at e
    split at e
    · rename_i ys _
      obtain ⟨v, rfl, k⟩ := rh1 hs
      cases q : intsD ys with
      | none => simp [q] at e
      | some ns =>
        cases q2 : minI ns with
        | none => simp [q, q2] at e
        | some m =>
          simp only [q, q2] at e; cases e
          obtain ⟨a, vs, rfl, h1, h2⟩ := k
          have := intsD_eq q; subst this
          have := intsV h2; subst this
          obtain ⟨m1, m2⟩ := minI_spec q2
          refine .inr ⟨a, ns, rfl, .of h1, ne_len m1, fun m' p1 p2 => ?_⟩
          have : m' = m := Int.le_antisymm (p2 _ m1) (m2 _ p1)
          subst this
          exact h.int S
    · cases e
theorem blsD_eq : ∀ {ds : List D} {bs : List Bool}, blsD ds = some bs → ds = bs.map D.bl
  | [], _, h => by cases h; rfl
  | d :: r, bs, h => by
    unfold blsD at h
    cases d with
    | bl i =>
      cases q : blsD r with
      | none => simp [q] at h
      | some ms => simp only [q] at h; cases h; rw [List.map_cons, ← blsD_eq q]
    | _ => simp at h
theorem blsV {K : FG} {G : Hp} : ∀ {ns : List Bool} {vs : List V}, RDs K G (ns.map D.bl) vs → vs = ns.map V.bl
  | [], _, .nil => rfl
  | _ :: _, _, .cons a b => by cases a; rw [blsV b]; rfl
theorem cd_all (hc : X.calm = true) : CallD X (.builtin "all") gAll := by
  refine ⟨_, cr_all hc, ?_⟩
  intro Z σ G H r xs ds o Q S hs e h
  unfold gAll at e
  split at e
  · rename_i ys
    obtain ⟨v, rfl, k⟩ := rh1 hs
    cases q : blsD ys with
    | none => simp [q] at e
    | some ns =>
      simp only [q] at e; cases e
      obtain ⟨a, vs, rfl, h1, h2⟩ := k
      have := blsD_eq q; subst this
      have := blsV h2; subst this
      exact ⟨a, ns, rfl, .of h1, h.bl S⟩
  · cases e
theorem cd_any (hc : X.calm = true) : CallD X (.builtin "any") gAny := by
  refine ⟨_, cr_any hc, ?_⟩
  intro Z σ G H r xs ds o Q S hs e h
  unfold gAny at e
  split at e
  · rename_i ys
    obtain ⟨v, rfl, k⟩ := rh1 hs
    cases q : blsD ys with
    | none => simp [q] at e
    | some ns =>
      simp only [q] at e; cases e
      obtain ⟨a, vs, rfl, h1, h2⟩ := k
      have := blsD_eq q; subst this
      have := blsV h2; subst this
      exact ⟨a, ns, rfl, .of h1, h.bl S⟩
  · cases e
theorem insI_perm (x : Int) : ∀ r : List Int, (insI x r).Perm (x :: r)
  | [] => .refl _
  | y :: r => by
    unfold insI
    split
    · exact .refl _
    · exact ((insI_perm x r).cons y).trans (.swap x y r)
theorem sortI_perm : ∀ r : List Int, (sortI r).Perm r
  | [] => .refl _
  | x :: r => (insI_perm x _).trans ((sortI_perm r).cons x)
theorem insI_sorted (x : Int) : ∀ r : List Int, r.Pairwise (· ≤ ·) → (insI x r).Pairwise (· ≤ ·)
  | [], _ => by simp [insI]
  | y :: r, h => by
    unfold insI
    rw [List.pairwise_cons] at h
    split
    · rename_i k
      refine List.pairwise_cons.mpr ⟨fun z hz => ?_, List.pairwise_cons.mpr h⟩
      rcases List.mem_cons.mp hz with e | e
      · subst e; exact k
      · exact Int.le_trans k (h.1 z e)
    · rename_i k
      refine List.pairwise_cons.mpr ⟨fun z hz => ?_, insI_sorted x r h.2⟩
      rcases List.mem_cons.mp ((insI_perm x r).mem_iff.mp hz) with e | e
      · subst e; omega
      · exact h.1 z e
theorem sortI_sorted : ∀ r : List Int, (sortI r).Pairwise (· ≤ ·)
  | [] => .nil
  | x :: r => insI_sorted x _ (sortI_sorted r)
theorem sorted_unique : ∀ {a b : List Int}, a.Perm b → a.Pairwise (· ≤ ·) → b.Pairwise (· ≤ ·) → a = b := fun p h k =>
  p.eq_of_pairwise (fun _ _ _ _ h1 h2 => Int.le_antisymm h1 h2) h k
theorem RDs.ints {K : FG} {G : Hp} : ∀ (ns : List Int), RDs K G (ns.map D.int) (ns.map V.int)
  | [] => .nil
  | n :: ns => .cons (.int n) (RDs.ints ns)
theorem cd_sorted : CallD X (.builtin "sorted") gSorted := by
  refine ⟨_, cr_sortedI, ?_⟩
  intro Z σ G H r xs ds o Q S hs e h
  unfold gSorted at e
  split at e
  · rename_i ys
    obtain ⟨v, rfl, k⟩ := rh1 hs
    cases q : intsD ys with
    | none => simp [q] at e
    | some ns =>
      simp only [q] at e; cases e
      obtain ⟨a, vs, rfl, h1, h2⟩ := k
      have := intsD_eq q; subst this
      have := intsV h2; subst this
      refine ⟨a, ns, rfl, .of h1, fun ns' p p1 p2 hp => ?_⟩
      have : ns' = sortI ns := sorted_unique (p1.trans (sortI_perm ns).symm) p2 (sortI_sorted ns)
      subst this
      exact h.lst S (.ints _) hp
  · cases e
end
end DL
end

section
set_option Elab.async false
set_option linter.all false
set_option maxRecDepth 100000
set_option autoImplicit false
/-! DL7: subscripts, slices, isinstance, calls of defs over data. -/
namespace DL
open PySem PySem.Spec PyProof.Rows L2
section
variable {X : Cx} {W : WX} {a b c e : Expr} {es : List Expr} {fa fb fc : E} {pos : Pos}
theorem PE.or {t t' : L2.TE} (h : PE X e t) (k : PE X e t') : PE X e (fun σ H Q => t σ H Q ∨ t' σ H Q) :=
  ⟨fun pins s σ H Q I q => q.elim (h.run pins s σ H Q I) (k.run pins s σ H Q I)⟩
/-- a binary form whose operands' data are known -/
theorem two_known {g : D → D → Option Op} {ta tb : L2.TE} {R : V → V → Hp → Prop} {Z : Fr0} {σ : L2.St} {G H : Hp} {r : Ev} {Q : VK}
    (ha : ∀ (Z : Fr0) (σ : L2.St) (G H : Hp) (r : Ev) (Q : VK), RS X.K Z G H r σ → EPost X W Z σ G H r Q (fa r) → ta σ H Q)
    (hb : ∀ (Z : Fr0) (σ : L2.St) (G H : Hp) (r : Ev) (Q : VK), RS X.K Z G H r σ → EPost X W Z σ G H r Q (fb r) → tb σ H Q)
    (S : RS X.K Z G H r σ) (p : EPost X W Z σ G H r Q (eBin g fa fb r)) {o o2 z : Op} {r1 r2 : Ev} {dx dy : D} (e1 : fa r = .ok o r1) (e2 : fb r1 = .ok o2 r2) (e3 : rsv r2 o = some dx) (e4 : rsv r2 o2 = some dy) (e5 : g dx dy = some z)
    (h : ∀ x y G' H', RS X.K Z G' H' r2 σ → RH X.K G' H' dx x → RH X.K G' H' dy y → ResOk X.K Z σ G' H' r2 Q z → R x y H') : ta σ H fun x H1 => tb σ H1 fun y H2 => R x y H2 := by
  refine two ha hb S ?_
  unfold eBin at p
  simp only [e1, e2, e3, e4, e5] at p ⊢
  intro x y G' H' S' X' Ra Rb
  exact h x y G' H' S' (Ra.rsv S' e3) (Rb.rsv S' e4) fun v G2 H2 S2 X2 R2 => p v G2 H2 S2 (X'.trans X2) (R2.base X'.n)
theorem eBin_err {g : D → D → Option Op} {ta tb : L2.TE} {R : V → V → Hp → Prop} {Z : Fr0} {σ : L2.St} {G H : Hp} {r : Ev} {Q : VK}
    (ha : ∀ (Z : Fr0) (σ : L2.St) (G H : Hp) (r : Ev) (Q : VK), RS X.K Z G H r σ → EPost X W Z σ G H r Q (fa r) → ta σ H Q)
    (hb : ∀ (Z : Fr0) (σ : L2.St) (G H : Hp) (r : Ev) (Q : VK), RS X.K Z G H r σ → EPost X W Z σ G H r Q (fb r) → tb σ H Q)
    (S : RS X.K Z G H r σ) (p : EPost X W Z σ G H r Q (eBin g fa fb r)) (n : ∀ o r1 o2 r2, fa r = .ok o r1 → fb r1 = .ok o2 r2 → False) : ta σ H fun x H1 => tb σ H1 fun y H2 => R x y H2 := by
  refine two ha hb S ?_
  unfold eBin at p
  cases e1 : fa r with
  | ok o r1 =>
    simp only [e1] at p ⊢
    cases e2 : fb r1 with
    | ok o2 r2 => exact (n o r1 o2 r2 e1 e2).elim
    | err c r2 => simp only [e2] at p ⊢; exact p
    | bad => simp only [e2] at p; exact p.elim
  | err c r1 => simp only [e1] at p ⊢; exact p
  | bad => simp only [e1] at p; exact p.elim
theorem ixI_eq (n : Nat) (i : Int) : ixI n i = ixN n i := rfl
theorem de_ix (hu : X.A.units + 1 < cLine) (ha : DE X W a fa) (hb : DE X W b fb) (hs : PlainIx b := by exact fun _ _ => rfl) : DE X W (.Subscript a b pos) (eBin gIx fa fb) := by
  obtain ⟨ta, pa, qa⟩ := ha.ex
  obtain ⟨tb, pb, qb⟩ := hb.ex
  refine ⟨_, PE.or (pe_dget hu pa pb hs) (pe_ix ix_seq pa pb hs), fun Z σ G H r Q S p => ?_⟩
  by_cases k : ∃ o r1 o2 r2, fa r = .ok o r1 ∧ fb r1 = .ok o2 r2
  · obtain ⟨o, r1, o2, r2, e1, e2⟩ := k
    have p' := p
    unfold eBin at p'
    simp only [e1, e2] at p'
    cases e3 : rsv r2 o with
    | none => simp only [e3] at p'; exact p'.elim
    | some dx =>
      cases e4 : rsv r2 o2 with
      | none => simp only [e3, e4] at p'; exact p'.elim
      | some dy =>
        cases e5 : gIx dx dy with
        | none => simp only [e3, e4, e5] at p'; exact p'.elim
        | some z =>
          clear p'
          have e50 := e5
          cases q : asS dx with
          | some ds =>
            refine .inr (two_known qa qb S p e1 e2 e3 e4 e5 fun x y G' H' S' hx hy h => ?_)
            obtain ⟨a, vs, rfl, h1, h2⟩ := asS_RH S' hx q
            unfold gIx at e5
            split at e5
            · cases q
            · rename_i n
              simp only [q] at e5
              cases dy <;> first | (cases e5; done) | skip
              rename_i i
              cases hy
              dsimp only at e5
              cases q2 : ixI ds.length i with
              | none => simp [q2] at e5
              | some j =>
                cases q3 : ds[j]? with
                | none => simp [q2, q3] at e5
                | some d =>
                  simp only [q2, q3] at e5; cases e5
                  obtain ⟨v, e6, rd⟩ := h2.get q3
                  have at_ : atI vs i = some v := by
                    unfold atI
                    rw [← h2.length, ← ixI_eq, q2]; exact e6
                  rcases h1 with h1 | h1
                  · exact .inl ⟨a, vs, i, v, rfl, rfl, h1, at_, h.val S' rd⟩
                  · exact .inr (.inl ⟨a, vs, i, v, rfl, rfl, h1, at_, h.val S' rd⟩)
          | none =>
            unfold gIx at e5
            split at e5
            · refine .inr (two_known qa qb S p e1 e2 e3 e4 e50 fun x y G' H' S' hx hy h => ?_)
              rename_i xs i
              cases hx; cases hy
              split at e5 <;> first | (cases e5; done) | skip
              rename_i hz
              cases q2 : ixI xs.cps.toList.length i with
              | none => simp only [q2] at e5; cases e5
              | some j =>
                simp only [q2] at e5
                cases q3 : xs.cps.toList[j]? with
                | none => simp only [q3] at e5; cases e5
                | some c =>
                  simp only [q3] at e5; cases e5
                  refine .inr (.inr ⟨xs, i, c, rfl, rfl, hz, ?_, h.str S'⟩)
                  unfold atI
                  rw [← ixI_eq, q2]; exact q3
            · simp only [q] at e5
              refine .inl (two_known qa qb S p e1 e2 e3 e4 e50 fun x y G' H' S' hx hy h => ?_)
              · cases q2 : dget dx dy with
                | none => simp [q2] at e5
                | some od =>
                  cases od with
                  | none => simp [q2] at e5
                  | some d =>
                    simp only [q2] at e5; cases e5
                    obtain ⟨a, o', rfl, g, k⟩ := dgetR S' hx hy q2
                    rcases k with ⟨k1, _⟩ | ⟨dv, v, k1, k2, rd⟩
                    · cases k1
                    · cases k1; subst k2
                      exact ⟨a, v, rfl, g, h.val S' rd⟩
  · exact .inl (eBin_err qa qb S p fun o r1 o2 r2 e1 e2 => k ⟨o, r1, o2, r2, e1, e2⟩)
/-! ### slices -/
def PPost (X : Cx) (W : WX) (Z : Fr0) (σ : L2.St) (G H : Hp) (r : Ev) (Q : Option Int → Hp → Prop) : POut → Prop
  | .ok i r' => ∀ G' H', RS X.K Z G' H' r' σ → EX σ G H r G' H' r' → Q i H'
  | .err c r' => ∀ C G' H', RS X.K Z G' H' r' σ → EX σ G H r G' H' r' → X.mg c = some (.ref C) → W (.ref C) none σ H'
  | .bad => False
structure DP (X : Cx) (W : WX) (e : Option Expr) (f : P) : Prop where
  ex : ∃ t : L2.TO, PO X e t ∧ ∀ (Z : Fr0) (σ : L2.St) (G H : Hp) (r : Ev) (Q : Option Int → Hp → Prop), RS X.K Z G H r σ → PPost X W Z σ G H r Q (f r) → t σ H Q
theorem dp_no : DP X W none pNo := ⟨_, po_none, fun Z σ G H r Q S p => p G H S .refl⟩
theorem dp_some (h : DE X W e fa) : DP X W (some e) (pSome fa) := by
  obtain ⟨t, p, q⟩ := h.ex
  refine ⟨_, po_some p, fun Z σ G H r Q S hp => q Z σ G H r _ S ?_⟩
  unfold pSome at hp
  cases e1 : fa r with
  | ok o r1 =>
    simp only [e1] at hp
    cases o with
    | fz d =>
      cases d with
      | int i => intro v G1 H1 S1 X1 R1; cases R1; exact ⟨i, rfl, hp G1 H1 S1 X1⟩
      | _ => exact hp.elim
    | _ => exact hp.elim
  | err c r1 => simp only [e1] at hp; exact hp
  | bad => simp only [e1] at hp; exact hp.elim
theorem PPost.pre {Z : Fr0} {σ : L2.St} {G H G1 H1 : Hp} {r r1 : Ev} (x : EX σ G H r G1 H1 r1) {Q : Option Int → Hp → Prop} : ∀ {o : POut}, PPost X W Z σ G H r Q o → PPost X W Z σ G1 H1 r1 Q o
  | .ok _ _, h => fun G' H' S e => h G' H' S (x.trans e)
  | .err _ _, h => fun C G' H' S e m => h C G' H' S (x.trans e) m
  | .bad, h => h
theorem sI_eq (n d : Nat) : ∀ o : Option Int, sI n d o = HT.sIx n d o
  | none => rfl
  | some v => by
    have h := HT.clip_eq v n d
    show (if v < 0 then max (v + (n : Int)) 0 else min v (n : Int)).toNat = _
    rw [h]; simp
theorem cutD_V (vs : List V) (lo hi : Option Int) : cutD vs lo hi = cutV vs lo hi := by
  unfold cutD cutV
  rw [sI_eq, sI_eq]
theorem RDs.cut {K : FG} {G : Hp} {ds : List D} {vs : List V} (h : RDs K G ds vs) (lo hi : Option Int) : RDs K G (cutD ds lo hi) (cutV vs lo hi) := by
  rw [← cutD_V]
  unfold cutD
  rw [h.length]
  exact (h.drop _).take _
theorem de_slice {lo hi : Option Expr} {fl fh : P} {p2 : Pos} (ha : DE X W a fa) (hl : DP X W lo fl) (hh : DP X W hi fh) : DE X W (.Subscript a (.Slice lo hi none p2) pos) (eSlice fa fl fh) := by
  obtain ⟨ta, pa, qa⟩ := ha.ex
  obtain ⟨tl, pl, ql⟩ := hl.ex
  obtain ⟨th, ph, qh⟩ := hh.ex
  refine ⟨_, pe_slice ((sl_list (X := X)).or ((sl_tupA (X := X)).or sl_str)) pa pl ph, fun Z σ G H r Q S p => qa Z σ G H r _ S ?_⟩
  unfold eSlice at p
  cases e1 : fa r with
  | ok o r1 =>
    simp only [e1] at p
    intro x G1 H1 S1 X1 R1
    refine ql Z σ G1 H1 r1 _ S1 ?_
    cases e2 : fl r1 with
    | ok l r2 =>
      simp only [e2] at p
      intro G2 H2 S2 X2
      refine qh Z σ G2 H2 r2 _ S2 ?_
      cases e3 : fh r2 with
      | ok u r3 =>
        simp only [e3] at p
        intro G3 H3 S3 X3
        have R3 := (R1.keep X2).keep X3
        have X13 := (X1.trans X2).trans X3
        cases e4 : rsv r3 o with
        | none => simp only [e4] at p; exact p.elim
        | some d =>
          have rh := R3.rsv S3 e4
          cases e5 : gSlice d l u with
          | none => simp only [e4, e5] at p; exact p.elim
          | some z =>
            simp only [e4, e5] at p
            have res : ResOk X.K Z σ G3 H3 r3 Q z := fun v G4 H4 S4 X4 R4 => p v G4 H4 S4 (X13.trans X4) (R4.base X13.n)
            unfold gSlice at e5
            cases d <;> first | (cases e5; done) | skip
            · cases rh
              dsimp only at e5
              split at e5 <;> cases e5
              rename_i y hz
              refine .inr (.inr ⟨y, rfl, hz, ?_⟩)
              have ec : cutS y l u = ⟨(cutD y.cps.toList l u).toArray⟩ := by
                unfold cutS cutD
                rw [sI_eq, sI_eq, show y.length = y.cps.toList.length from (Array.length_toList).symm]
              rw [ec]
              exact res.str S3
            · rename_i xs
              cases e5
              cases rh with | tup h1 h2 =>
              refine .inr (.inl ⟨_, _, rfl, .inl (.inl (S3.sg _ _ h1)), fun w => ?_, fun _ p hp => res.tup S3 (h2.cut l u) hp⟩)
              have ed : cutD xs l u = xs := by
                unfold cutD
                rw [sI_eq, sI_eq, h2.length, w.1, w.2]
                simp [← h2.length]
              rw [ed] at res
              exact res.val S3 (.tup h1 h2)
            · cases e5
              obtain ⟨a, vs, rfl, h1, h2⟩ := rh
              exact .inl ⟨a, vs, rfl, .of h1, fun p hp => res.lst S3 (h2.cut l u) hp⟩
            · cases e5
              cases rh with | kls h1 h2 =>
              exact .inl ⟨_, _, rfl, S3.sg.seq h1, fun p hp => res.lst S3 (h2.cut l u) hp⟩
      | err c r3 =>
        simp only [e3] at p
        exact fun C G' H' S' x m => p C G' H' S' ((X1.trans X2).trans x) m
      | bad => simp only [e3] at p; exact p.elim
    | err c r2 =>
      simp only [e2] at p
      exact fun C G' H' S' x m => p C G' H' S' (X1.trans x) m
    | bad => simp only [e2] at p; exact p.elim
  | err c r1 => simp only [e1] at p; exact p
  | bad => simp only [e1] at p; exact p.elim
/-! ### isinstance -/
def tyS : D → String
  | .non => "NoneType"
  | .bl _ => "bool"
  | .int _ => "int"
  | .str _ => "str"
  | .tup _ => "tuple"
  | .ktp _ => "tuple"
  | .lst _ => "list"
  | .kls _ => "list"
  | .dct _ => "dict"
  | .dtt _ => "dict"
def tnS : TyN → String
  | .bool => "bool"
  | .int => "int"
  | .str => "str"
  | .list => "list"
  | .tuple => "tuple"
  | .dict => "dict"
theorem kitD (t : TyN) (d : D) : kitB (tyS d) (tnS t) = some (isD t d) := by
  cases t <;> cases d <;> (simp only [tyS, tnS, isD]; decide +kernel)
theorem tyX {Z : Fr0} {σ : L2.St} {G H : Hp} {r : Ev} (S : RS X.K Z G H r σ) {d : D} {v : V} (h : RH X.K G H d v) : TyX X.K H v (.type (tyS d)) := by
  cases d with
  | non => cases h; exact .base .non
  | bl b => cases h; exact .base (.bl b)
  | int i => cases h; exact .base (.int i)
  | str x => cases h; exact .base (.str x)
  | tup ds => cases h with | tup h1 h2 => exact .base (.tup (S.sg _ _ h1))
  | lst ds => obtain ⟨a, vs, rfl, h1, h2⟩ := h; exact .base (.lst h1)
  | dct ds =>
    obtain ⟨a, vs, rfl, h1, h2⟩ := h
    rcases h1 with h1 | ⟨o, h1⟩
    · exact .base (.dK h1)
    · exact .fDict h1
  | dtt ds => obtain ⟨a, vs, rfl, h1, h2⟩ := h; exact .base (.dT h1)
  | ktp ds =>
    cases h with | ktp h1 h2 =>
    rcases Same.seqT S.sg h1 with (k | ⟨o, k⟩) | ⟨o, its, n, k, kc, _⟩
    · exact .base (.tup k)
    · exact .fTuple k
    · exact .kTuple k kc
  | kls ds =>
    cases h with | kls h1 h2 =>
    rcases S.sg.seq h1 with (k | ⟨o, k⟩) | ⟨o, its, n, k, kc, _⟩
    · exact .base (.lst k)
    · exact .base (.frz k)
    · exact .kList k kc
theorem de_isi {t : TyN} {x ty : Str} {p p2 : Pos} (hg : Gl X x) (hm : X.mg x = none) (hv : bootBuiltins x = some (.builtin "isinstance")) (hg2 : Gl X ty) (hm2 : X.mg ty = none) (hv2 : bootBuiltins ty = some (.type (tnS t))) (ha : DE X W a fa)
    (hn : x ≠ "__name__" := by decide) (hdb : (x == ("__debug__" : Str)) = false := by decide) (hn2 : ty ≠ "__name__" := by decide) (hdb2 : (ty == ("__debug__" : Str)) = false := by decide)
    (he : starEach [a, .Name ty p2] X.env = (false, eval a X.env) :: starEach [.Name ty p2] X.env := by rfl) (he2 : starEach [.Name ty p2] X.env = (false, eval (.Name ty p2) X.env) :: starEach [] X.env := by rfl)
    (hpl : (backTo pos (starEach [.Name ty p2] X.env)).any (·.1) = false := by rfl) : DE X W (.Call (.Name x p) [a, .Name ty p2] [] pos) (eIsi t fa) := by
  obtain ⟨ta, pa, qa⟩ := ha.ex
  have pt : PE X (.Name ty p2) (tC (.ty (tnS t))) := pe_bltn hg2 hm2 hv2 rfl hn2 hdb2
  refine ⟨_, pe_callB call_isi hg hm hv (pa_cons pa (pa_cons pt pa_nil he2) he) hn hdb he hpl, fun Z σ G H r Q S hp => ?_⟩
  refine one_op (X := X) (W := W) (fa := fa) (g := fun d => some (.fz (.bl (isD t d)))) (rr := fun x H1 Q => rIsi X.K [x, .ty (tnS t)] H1 Q) qa (fun Z σ G H r x dx o Q S hx e h => ?_) S hp
  cases e
  exact ⟨x, .ty (tnS t), _, _, isD t dx, rfl, .ty _, tyX S hx, kit_ty (kitD t dx), h.bl S⟩
end
end DL
end

section
set_option Elab.async false
set_option linter.all false
set_option maxRecDepth 100000
set_option autoImplicit false
/-! DL8: a def's promise over data; its call. -/
namespace DL
open PySem PySem.Spec PyProof.Rows L2
/-- the arguments as a def receives them -/
inductive ArgsR (K : FG) (G H : Hp) : List Bool → List D → List V → Prop
  | nil : ArgsR K G H [] [] []
  | va {m : List Bool} {d : D} {v : V} {ds : List D} {vs : List V} : RD K G d v → ArgsR K G H m ds vs → ArgsR K G H (false :: m) (d :: ds) (v :: vs)
  | io {m : List Bool} {d : D} {a : Addr} {ds : List D} {vs : List V} : G a = none → RM K G H a d → ArgsR K G H m ds vs → ArgsR K G H (true :: m) (d :: ds) (.ref a :: vs)
/-- where the changed parameters stand -/
def ioA : List Bool → List V → List Addr
  | true :: m, .ref a :: vs => a :: ioA m vs
  | _ :: m, _ :: vs => ioA m vs
  | _, _ => []
inductive IosR (K : FG) (G H : Hp) : List Addr → List D → Prop
  | nil : IosR K G H [] []
  | cons {a : Addr} {d : D} {as : List Addr} {ds : List D} : G a = none → RM K G H a d → IosR K G H as ds → IosR K G H (a :: as) (d :: ds)
/-- a call's effect -/
structure CE (ia : List Addr) (G H G' H' : Hp) : Prop where
  g : Same G G'
  sg : Same G' H'
  h : ∀ a u, H a = some u → a ∉ ia → H' a = some u
  n : ∀ a, H' a = none → H a = none
  f : ∀ a u, G' a = some u → G a = some u ∨ nw H a u ∨ a ∈ ia
def FRes (K : FG) (H G' H' : Hp) : Op → V → Prop
  | .fz d, v => RD K G' d v
  | .tm d, v => ∃ a, v = .ref a ∧ G' a = none ∧ H a = none ∧ RM K G' H' a d
  | .br _, _ => False
def FPost (mg : Str → Option Value) (K : FG) (ia : List Addr) (G H : Hp) (Q : VK) (E : XK) : FOut → Prop
  | .ok o ios => ∀ v G' H', CE ia G H G' H' → IosR K G' H' ia ios → FRes K H G' H' o v → Q v H'
  | .err c ios => ∀ C G' H', CE ia G H G' H' → IosR K G' H' ia ios → mg c = some (.ref C) → E (.ref C) none H'
  | .bad => False
def spD (mg : Str → Option Value) (K : FG) (m : List Bool) (F : FD) : Sp := fun vs H Q E => ∃ G ds, Same G H ∧ ArgsR K G H m ds vs ∧ (ioA m vs).Nodup ∧ FPost mg K (ioA m vs) G H Q E (F ds)
theorem ArgsR.length {K : FG} {G H : Hp} : ∀ {m : List Bool} {ds : List D} {vs : List V}, ArgsR K G H m ds vs → vs.length = m.length ∧ ds.length = m.length
  | _, _, _, .nil => ⟨rfl, rfl⟩
  | _, _, _, .va _ t => ⟨congrArg (· + 1) t.length.1, congrArg (· + 1) t.length.2⟩
  | _, _, _, .io _ _ t => ⟨congrArg (· + 1) t.length.1, congrArg (· + 1) t.length.2⟩
/-- the arguments as they stand in the caller -/
inductive AR (K : FG) (G : Hp) (σ : L2.St) (r : Ev) : List Bool → List Op → List D → List V → Prop
  | nil : AR K G σ r [] [] [] []
  | va {m : List Bool} {o : Op} {os : List Op} {d : D} {v : V} {ds : List D} {vs : List V} : RD K G d v → AR K G σ r m os ds vs → AR K G σ r (false :: m) (o :: os) (d :: ds) (v :: vs)
  | io {m : List Bool} {i : Nat} {b : Bool} {os : List Op} {d : D} {v : V} {ds : List D} {vs : List V} : σ[i]? = some (some v) → r[i]? = some (.ow b d) → AR K G σ r m os ds vs → AR K G σ r (true :: m) (.br i :: os) (d :: ds) (v :: vs)
theorem fzo_ow {r r' : Ev} {o : Op} {d : D} (e : fzo r o = some (d, r')) {j : Nat} (h : isOw r'[j]? = true) : r'[j]? = r[j]? := by
  cases o with
  | fz _ => cases e; rfl
  | tm _ => cases e; rfl
  | br i =>
    unfold fzo at e
    cases q : r[i]? with
    | none => simp [q] at e
    | some s =>
      cases s with
      | no => simp [q] at e
      | va d' => simp only [q] at e; cases e; rfl
      | ow b d' =>
        cases b with
        | true => simp [q] at e
        | false =>
          simp only [q] at e; cases e
          exact List.getElem?_set_ne fun z => (isOw_set h).2 z.symm
theorem argsOf_ow : ∀ {m : List Bool} {os : List Op} {ds : List D} {r r' : Ev}, argsOf m os r = some (ds, r') → ∀ {j : Nat}, isOw r'[j]? = true → r'[j]? = r[j]?
  | [], [], _, _, _, e, _, _ => by cases e; rfl
  | false :: m, o :: os, ds, r, r', e, j, h => by
    unfold argsOf at e
    cases q : fzo r o with
    | none => simp [q] at e
    | some p =>
      obtain ⟨d, r1⟩ := p
      cases q2 : argsOf m os r1 with
      | none => simp [q, q2] at e
      | some p2 =>
        obtain ⟨ds2, r2⟩ := p2
        simp only [q, q2] at e; cases e
        have h1 := argsOf_ow q2 h
        rw [h1] at h
        exact h1.trans (fzo_ow q h)
  | true :: m, .br i :: os, ds, r, r', e, j, h => by
    unfold argsOf at e
    split at e
    · cases q2 : argsOf m os r with
      | none => simp [q2] at e
      | some p2 =>
        obtain ⟨ds2, r2⟩ := p2
        simp only [q2] at e; cases e
        exact argsOf_ow q2 h
    · cases e
  | true :: m, .fz _ :: os, _, _, _, e, _, _ => by cases e
  | true :: m, .tm _ :: os, _, _, _, e, _, _ => by cases e
  | [], _ :: _, _, _, _, e, _, _ => by cases e
  | false :: _, [], _, _, _, e, _, _ => by cases e
  | true :: _, [], _, _, _, e, _, _ => by cases e
theorem AR.mono {K : FG} {G G' : Hp} {σ : L2.St} {r : Ev} (sm : Same G G') : ∀ {m : List Bool} {os : List Op} {ds : List D} {vs : List V}, AR K G σ r m os ds vs → AR K G' σ r m os ds vs
  | _, _, _, _, .nil => .nil
  | _, _, _, _, .va a t => .va (a.mono sm) (AR.mono sm t)
  | _, _, _, _, .io a b t => .io a b (AR.mono sm t)
theorem argsOf_R {K : FG} {Z : Fr0} {σ : L2.St} {B H : Hp} : ∀ {m : List Bool} {os : List Op} {ds : List D} {vs : List V} {G : Hp} {r r' : Ev}, RS K Z G H r σ → RFs K Z σ B G H r os vs → argsOf m os r = some (ds, r') → (∀ i ∈ iosOf m os, isOw r'[i]? = true) →
    ∃ G', RS K Z G' H r' σ ∧ FZ Z σ B G r G' r' ∧ AR K G' σ r' m os ds vs
  | [], [], _, _, G, r, r', S, .nil, e, _ => by cases e; exact ⟨G, S, .refl, .nil⟩
  | false :: m, o :: os, ds, _, G, r, r', S, .cons a t, e, ho => by
    unfold argsOf at e
    cases q : fzo r o with
    | none => simp [q] at e
    | some p =>
      obtain ⟨d, r1⟩ := p
      cases q2 : argsOf m os r1 with
      | none => simp [q, q2] at e
      | some p2 =>
        obtain ⟨ds2, r2⟩ := p2
        simp only [q, q2] at e; cases e
        obtain ⟨G1, S1, rd, z1, k1⟩ := RF.fzo S a q
        obtain ⟨G2, S2, z2, ar⟩ := argsOf_R S1 (t.imp k1) q2 (fun i hi => ho i (by unfold iosOf; exact hi))
        exact ⟨G2, S2, z1.trans z2, .va (rd.mono z2.g) ar⟩
  | true :: m, .br i :: os, ds, _, G, r, r', S, .cons a t, e, ho => by
    unfold argsOf at e
    split at e
    · rename_i b d hb
      cases q2 : argsOf m os r with
      | none => simp [q2] at e
      | some p2 =>
        obtain ⟨ds2, r2⟩ := p2
        simp only [q2] at e; cases e
        obtain ⟨G2, S2, z2, ar⟩ := argsOf_R S t q2 (fun j hj => ho j (by unfold iosOf; exact List.mem_cons_of_mem _ hj))
        have hi := ho i (by unfold iosOf; exact List.mem_cons_self)
        have hs : σ[i]? = some (some _) := a.elim (fun a => a) fun ⟨_, z, _⟩ => nomatch z
        exact ⟨G2, S2, z2, .io hs ((argsOf_ow q2 hi).trans hb) ar⟩
    · cases e
  | true :: m, .fz _ :: os, _, _, _, _, _, _, _, e, _ => by cases e
  | true :: m, .tm _ :: os, _, _, _, _, _, _, _, e, _ => by cases e
  | [], _ :: _, _, _, _, _, _, _, _, e, _ => by cases e
  | false :: _, [], _, _, _, _, _, _, _, e, _ => by cases e
  | true :: _, [], _, _, _, _, _, _, _, e, _ => by cases e
section
variable {K : FG} {Z : Fr0} {σ : L2.St} {G H G' H' : Hp} {r : Ev}
theorem AR.args (S : RS K Z G H r σ) : ∀ {m : List Bool} {os : List Op} {ds : List D} {vs : List V}, AR K G σ r m os ds vs → ArgsR K G H m ds vs
  | _, _, _, _, .nil => .nil
  | _, _, _, _, .va a t => .va a (AR.args S t)
  | _, _, _, _, .io (i := i) a b t => by
    obtain ⟨p, e1, e2, e3, _⟩ := S.ow i _ _ b
    rw [a] at e1; cases e1
    exact .io e2 e3 (AR.args S t)
theorem AR.mem (S : RS K Z G H r σ) : ∀ {m : List Bool} {os : List Op} {ds : List D} {vs : List V}, AR K G σ r m os ds vs → ∀ a ∈ ioA m vs, ∃ i ∈ iosOf m os, σ[i]? = some (some (V.ref a)) ∧ isOw r[i]? = true
  | _, _, _, _, .nil, a, h => by cases h
  | _, _, _, _, .va _ t, a, h => by
    unfold ioA at h
    obtain ⟨i, h1, h2⟩ := AR.mem S t a h
    exact ⟨i, by unfold iosOf; exact h1, h2⟩
  | _, _, _, _, .io (i := i) hs hb t, a, h => by
    obtain ⟨p, e1, _⟩ := S.ow i _ _ hb
    rw [hs] at e1; cases e1
    unfold ioA at h
    rcases List.mem_cons.mp h with e | h
    · subst e
      exact ⟨i, by unfold iosOf; exact List.mem_cons_self, hs, by rw [hb]; rfl⟩
    · obtain ⟨j, h1, h2⟩ := AR.mem S t a h
      exact ⟨j, by unfold iosOf; exact List.mem_cons_of_mem _ h1, h2⟩
theorem AR.slot (S : RS K Z G H r σ) : ∀ {m : List Bool} {os : List Op} {ds : List D} {vs : List V}, AR K G σ r m os ds vs → ∀ i ∈ iosOf m os, ∃ b d, r[i]? = some (.ow b d)
  | _, _, _, _, .nil, i, h => by cases h
  | _, _, _, _, .va _ t, i, h => AR.slot S t i (by unfold iosOf at h; exact h)
  | _, _, _, _, .io hs hb t, i, h => by
    unfold iosOf at h
    rcases List.mem_cons.mp h with e | h
    · subst e; exact ⟨_, _, hb⟩
    · exact AR.slot S t i h
theorem AR.nodup (S : RS K Z G H r σ) : ∀ {m : List Bool} {os : List Op} {ds : List D} {vs : List V}, AR K G σ r m os ds vs → (iosOf m os).Nodup → (ioA m vs).Nodup
  | _, _, _, _, .nil, _ => .nil
  | _, _, _, _, .va _ t, h => by unfold iosOf at h; unfold ioA; exact AR.nodup S t h
  | _, _, _, _, .io (i := i) hs hb t, h => by
    obtain ⟨p, e1, _⟩ := S.ow i _ _ hb
    rw [hs] at e1; cases e1
    unfold iosOf at h
    rw [List.nodup_cons] at h
    unfold ioA
    refine List.nodup_cons.mpr ⟨fun k => ?_, AR.nodup S t h.2⟩
    obtain ⟨j, h1, h2, h3⟩ := AR.mem S t p k
    have : i = j := S.inj i j p (by rw [hb]; rfl) h3 hs h2
    subst this
    exact h.1 h1
/-- the slots behind a call: where a changed parameter stands, the new data -/
inductive PutR (K : FG) (G' H' : Hp) (σ : L2.St) (r : Ev) : List Nat → List D → List Addr → Prop
  | nil : PutR K G' H' σ r [] [] []
  | cons {i : Nat} {d : D} {a : Addr} {is : List Nat} {ds : List D} {as : List Addr} : σ[i]? = some (some (V.ref a)) → isOw r[i]? = true → G' a = none → RM K G' H' a d → PutR K G' H' σ r is ds as → PutR K G' H' σ r (i :: is) (d :: ds) (a :: as)
theorem AR.put (S : RS K Z G H r σ) : ∀ {m : List Bool} {os : List Op} {ds : List D} {vs : List V} {ios : List D}, AR K G σ r m os ds vs → IosR K G' H' (ioA m vs) ios → PutR K G' H' σ r (iosOf m os) ios (ioA m vs)
  | _, _, _, _, _, .nil, .nil => .nil
  | _, _, _, _, _, .va _ t, h => by unfold iosOf; unfold ioA at h ⊢; exact AR.put S t h
  | _, _, _, _, ios, .io (i := i) hs hb t, h => by
    obtain ⟨p, e1, _⟩ := S.ow i _ _ hb
    rw [hs] at e1; cases e1
    unfold iosOf
    unfold ioA at h ⊢
    cases h with
    | cons h1 h2 h3 => exact .cons hs (by rw [hb]; rfl) h1 h2 (AR.put S t h3)
theorem isOw_setow {r : Ev} {i j : Nat} {b : Bool} {d d0 : D} (h : r[i]? = some (.ow b d0)) : isOw (r.set i (.ow b d))[j]? = isOw r[j]? := by
  by_cases e : i = j
  · subst e
    have hl : i < r.length := (List.getElem?_eq_some_iff.mp h).1
    rw [List.getElem?_set_self hl, h]; rfl
  · rw [List.getElem?_set_ne e]
/-- one changed object: the slot is told anew -/
theorem put_ok {S0 : L2.St} {is : List Nat} {ds : List D} {as : List Addr} : ∀ {r : Ev}, is.Nodup → PutR K G' H' S0 r is ds as →
    (putIos is ds r).length = r.length ∧ (∀ j : Nat, isOw (putIos is ds r)[j]? = isOw r[j]?) ∧ (∀ j : Nat, j ∉ is → (putIos is ds r)[j]? = r[j]?) ∧ (∀ j ∈ is, ∃ b d a d0, r[j]? = some (.ow b d0) ∧ (putIos is ds r)[j]? = some (.ow b d) ∧ S0[j]? = some (some (V.ref a)) ∧ G' a = none ∧ RM K G' H' a d) := by
  induction is generalizing ds as with
  | nil => intro r _ h; cases h; exact ⟨rfl, fun _ => rfl, fun _ _ => rfl, fun _ h => nomatch h⟩
  | cons i is ih =>
    intro r nd h
    cases h with
    | @cons _ d a _ ds as h1 h2 h3 h4 h5 =>
    rw [List.nodup_cons] at nd
    obtain ⟨b, d0, hb⟩ := isOw_some h2
    have e : putIos (i :: is) (d :: ds) r = putIos is ds (r.set i (.ow b d)) := by
      conv => lhs; unfold putIos
      rw [hb]
    have h5' : PutR K G' H' S0 (r.set i (.ow b d)) is ds as := by
      clear ih e nd
      induction h5 with
      | nil => exact .nil
      | cons p1 p2 p3 p4 p5 ih => exact .cons p1 (by rw [isOw_setow hb]; exact p2) p3 p4 ih
    obtain ⟨q1, q2, q3, q4⟩ := ih nd.2 h5'
    rw [e]
    refine ⟨by rw [q1, List.length_set], fun j => by rw [q2, isOw_setow hb], fun j hj => ?_, fun j hj => ?_⟩
    · rw [List.mem_cons, not_or] at hj
      rw [q3 j hj.2, List.getElem?_set_ne (fun z => hj.1 z.symm)]
    · by_cases hji : j = i
      · subst hji
        have hl : j < r.length := (List.getElem?_eq_some_iff.mp hb).1
        exact ⟨b, d, a, d0, hb, by rw [q3 j nd.1, List.getElem?_set_self hl], h1, h3, h4⟩
      · obtain ⟨b', d', a', d0', p1, p2, p3⟩ := q4 j ((List.mem_cons.mp hj).resolve_left hji)
        rw [List.getElem?_set_ne (fun z => hji z.symm)] at p1
        exact ⟨b', d', a', d0', p1, p2, p3⟩
/-- the state behind a call -/
theorem RS.called (S : RS K Z G H r σ) {is : List Nat} {ds : List D} {ia : List Addr} (nd : is.Nodup) (c : CE ia G H G' H') (hia : ∀ a ∈ ia, ∃ i ∈ is, σ[i]? = some (some (V.ref a)) ∧ isOw r[i]? = true) (hp : PutR K G' H' σ r is ds ia) :
    RS K Z G' H' (putIos is ds r) σ ∧ EX σ G H r G' H' (putIos is ds r) := by
  obtain ⟨q1, q2, q3, q4⟩ := put_ok nd hp
  have own_ia : ∀ a ∈ ia, ownAt r σ a := fun a ha => let ⟨i, _, h1, h2⟩ := hia a ha; ⟨i, h2, h1⟩
  have gia : ∀ a ∈ ia, G' a = none := fun a ha => by
    obtain ⟨i, hi, h1, _⟩ := hia a ha
    obtain ⟨b, d, a2, d0, _, _, h2, h3, _⟩ := q4 i hi
    rw [h1] at h2; cases h2; exact h3
  have gnone : ∀ a d, RM K G H a d → G a = none → G' a = none := fun a d h g => by
    cases q : G' a with
    | none => rfl
    | some w =>
      rcases c.f a w q with k | k | k
      · rw [g] at k; cases k
      · exact (h.notNw k).elim
      · rw [gia a k] at q; cases q
  refine ⟨⟨q1.trans S.len, c.sg, S.g0.trans c.g, fun a u h n => ?_, fun a h => S.dm a (c.n a h), fun a u h => ?_, fun i d h => ?_, fun i b d h => ?_, fun i j a hi hj => ?_⟩, ⟨c.g, fun a u h n => c.h a u h fun k => n (own_ia a k), c.n, fun a u h => (c.f a u h).elim .inl fun k => k.elim (fun k => .inr (.inl k)) fun k => .inr (.inr (own_ia a k)), fun a ⟨i, h1, h2⟩ => ⟨i, by rw [← q2]; exact h1, h2⟩⟩⟩
  · refine c.h a u (S.h0 a u h n) fun k => ?_
    obtain ⟨i, h1, h2⟩ := own_ia a k
    obtain ⟨b, d, h3⟩ := isOw_some h1
    obtain ⟨a', e1, _, _, e4⟩ := S.ow i b d h3
    rw [h2] at e1; cases e1
    cases b with
    | true => exact n e4
    | false =>
      have e4' : Z.H0 a = none := e4
      rw [h] at e4'; cases e4'
  · rcases c.f a u h with k | k | k
    · exact S.fr a u k
    · rcases k with k | ⟨k, t⟩
      · exact .inr (.inl (.inl (S.dm a k)))
      · cases q : Z.H0 a with
        | none => exact .inr (.inl (.inl q))
        | some w =>
          by_cases ha : a ∈ Z.io
          · exact .inr (.inr ha)
          · have e := S.h0 a w q ha
            rw [k] at e; cases e
            exact .inr (.inl (.inr ⟨q, t⟩))
    · rw [gia a k] at h; cases h
  · by_cases hi : i ∈ is
    · obtain ⟨b, d', a, d0, _, p2, _⟩ := q4 i hi
      rw [h] at p2; cases p2
    · rw [q3 i hi] at h
      obtain ⟨v, e1, e2⟩ := S.va i d h
      exact ⟨v, e1, e2.mono c.g⟩
  · by_cases hi : i ∈ is
    · obtain ⟨b', d', a, d0, p1, p2, p3, p4, p5⟩ := q4 i hi
      rw [h] at p2; cases p2
      obtain ⟨a', e1, _, _, e4⟩ := S.ow i _ _ p1
      rw [p3] at e1; cases e1
      exact ⟨a, p3, p4, p5, e4⟩
    · rw [q3 i hi] at h
      obtain ⟨a, e1, e2, e3, e4⟩ := S.ow i b d h
      obtain ⟨u, hu⟩ := e3.there
      have na : a ∉ ia := fun k => by
        obtain ⟨j, hj, h1, h2⟩ := hia a k
        exact hi (S.inj i j a (by rw [h]; rfl) h2 e1 h1 ▸ hj)
      exact ⟨a, e1, gnone a d e3 e2, e3.at c.g ((c.h a u hu na).trans hu.symm), e4⟩
  · rw [q2] at hi hj
    exact S.inj i j a hi hj
end
section
variable {X : Cx} {W : WX} {e : Expr} {es : List Expr} {pos : Pos} {f : A}
theorem de_call {k : Nat} {fA : Addr} {fd : FuncData} {ps : List Str} {m : List Bool} {F : FD} {x : Str} {p : Pos} (FO : FnOk X.prog X.w X.K X.mg X.base (L2.CX X.prog X.w) k fA fd ps (spD X.mg X.K m F)) (hr : Room k X.A) (tk : Takes X W) (hg : Gl X x) (hm : X.mg x = some (.ref fA))
    (hk : PySem.W.keepIn X.K (.ref fA) = true) (hb : Binds X.K fd ps []) (ha : DA X W (e :: es) f) (hdb : (x == ("__debug__" : Str)) = false := by decide) (he : starEach (e :: es) X.env = (false, eval e X.env) :: starEach es X.env := by rfl)
    (hpl : (backTo pos (starEach es X.env)).any (·.1) = false := by rfl) : DE X W (.Call (.Name x p) (e :: es) [] pos) (eCall m F f) := by
  obtain ⟨t, pt, qt⟩ := ha.ex
  refine ⟨_, pe_callS (E := WE W) FO hr hg hm hk hb (passAt tk) pt hdb he hpl, fun Z σ G H r Q S hp => qt Z σ G H r _ S ?_⟩
  unfold eCall at hp
  cases e1 : f r with
  | ok os r1 =>
    simp only [e1] at hp
    intro vs G1 H1 S1 X1 R1
    cases e2 : argsOf m os r1 with
    | none => simp only [e2] at hp; exact hp.elim
    | some p2 =>
      obtain ⟨ds, r2⟩ := p2
      simp only [e2] at hp
      split at hp
      · rename_i hnd
        obtain ⟨G2, S2, z2, ar⟩ := argsOf_R S1 (ROs.rf R1) e2 hnd.2
        have X2 := z2.ex X1
        refine ⟨G2, ds, S2.sg, ar.args S2, ar.nodup S2 hnd.1, ?_⟩
        cases e3 : F ds with
        | ok o ios =>
          simp only [e3] at hp
          intro v G' H' c ir fr
          obtain ⟨S3, X3⟩ := S2.called hnd.1 c (ar.mem S2) (ar.put S2 ir)
          refine hp v G' H' S3 (X2.trans X3) ?_
          cases o with
          | fz d => exact fr
          | br i => exact fr.elim
          | tm d =>
            obtain ⟨a, ea, g0, h1, rm⟩ := fr
            refine ⟨a, ea, g0, ⟨S2.dm a h1, X2.n a h1⟩, fun k => ?_, rm⟩
            obtain ⟨i, k1, k2⟩ := X3.o a k
            obtain ⟨b, d', k3⟩ := isOw_some k1
            obtain ⟨a', w1, _, w3, _⟩ := S2.ow i b d' k3
            rw [k2] at w1; cases w1
            obtain ⟨u, hu⟩ := w3.there
            rw [h1] at hu; cases hu
        | err c ios =>
          simp only [e3] at hp
          intro C G' H' ce ir hC
          obtain ⟨S3, X3⟩ := S2.called hnd.1 ce (ar.mem S2) (ar.put S2 ir)
          exact hp C G' H' S3 (X2.trans X3) hC
        | bad => simp only [e3] at hp; exact hp.elim
      · exact hp.elim
  | err c r1 => simp only [e1] at hp; exact hp
  | bad => simp only [e1] at hp; exact hp.elim
end
end DL
end

section
set_option Elab.async false
set_option linter.all false
set_option maxRecDepth 100000
set_option autoImplicit false
/-! DL9: statements over data. -/
namespace DL
open PySem PySem.Spec PyProof.Rows L2
def RetR (K : FG) (Z : Fr0) (σ : L2.St) (G H : Hp) (r : Ev) : Op → V → Prop
  | .fz d, v => RD K G d v
  | .tm d, v => ∃ a, v = .ref a ∧ G a = none ∧ Z.H0 a = none ∧ ¬ ownAt r σ a ∧ RM K G H a d
  | .br _, _ => False
def SPost (X : Cx) (W : WX) (Z : Fr0) (D : Ends) : SOut → Prop
  | .nx r => ∀ σ G H, RS X.K Z G H r σ → D.nx σ H
  | .brk r => ∀ σ G H, RS X.K Z G H r σ → D.bk σ H
  | .cnt r => ∀ σ G H, RS X.K Z G H r σ → D.ct σ H
  | .ret o r => ∀ v σ G H, RS X.K Z G H r σ → RetR X.K Z σ G H r o v → D.rt v H
  | .err c r => ∀ C σ G H, RS X.K Z G H r σ → X.mg c = some (.ref C) → W (.ref C) none σ H
  | .bad => False
structure DS (X : Cx) (W : WX) (s : Stmt) (f : S) : Prop where
  ex : ∃ t : L2.TS, PS X s t ∧ ∀ (Z : Fr0) (σ : L2.St) (G H : Hp) (r : Ev) (D : Ends), RS X.K Z G H r σ → SPost X W Z D (f r) → t D σ H
structure DB (X : Cx) (W : WX) (s : List Stmt) (f : S) : Prop where
  ex : ∃ t : L2.TS, PSs X s t ∧ ∀ (Z : Fr0) (σ : L2.St) (G H : Hp) (r : Ev) (D : Ends), RS X.K Z G H r σ → SPost X W Z D (f r) → t D σ H
section
variable {K : FG} {Z : Fr0} {σ : L2.St} {B G H : Hp} {r r' : Ev}
theorem RS.setVa (S : RS K Z G H r σ) {i : Nat} {d : D} {v : V} (rd : RD K G d v) : RS K Z G H (r.set i (.va d)) (σ.set i (some v)) := by
  have L := S.len
  refine ⟨by simp [L], S.sg, S.g0, S.h0, S.dm, S.fr, fun j d' q => ?_, fun j b d' q => ?_, fun j k a p q e1 e2 => ?_⟩
  · by_cases e : i = j
    · subst e
      have hl : i < r.length := by simpa using (List.getElem?_eq_some_iff.mp q).1
      rw [List.getElem?_set_self hl] at q; cases q
      exact ⟨v, by rw [List.getElem?_set_self (by rw [← L]; exact hl)], rd⟩
    · rw [List.getElem?_set_ne e] at q ⊢
      exact S.va j d' q
  · by_cases e : i = j
    · subst e
      have hl : i < r.length := by simpa using (List.getElem?_eq_some_iff.mp q).1
      rw [List.getElem?_set_self hl] at q; cases q
    · rw [List.getElem?_set_ne e] at q ⊢
      exact S.ow j b d' q
  · obtain ⟨p, np⟩ := isOw_set p
    obtain ⟨q, nq⟩ := isOw_set q
    rw [List.getElem?_set_ne (Ne.symm np)] at e1
    rw [List.getElem?_set_ne (Ne.symm nq)] at e2
    exact S.inj j k a p q e1 e2
theorem isOw_set2 {i j : Nat} {s : Sl} (h : isOw (r.set i s)[j]? = true) : j = i ∨ isOw r[j]? = true := by
  by_cases e : i = j
  · exact .inl e.symm
  · rw [List.getElem?_set_ne e] at h; exact .inr h
theorem RS.setOw (S : RS K Z G H r σ) {i : Nat} {d : D} {a : Addr} (g0 : G a = none) (h0 : Z.H0 a = none) (no : ¬ ownAt r σ a) (rm : RM K G H a d) : RS K Z G H (r.set i (.ow false d)) (σ.set i (some (.ref a))) := by
  have L := S.len
  refine ⟨by simp [L], S.sg, S.g0, S.h0, S.dm, S.fr, fun j d' q => ?_, fun j b d' q => ?_, fun j k b p q e1 e2 => ?_⟩
  · by_cases e : i = j
    · subst e
      have hl : i < r.length := by simpa using (List.getElem?_eq_some_iff.mp q).1
      rw [List.getElem?_set_self hl] at q; cases q
    · rw [List.getElem?_set_ne e] at q ⊢
      exact S.va j d' q
  · by_cases e : i = j
    · subst e
      have hl : i < r.length := by simpa using (List.getElem?_eq_some_iff.mp q).1
      rw [List.getElem?_set_self hl] at q; cases q
      exact ⟨a, by rw [List.getElem?_set_self (by rw [← L]; exact hl)], g0, rm, h0⟩
    · rw [List.getElem?_set_ne e] at q ⊢
      exact S.ow j b d' q
  · have old : ∀ j, isOw (r.set i (.ow false d))[j]? = true → (σ.set i (some (V.ref a)))[j]? = some (some (V.ref b)) → j ≠ i → isOw r[j]? = true ∧ σ[j]? = some (some (V.ref b)) := fun j h1 h2 n => by
      rw [List.getElem?_set_ne (Ne.symm n)] at h1 h2; exact ⟨h1, h2⟩
    have new : ∀ j, isOw (r.set i (.ow false d))[j]? = true → (σ.set i (some (V.ref a)))[j]? = some (some (V.ref b)) → j = i → b = a := fun j h1 h2 n => by
      subst n
      by_cases hl : j < r.length
      · rw [List.getElem?_set_self (by rw [← L]; exact hl)] at h2; cases h2; rfl
      · rw [List.getElem?_eq_none (by simpa using hl)] at h1; cases h1
    by_cases hj : j = i
    · by_cases hk : k = i
      · rw [hj, hk]
      · obtain ⟨o1, o2⟩ := old k q e2 hk
        have := new j p e1 hj
        subst this
        exact absurd ⟨k, o1, o2⟩ no
    · obtain ⟨o1, o2⟩ := old j p e1 hj
      by_cases hk : k = i
      · have := new k q e2 hk
        subst this
        exact absurd ⟨j, o1, o2⟩ no
      · obtain ⟨p1, p2⟩ := old k q e2 hk
        exact S.inj j k b o1 p1 o2 p2
/-- a value is kept in slot i -/
theorem RS.keep (S : RS K Z G H r σ) {i : Nat} {o : Op} {v : V} (h : RO K Z σ B G H r o v) (e : keep i o r = some r') : ∃ G', RS K Z G' H r' (σ.set i (some v)) := by
  cases o with
  | fz d => cases e; exact ⟨G, S.setVa h⟩
  | tm d =>
    cases e
    obtain ⟨a, ea, g0, h0, no, rm⟩ := h
    subst ea
    exact ⟨G, S.setOw g0 h0.1 no rm⟩
  | br j =>
    unfold DL.keep at e
    cases q : DL.fzo r (.br j) with
    | none => simp [q] at e
    | some p =>
      obtain ⟨d, r1⟩ := p
      simp only [q] at e; cases e
      obtain ⟨G', S', rd, _⟩ := RO.fzo S h q
      exact ⟨G', S'.setVa rd⟩
/-- the object in slot i is changed -/
theorem RS.mutate (S : RS K Z G H r σ) {i : Nat} {b : Bool} {d d' : D} {a : Addr} {u : HO} (hr : r[i]? = some (.ow b d)) (hs : σ[i]? = some (some (.ref a))) (rm : RM K G (upd H a u) a d') :
    RS K Z G (upd H a u) (r.set i (.ow b d')) σ ∧ EX σ G H r G (upd H a u) (r.set i (.ow b d')) := by
  obtain ⟨a', e1, g0, m0, e4⟩ := S.ow i b d hr
  rw [hs] at e1; cases e1
  obtain ⟨u0, hu0⟩ := m0.there
  have hi : i < r.length := (List.getElem?_eq_some_iff.mp hr).1
  have iso : ∀ j, isOw (r.set i (.ow b d'))[j]? = isOw r[j]? := fun j => isOw_setow hr
  have oth : ∀ c, c ≠ a → upd H a u c = H c := fun c h => upd_ne h
  refine ⟨⟨by rw [List.length_set]; exact S.len, fun c o h => ?_, S.g0, fun c o h n => ?_, fun c h => ?_, S.fr, fun j e q => ?_, fun j b' e q => ?_, fun j k c p q => S.inj j k c (by rw [← iso]; exact p) (by rw [← iso]; exact q)⟩, ⟨Same.refl _, fun c o h n => ?_, fun c h => ?_, fun _ _ h => .inl h, fun c ⟨j, p, q⟩ => ⟨j, by rw [← iso]; exact p, q⟩⟩⟩
  · rw [oth c fun z => by subst z; rw [g0] at h; cases h]; exact S.sg c o h
  · rw [oth c fun z => ?_]
    · exact S.h0 c o h n
    · subst z
      cases b with
      | true => exact n e4
      | false =>
        have e4' : Z.H0 c = none := e4
        rw [h] at e4'; cases e4'
  · by_cases z : c = a
    · subst z; rw [upd_same] at h; cases h
    · rw [oth c z] at h; exact S.dm c h
  · have hj : i ≠ j := fun z => by subst z; rw [List.getElem?_set_self hi] at q; cases q
    rw [List.getElem?_set_ne hj] at q
    exact S.va j e q
  · by_cases hj : i = j
    · subst hj
      rw [List.getElem?_set_self hi] at q; cases q
      exact ⟨a, hs, g0, rm, e4⟩
    · rw [List.getElem?_set_ne hj] at q
      obtain ⟨c, p1, p2, p3, p4⟩ := S.ow j b' e q
      have nc : c ≠ a := fun z => hj (S.inj i j a (by rw [hr]; rfl) (by rw [q]; rfl) hs (by rw [← z]; exact p1))
      exact ⟨c, p1, p2, p3.at (Same.refl _) (oth c nc), p4⟩
  · rw [oth c fun z => n ⟨i, by rw [hr]; rfl, by rw [z]; exact hs⟩]; exact h
  · by_cases z : c = a
    · subst z; rw [upd_same] at h; cases h
    · rw [oth c z] at h; exact h
end
section
variable {X : Cx} {W : WX} {e : Expr} {st : Stmt} {rest : List Stmt} {f g : S} {fa fb : E} {pos : Pos}
theorem db_nil : DB X W [] sNext := ⟨_, pss_nil, fun Z σ G H r D S p => p σ G H S⟩
theorem db_cons (h : DS X W st f) (k : DB X W rest g) : DB X W (st :: rest) (sSeq f g) := by
  obtain ⟨t, p, q⟩ := h.ex
  obtain ⟨t2, p2, q2⟩ := k.ex
  refine ⟨_, pss_cons p p2, fun Z σ G H r D S hp => q Z σ G H r _ S ?_⟩
  unfold sSeq at hp
  cases e1 : f r with
  | nx r1 => simp only [e1] at hp; exact fun σ1 G1 H1 S1 => q2 Z σ1 G1 H1 r1 D S1 hp
  | _ => simp only [e1] at hp; exact hp
theorem db_one (h : DS X W st f) : DB X W [st] f := by
  obtain ⟨t, p, q⟩ := h.ex
  exact ⟨_, pss_one p, q⟩
theorem ds_pass : DS X W (.Pass pos) sNext := ⟨_, ps_pass, fun Z σ G H r D S p => p σ G H S⟩
theorem ds_break : DS X W (.Break pos) sBreak := ⟨_, ps_break, fun Z σ G H r D S p => p σ G H S⟩
theorem ds_cont : DS X W (.Continue pos) sCont := ⟨_, ps_continue, fun Z σ G H r D S p => p σ G H S⟩
theorem ds_expr (he : DE X W e fa) (hs : swapsWith e none pos.line X.env = pure false := by rfl) : DS X W (.Expr e pos) (sExpr fa) := by
  obtain ⟨t, p, q⟩ := he.ex
  refine ⟨_, ps_expr p hs, fun Z σ G H r D S hp => q Z σ G H r _ S ?_⟩
  unfold sExpr at hp
  cases e1 : fa r with
  | ok o r1 => simp only [e1] at hp; exact fun v G1 H1 S1 X1 R1 => hp σ G1 H1 S1
  | err c r1 => simp only [e1] at hp; exact fun C G1 H1 S1 X1 m => hp C σ G1 H1 S1 m
  | bad => simp only [e1] at hp; exact hp.elim
theorem ds_set {i : Nat} {x : Str} {pos' : Pos} (hN : X.N.Nodup) (hi : X.N[i]? = some x) (hx : Loc X.env.scope x) (he : DE X W e fa) (hs : swapsWith e (some (.Name x pos')) pos.line X.env = pure false := by rfl)
    (hf : X.fn x = true ∨ X.env.scope.names.lookup x = some .local := by first | exact .inl rfl | exact .inr rfl | assumption) : DS X W (.Assign [.Name x pos'] e pos) (sSet i fa) := by
  obtain ⟨t, p, q⟩ := he.ex
  refine ⟨_, ps_set hN hi hx p hs hf, fun Z σ G H r D S hp => q Z σ G H r _ S ?_⟩
  unfold sSet at hp
  cases e1 : fa r with
  | ok o r1 =>
    simp only [e1] at hp
    intro v G1 H1 S1 X1 R1
    cases e2 : keep i o r1 with
    | none => simp only [e2] at hp; exact hp.elim
    | some r2 =>
      simp only [e2] at hp
      obtain ⟨G2, S2⟩ := S1.keep R1 e2
      exact hp _ G2 H1 S2
  | err c r1 => simp only [e1] at hp; exact fun C G1 H1 S1 X1 m => hp C σ G1 H1 S1 m
  | bad => simp only [e1] at hp; exact hp.elim
theorem ds_ret (he : DE X W e fa) : DS X W (.Return (some e) pos) (sRet fa) := by
  obtain ⟨t, p, q⟩ := he.ex
  refine ⟨_, ps_ret p, fun Z σ G H r D S hp => q Z σ G H r _ S ?_⟩
  unfold sRet at hp
  cases e1 : fa r with
  | ok o r1 =>
    simp only [e1] at hp
    intro v G1 H1 S1 X1 R1
    cases o with
    | fz d => exact hp v σ G1 H1 S1 R1
    | tm d =>
      obtain ⟨a, ea, g0, h0, no, rm⟩ := R1
      exact hp v σ G1 H1 S1 ⟨a, ea, g0, h0.1, no, rm⟩
    | br i =>
      have R1' : σ[i]? = some (some v) := R1
      dsimp only at hp
      cases q : r1[i]? with
      | none => simp only [q] at hp; exact hp.elim
      | some s =>
        cases s with
        | no => simp only [q] at hp; exact hp.elim
        | va d =>
          simp only [q] at hp
          obtain ⟨v', w1, w2⟩ := S1.va i d q
          rw [R1'] at w1; cases w1
          exact hp v σ G1 H1 S1 w2
        | ow b d =>
          cases b with
          | true => simp only [q] at hp; exact hp.elim
          | false =>
            simp only [q] at hp
            obtain ⟨a, w1, w2, w3, w4⟩ := S1.ow i _ d q
            rw [R1'] at w1; cases w1
            have iso : ∀ j, isOw (r1.set i .no)[j]? = true → isOw r1[j]? = true ∧ j ≠ i := fun j h => by
              by_cases z : i = j
              · subst z
                rw [List.getElem?_set_self (List.getElem?_eq_some_iff.mp q).1] at h; cases h
              · rw [List.getElem?_set_ne z] at h; exact ⟨h, fun k => z k.symm⟩
            refine hp _ σ G1 H1 ⟨by rw [List.length_set]; exact S1.len, S1.sg, S1.g0, S1.h0, S1.dm, S1.fr, fun j d' k => ?_, fun j b d' k => ?_, fun j k b p p2 => S1.inj j k b (iso j p).1 (iso k p2).1⟩ ⟨a, rfl, w2, w4, fun ⟨j, k1, k2⟩ => ?_, w3⟩
            · have z : i ≠ j := fun z => by subst z; rw [List.getElem?_set_self (List.getElem?_eq_some_iff.mp q).1] at k; cases k
              rw [List.getElem?_set_ne z] at k; exact S1.va j d' k
            · have z : i ≠ j := fun z => by subst z; rw [List.getElem?_set_self (List.getElem?_eq_some_iff.mp q).1] at k; cases k
              rw [List.getElem?_set_ne z] at k; exact S1.ow j b d' k
            · obtain ⟨k1, n⟩ := iso j k1
              exact n (S1.inj j i a k1 (by rw [q]; rfl) k2 R1')
  | err c r1 => simp only [e1] at hp; exact fun C G1 H1 S1 X1 m => hp C σ G1 H1 S1 m
  | bad => simp only [e1] at hp; exact hp.elim
theorem ds_retN : DS X W (.Return none pos) sRetN := ⟨_, ps_retN, fun Z σ G H r D S p => p _ σ G H S .non⟩
theorem ds_if {c : Expr} {a b : List Stmt} {t : T} (hc : DT X W c t) (ha : DB X W a f) (hb : DB X W b g) : DS X W (.If c a b pos) (sIf t f g) := by
  obtain ⟨t1, p1, q1⟩ := hc.ex
  obtain ⟨t2, p2, q2⟩ := ha.ex
  obtain ⟨t3, p3, q3⟩ := hb.ex
  refine ⟨_, ps_if p1 p2 p3, fun Z σ G H r D S hp => q1 Z σ G H r _ S ?_⟩
  unfold sIf at hp
  cases e1 : t r with
  | ok k r1 =>
    cases k with
    | true => simp only [e1] at hp; exact fun G1 H1 S1 X1 => iteT (q2 Z σ G1 H1 r1 D S1 hp)
    | false => simp only [e1] at hp; exact fun G1 H1 S1 X1 => iteF (q3 Z σ G1 H1 r1 D S1 hp)
  | err c r1 => simp only [e1] at hp; exact fun C G1 H1 S1 X1 m => hp C σ G1 H1 S1 m
  | bad => simp only [e1] at hp; exact hp.elim
theorem ds_aug {i : Nat} {x : Str} {pos' : Pos} {op : Operator} {gg : D → D → Option Op} (hN : X.N.Nodup) (hi : X.N[i]? = some x) (hx : Loc X.env.scope x) (ho : OpD X (inplaceOp op) gg) (he : DE X W e fa)
    (hf : X.fn x = true ∨ X.env.scope.names.lookup x = some .local := by first | exact .inl rfl | exact .inr rfl | assumption) : DS X W (.AugAssign (.Name x pos') op e pos) (sAug i gg fa) := by
  obtain ⟨t, p, q⟩ := he.ex
  obtain ⟨rr, po, qo⟩ := ho
  refine ⟨_, ps_aug hN hi hx p po hf, fun Z σ G H r D S hp => ?_⟩
  unfold sAug at hp
  cases e0 : r[i]? with
  | none => simp only [e0] at hp; exact hp.elim
  | some s =>
    cases s with
    | no => simp only [e0] at hp; exact hp.elim
    | ow b d => simp only [e0] at hp; exact hp.elim
    | va d =>
      simp only [e0] at hp
      obtain ⟨v, w1, w2⟩ := S.va i d e0
      refine ⟨v, w1, q Z σ G H r _ S ?_⟩
      cases e1 : fa r with
      | ok o r1 =>
        simp only [e1] at hp
        intro y G1 H1 S1 X1 R1
        cases e2 : rsv r1 o with
        | none => simp only [e2] at hp; exact hp.elim
        | some dy =>
          cases e3 : gg d dy with
          | none => simp only [e2, e3] at hp; exact hp.elim
          | some z =>
            simp only [e2, e3] at hp
            cases z with
            | fz dz =>
              refine qo Z σ G1 H1 r1 v y d dy (.fz dz) _ S1 ((w2.mono X1.g).rh S1.sg) (R1.rsv S1 e2) e3 fun v2 G2 H2 S2 X2 R2 => ?_
              exact hp _ G2 H2 (S2.setVa R2)
            | _ => exact hp.elim
      | err c r1 => simp only [e1] at hp; exact fun C G1 H1 S1 X1 m => hp C σ G1 H1 S1 m
      | bad => simp only [e1] at hp; exact hp.elim
/-! ### targets -/
def Tg.slots : Tg → List Nat
  | .one i => [i]
  | .many is => is
structure DG (X : Cx) (target : Expr) (t : Tg) : Prop where
  ex : ∃ g : L2.TG, PG X target g ∧ ∀ (Z : Fr0) (σ : L2.St) (G H : Hp) (r r' : Ev) (d : D) (v : V) (Q : L2.St → Hp → Prop), RS X.K Z G H r σ → RD X.K G d v → t.put d r = some r' →
    (∀ σ', RS X.K Z G H r' σ' → (σ'.length = σ.length ∧ ∀ i, i ∉ t.slots → σ'[i]? = σ[i]?) → Q σ' H) → g v σ H Q
theorem dg_one {i : Nat} {x : Str} (h : PG X (.Name x pos) (gName i)) : DG X (.Name x pos) (.one i) := by
  refine ⟨_, h, fun Z σ G H r r' d v Q S rd e k => ?_⟩
  cases e
  refine k _ (S.setVa rd) ⟨List.length_set, fun j hj => ?_⟩
  exact List.getElem?_set_ne fun z => hj (by subst z; exact List.mem_cons_self)
structure DGs (X : Cx) (es : List Expr) (is : List Nat) : Prop where
  ex : ∃ g : TGs, PGs X es g ∧ ∀ (Z : Fr0) (σ : L2.St) (G H : Hp) (r r' : Ev) (ds : List D) (vs : List V) (Q : L2.St → Hp → Prop), RS X.K Z G H r σ → RDs X.K G ds vs → setAll is ds r = some r' →
    (∀ σ', RS X.K Z G H r' σ' → (σ'.length = σ.length ∧ ∀ i, i ∉ is → σ'[i]? = σ[i]?) → Q σ' H) → g vs σ H Q
theorem dgs_nil : DGs X [] [] := by
  refine ⟨_, pgs_nil, fun Z σ G H r r' ds vs Q S rd e k => ?_⟩
  cases ds with
  | nil => cases rd; cases e; exact ⟨rfl, k σ S ⟨rfl, fun _ _ => rfl⟩⟩
  | cons _ _ => cases e
theorem dgs_cons {i : Nat} {is : List Nat} {x : Str} {es : List Expr} (h : PG X (.Name x pos) (gName i)) (k : DGs X es is) (hs : (assignEach (.Name x pos :: es) X.env).map (·.2) = assign (.Name x pos) X.env :: (assignEach es X.env).map (·.2) := by rfl) : DGs X (.Name x pos :: es) (i :: is) := by
  obtain ⟨g, p, q⟩ := k.ex
  refine ⟨_, pgs_cons h p hs, fun Z σ G H r r' ds vs Q S rd e k => ?_⟩
  cases ds with
  | nil => cases e
  | cons d ds =>
    cases rd with
    | @cons _ v _ vs r1 r2 =>
    refine ⟨v, vs, rfl, q Z _ G H _ r' ds vs Q (S.setVa r1) r2 e fun σ' S' ⟨l, o⟩ => k σ' S' ⟨l.trans List.length_set, fun j hj => ?_⟩⟩
    rw [List.mem_cons, not_or] at hj
    rw [o j hj.2, List.getElem?_set_ne fun z => hj.1 z.symm]
theorem setAll_len : ∀ {is : List Nat} {ds : List D} {r r' : Ev}, setAll is ds r = some r' → ds.length = is.length
  | [], [], _, _, _ => rfl
  | _ :: is, _ :: ds, _, _, e => congrArg (· + 1) (setAll_len (is := is) (ds := ds) e)
  | [], _ :: _, _, _, e => by cases e
  | _ :: _, [], _, _, e => by cases e
theorem dg_many {es : List Expr} {is : List Nat} {k : Nat} {n : Nat} (hc : X.calm = true) (h : DGs X es is) (hl : is.length = n := by rfl)
    (hn : (assignEach es X.env).length = n := by rfl) (hst : (assignEach es X.env).findIdx? (·.1) = none := by rfl) : DG X (.Tuple es k pos) (.many is) := by
  obtain ⟨g, p, q⟩ := h.ex
  refine ⟨_, pg_tup hc p hn hst, fun Z σ G H r r' d v Q S rd e k => ?_⟩
  cases d <;> first | (cases e; done) | skip
  · cases rd with | tup h1 h2 =>
    exact ⟨_, _, rfl, .inl (.inl (S.sg _ _ h1)), by rw [← h2.length, setAll_len e, hl], q Z σ G H r r' _ _ Q S h2 e k⟩
  · cases rd with | ktp h1 h2 =>
    exact ⟨_, _, rfl, Same.seqT S.sg h1, by rw [← h2.length, setAll_len e, hl], q Z σ G H r r' _ _ Q S h2 e k⟩
theorem ds_unp {tg : Expr} {t : Tg} (hg : DG X tg t) (he : DE X W e fa) (hs : swapsWithSole [tg] e pos.line X.env = pure false := by rfl) (hw : swappedStores [tg] e X.env = pure none := by rfl)
    (h1 : (assignEach [tg] X.env).map (·.2) = [assign tg X.env] := by rfl) : DS X W (.Assign [tg] e pos) (sUnp t fa) := by
  obtain ⟨te, p, q⟩ := he.ex
  obtain ⟨g, pg, qg⟩ := hg.ex
  refine ⟨_, ps_asg p pg hs hw h1, fun Z σ G H r D S hp => q Z σ G H r _ S ?_⟩
  unfold sUnp at hp
  cases e1 : fa r with
  | ok o r1 =>
    simp only [e1] at hp
    intro v G1 H1 S1 X1 R1
    cases e2 : fzo r1 o with
    | none => simp only [e2] at hp; exact hp.elim
    | some p2 =>
      obtain ⟨d, r2⟩ := p2
      simp only [e2] at hp
      obtain ⟨G2, S2, rd, _⟩ := RO.fzo S1 R1 e2
      cases e3 : t.put d r2 with
      | none => simp only [e3] at hp; exact hp.elim
      | some r3 =>
        simp only [e3] at hp
        exact qg Z σ G2 H1 r2 r3 d v _ S2 rd e3 fun σ' S' _ => hp σ' G2 H1 S'
  | err c r1 => simp only [e1] at hp; exact fun C G1 H1 S1 X1 m => hp C σ G1 H1 S1 m
  | bad => simp only [e1] at hp; exact hp.elim
end
end DL
end

section
set_option Elab.async false
set_option linter.all false
set_option maxRecDepth 100000
set_option autoImplicit false
/-! DL10: lists and dicts changed, loops, raise over data. -/
namespace DL
open PySem PySem.Spec PyProof.Rows L2
section
variable {X : Cx} {W : WX} {e o : Expr} {es : List Expr} {st : Stmt} {f g : S} {fa fb fk fv : E} {fas : A} {pos : Pos}
/-! ### a list's methods -/
def MutD (X : Cx) (id : String) (gg : D → List D → Option (D × Op)) : Prop :=
  ∃ rr : V → List V → Hp → VK → Prop, MtR X id rr ∧ ∀ (G H : Hp) (a : Addr) (d d' : D) (ds : List D) (vs : List V) (z : Op) (Q : VK), Same G H → RM X.K G H a d → RDs X.K G ds vs → gg d ds = some (d', z) →
    (∀ u v, RM X.K G (upd H a u) a d' → (∃ dz, z = .fz dz ∧ RD X.K G dz v) → Q v (upd H a u)) → rr (.ref a) vs H Q
theorem mut_core {id : String} {gg : D → List D → Option (D × Op)} {rr : V → List V → Hp → VK → Prop} {i : Nat} {t : L2.TA} {Z : Fr0} {σ : L2.St} {G H : Hp} {r : Ev} {Q : VK}
    (q : ∀ (Z : Fr0) (σ : L2.St) (G H : Hp) (r : Ev) (Q : List V → Hp → Prop), RS X.K Z G H r σ → APost X W Z σ G H r Q (fas r) → t σ H Q)
    (hr : ∀ (G H : Hp) (a : Addr) (d d' : D) (ds : List D) (vs : List V) (z : Op) (Q : VK), Same G H → RM X.K G H a d → RDs X.K G ds vs → gg d ds = some (d', z) →
      (∀ u v, RM X.K G (upd H a u) a d' → (∃ dz, z = .fz dz ∧ RD X.K G dz v) → Q v (upd H a u)) → rr (.ref a) vs H Q)
    (S : RS X.K Z G H r σ) (hp : EPost X W Z σ G H r Q (eMut i gg fas r)) : ∃ v, σ[i]? = some (some v) ∧ tyV X.K "list" v H ∧ t σ H fun xs H2 => rr v xs H2 Q := by
  unfold eMut at hp
  split at hp
  · rename_i hl
    obtain ⟨b0, xs0, e0⟩ : ∃ b xs, r[i]? = some (.ow b (.lst xs)) := by
      cases q0 : r[i]? with
      | none => rw [q0] at hl; cases hl
      | some s =>
        rw [q0] at hl
        cases s with
        | ow b d => cases d <;> first | (cases hl; done) | exact ⟨_, _, rfl⟩
        | _ => cases hl
    obtain ⟨a, w1, w2, w3, w4⟩ := S.ow i _ _ e0
    obtain ⟨vs0, k1, k2⟩ := w3
    refine ⟨_, w1, .inl ⟨rfl, vs0, .of k1⟩, q Z σ G H r _ S ?_⟩
    cases e1 : fas r with
    | ok os r1 =>
      simp only [e1] at hp
      intro vs G1 H1 S1 X1 R1
      cases e2 : fzos os r1 with
      | none => simp only [e2] at hp; exact hp.elim
      | some p2 =>
        obtain ⟨ds, r2⟩ := p2
        simp only [e2] at hp
        obtain ⟨G2, S2, rd, z2, _⟩ := RFs.fzos S1 (ROs.rf R1) e2
        have X2 := z2.ex X1
        cases e3 : r2[i]? with
        | none => simp only [e3] at hp; exact hp.elim
        | some s =>
          cases s with
          | no => simp only [e3] at hp; exact hp.elim
          | va d => simp only [e3] at hp; exact hp.elim
          | ow b d =>
            simp only [e3] at hp
            cases e4 : gg d ds with
            | none => simp only [e4] at hp; exact hp.elim
            | some p4 =>
              obtain ⟨d', z⟩ := p4
              simp only [e4] at hp
              obtain ⟨a', y1, y2, y3, y4⟩ := S2.ow i _ _ e3
              rw [w1] at y1; cases y1
              refine hr G2 H1 a d d' ds vs z Q S2.sg y3 rd e4 fun u v rm ⟨dz, ez, rz⟩ => ?_
              obtain ⟨S3, X3⟩ := S2.mutate e3 w1 rm
              subst ez
              exact hp v G2 _ S3 (X2.trans X3) rz
    | err c r1 => simp only [e1] at hp; exact hp
    | bad => simp only [e1] at hp; exact hp.elim
  · exact hp.elim
theorem de_mut {id : String} {name : Str} {x : Str} {i : Nat} {gg : D → List D → Option (D × Op)} {apos p : Pos} (slot : Slot "list" name id) (hty : typeOf (.builtin id) = pure (.type "method_descriptor")) (hm : MutD X id gg) (ho : PE X (.Name x p) (tVar i)) (ha : DA X W (e :: es) fas)
    (hbase : attributeBase (.Name x p) name X.env (eval (.Name x p) X.env) = eval (.Name x p) X.env := by rfl)
    (hfew : ((backTo pos (starEach (e :: es) X.env)).all (fun x => !x.1) && (backToKw pos (keywordEach [] X.env)).all (fun x => x.1.isSome)
      && decide ((e :: es).length + ([] : List Keyword).length + (if ([] : List Keyword).isEmpty then 0 else 1) < 30)) = true := by rfl)
    (hline : (apos.endLine == pos.line) = true := by rfl) (hs : starEach (e :: es) X.env = (false, eval e X.env) :: starEach es X.env := by rfl) (hplain : (backTo pos (starEach es X.env)).any (·.1) = false := by rfl) :
    DE X W (.Call (.Attribute (.Name x p) name apos) (e :: es) [] pos) (eMut i gg fas) := by
  obtain ⟨rr, hr, kr⟩ := hm
  obtain ⟨t, pt, qt⟩ := ha.ex
  refine ⟨_, pe_bm PySem.F.plainAttrs_list slot hty hr ho pt hbase hfew hline hs hplain, fun Z σ G H r Q S hp => ?_⟩
  obtain ⟨v, h1, h2, h3⟩ := mut_core (id := id) qt kr S hp
  exact ⟨v, h1, h2, h3⟩
theorem de_mut0 {id : String} {name : Str} {x : Str} {i : Nat} {gg : D → List D → Option (D × Op)} {apos p : Pos} (slot : Slot "list" name id) (hty : typeOf (.builtin id) = pure (.type "method_descriptor")) (hm : MutD X id gg) (ho : PE X (.Name x p) (tVar i))
    (hbase : attributeBase (.Name x p) name X.env (eval (.Name x p) X.env) = eval (.Name x p) X.env := by rfl) (hline : (apos.endLine == pos.line) = true := by rfl) :
    DE X W (.Call (.Attribute (.Name x p) name apos) [] [] pos) (eMut i gg aNil) := by
  obtain ⟨rr, hr, kr⟩ := hm
  refine ⟨_, pe_bm0 PySem.F.plainAttrs_list slot hty hr ho hbase hline, fun Z σ G H r Q S hp => ?_⟩
  obtain ⟨v, h1, h2, h3⟩ := mut_core (id := id) (t := L2.tNil) (fas := aNil) (fun Z σ G H r Q S p => p [] G H S .refl .nil) kr S hp
  exact ⟨v, h1, h2, h3⟩
theorem MtM.r {id : String} {rr : V → List V → Hp → VK → Prop} (h : MtR X id rr) : MtR X id rr := h
theorem md_append : MutD X "list.append" gAppend := by
  refine ⟨_, mt_append, ?_⟩
  intro G H a d d' ds vs z Q sg rm rd e h
  unfold gAppend at e
  split at e
  · split at e <;> cases e
    rename_i hz
    obtain ⟨ws, k1, k2⟩ := rm
    cases rd with | cons r1 r2 =>
    cases r2
    exact ⟨a, ws, _, rfl, rfl, k1, by rw [← k2.length]; exact hz, h _ _ ⟨_, upd_same, k2.append (.one r1)⟩ ⟨.non, rfl, .non⟩⟩
  · cases e
theorem md_pop : MutD X "list.pop" gPop := by
  refine ⟨_, mt_pop, ?_⟩
  intro G H a d d' ds vs z Q sg rm rd e h
  unfold gPop at e
  split at e
  · rename_i xs
    cases q : xs[xs.length - 1]? with
    | none => simp [q] at e
    | some y =>
      simp only [q] at e; cases e
      obtain ⟨ws, k1, k2⟩ := rm
      cases rd
      obtain ⟨v, w1, w2⟩ := k2.get q
      have dl : RDs X.K G xs.dropLast ws.dropLast := by
        rw [List.dropLast_eq_take, List.dropLast_eq_take, ← k2.length]; exact k2.take _
      exact ⟨a, ws, v, rfl, rfl, k1, by rw [← k2.length]; exact w1, h _ _ ⟨_, upd_same, dl⟩ ⟨y, rfl, w2⟩⟩
  · cases e
theorem md_popAt : MutD X "list.pop" gPopAt := by
  refine ⟨_, mt_popAt, ?_⟩
  intro G H a d d' ds vs z Q sg rm rd e h
  unfold gPopAt at e
  split at e
  · rename_i xs i
    split at e <;> first | (cases e; done) | skip
    rename_i hi
    cases q : xs[i.toNat]? with
    | none => simp [q] at e
    | some y =>
      simp only [q] at e; cases e
      obtain ⟨ws, k1, k2⟩ := rm
      cases rd with | cons r1 r2 =>
      cases r2; cases r1
      obtain ⟨v, w1, w2⟩ := k2.get q
      have hl := (List.getElem?_eq_some_iff.mp w1).1
      have sx : seqIndex? i ws.length = some i.toNat := seqIndex_of hi.1 (by omega)
      exact ⟨a, ws, i, i.toNat, v, rfl, rfl, k1, by omega, by omega, sx, w1, h _ _ ⟨_, upd_same, k2.eraseIdx _⟩ ⟨y, rfl, w2⟩⟩
  · cases e
theorem md_extend : MutD X "list.extend" gExtend := by
  refine ⟨_, mt_extend, ?_⟩
  intro G H a d d' ds vs z Q sg rm rd e h
  unfold gExtend at e
  split at e
  · split at e <;> cases e
    rename_i hz
    obtain ⟨ws, k1, k2⟩ := rm
    cases rd with | cons r1 r2 =>
    cases r2
    cases r1 with | lst p1 p2 =>
    rw [k2.length, p2.length] at hz
    exact ⟨a, _, ws, _, rfl, rfl, k1, sg _ _ p1, hz, h _ _ ⟨_, upd_same, k2.append p2⟩ ⟨.non, rfl, .non⟩⟩
  · cases e
/-! ### x[k] = v -/
theorem putV_cons {κ : Type} [DecidableEq κ] (p : κ × V) (r : List (κ × V)) (x : κ) (v : V) : putK (p :: r) x v = if p.1 = x then (p.1, v) :: r.map (fun q => if q.1 = x then (q.1, v) else q) else p :: putK r x v := by
  unfold putK
  by_cases e : p.1 = x
  · simp [e]
  · simp only [List.any_cons, decide_eq_false e, Bool.false_or, List.map_cons, if_neg e]
    split <;> simp
theorem putR {κ : Type} [DecidableEq κ] {K : FG} {G : Hp} (x : κ) {d : D} {v : V} (rd : RD K G d v) : ∀ {kvs : List (κ × D)} {ws : List (κ × V)}, ws.map (·.1) = kvs.map (·.1) → RDs K G (kvs.map (·.2)) (ws.map (·.2)) →
    (putK ws x v).map (·.1) = (putD kvs x d).map (·.1) ∧ RDs K G ((putD kvs x d).map (·.2)) ((putK ws x v).map (·.2))
  | [], [], _, _ => ⟨rfl, .one rd⟩
  | [], _ :: _, h, _ => by simp at h
  | _ :: _, [], h, _ => by simp at h
  | (k, e) :: kvs, (k', w) :: ws, h, r => by
    simp only [List.map_cons, List.cons.injEq] at h
    obtain ⟨h1, h2⟩ := h
    subst h1
    cases r with
    | cons r1 r2 =>
      rw [putV_cons]
      unfold putD
      by_cases z : k' = x
      · rw [if_pos z, if_pos z]
        have all : ∀ {kvs : List (κ × D)} {ws : List (κ × V)}, ws.map (·.1) = kvs.map (·.1) → RDs K G (kvs.map (·.2)) (ws.map (·.2)) →
            (ws.map fun q => if q.1 = x then (q.1, v) else q).map (·.1) = (setD kvs x d).map (·.1) ∧ RDs K G ((setD kvs x d).map (·.2)) ((ws.map fun q => if q.1 = x then (q.1, v) else q).map (·.2)) := by
          intro kvs
          induction kvs with
          | nil => intro ws h r; cases ws with | nil => exact ⟨rfl, .nil⟩ | cons _ _ => simp at h
          | cons p kvs ih =>
            intro ws h r
            cases ws with
            | nil => simp at h
            | cons q ws =>
              simp only [List.map_cons, List.cons.injEq] at h
              cases r with
              | cons r1 r2 =>
                obtain ⟨i1, i2⟩ := ih h.2 r2
                unfold setD at i1 i2 ⊢
                simp only [List.map_cons]
                rw [h.1]
                by_cases z2 : p.1 = x
                · rw [if_pos z2, if_pos z2]; exact ⟨by rw [i1], .cons rd i2⟩
                · rw [if_neg z2, if_neg z2]; exact ⟨by rw [i1, h.1], .cons r1 i2⟩
        obtain ⟨i1, i2⟩ := all h2 r2
        simp only [List.map_cons]
        exact ⟨by rw [i1], .cons rd i2⟩
      · rw [if_neg z, if_neg z]
        obtain ⟨i1, i2⟩ := putR x rd h2 r2
        simp only [List.map_cons]
        exact ⟨by rw [i1], .cons r1 i2⟩
def rSetD : V → V → V → Hp → (Hp → Prop) → Prop := fun o i v H Q => ∃ a H', o = .ref a ∧ DPut H a i v H' ∧ Q H'
theorem set_dict (hu : X.A.units + 1 < cLine) : PSet X rSetD := by
  intro pins s σ H o i v ov iv u Q I ro ri rv ⟨a, H', eo, g, q⟩
  subst eo; cases ro
  exact d_setItem hu I g ri rv fun s' I' => ⟨H', I', q⟩
theorem PSet.or {t t' : TSet} (h : PSet X t) (k : PSet X t') : PSet X (fun o i v H Q => t o i v H Q ∨ t' o i v H Q) := by
  intro pins s σ H o i v ov iv u Q I ro ri rv q
  rcases q with q | q
  · exact h pins s σ H o i v ov iv u Q I ro ri rv q
  · exact k pins s σ H o i v ov iv u Q I ro ri rv q
/-- what a store at a key makes of an object -/
theorem gSet_R {K : FG} {Z : Fr0} {σ : L2.St} {G H : Hp} {r : Ev} {i : Nat} {b : Bool} {d d' dk dv : D} {k v : V} {a : Addr} (S : RS K Z G H r σ) (hr : r[i]? = some (.ow b d)) (hs : σ[i]? = some (some (.ref a))) (hk : RH K G H dk k) (hv : RD K G dv v) (e : gSet d dk dv = some d') :
    (∃ xs n j, k = .int n ∧ H a = some (.lst xs) ∧ ixN xs.length n = some j ∧ RM K G (upd H a (.lst (xs.set j v))) a d') ∨
    ∃ H', DPut H a k v H' ∧ ∃ u, H' = upd H a u ∧ RM K G H' a d' := by
  obtain ⟨a', e1, g0, rm, e4⟩ := S.ow i b d hr
  rw [hs] at e1; cases e1
  unfold gSet at e
  split at e
  · rename_i xs n
    obtain ⟨vs, k1, k2⟩ := rm
    cases hk
    cases q : ixI xs.length n with
    | none => simp [q] at e
    | some j =>
      simp only [q] at e; cases e
      exact .inl ⟨vs, n, j, rfl, k1, by rw [← k2.length, ← ixI_eq]; exact q, ⟨_, upd_same, k2.set j hv⟩⟩
  · rename_i kvs
    obtain ⟨ws, k1, k2, k3⟩ := rm
    cases q : keyD dk with
    | none => simp [q] at e
    | some kk =>
      simp only [q] at e
      split at e <;> cases e
      rename_i hz
      have ek : k = kV kk := by
        cases dk <;> first | (cases q; done) | exact keyV hk q
      subst ek
      have hl : ws.length = kvs.length := by simpa using congrArg List.length k2
      obtain ⟨p1, p2⟩ := putR kk hv k2 k3
      exact .inr ⟨_, .k k1 (by rw [hl]; exact hz), _, rfl, ⟨_, upd_same, p1, p2⟩⟩
  · rename_i kvs ks
    obtain ⟨ws, k1, k2, k3⟩ := rm
    cases hk with | tup t1 t2 =>
    cases q : keysD ks with
    | none => simp [q] at e
    | some kk =>
      simp only [q] at e
      split at e <;> cases e
      rename_i hz
      have ek := keysV t2 q
      subst ek
      have hl : ws.length = kvs.length := by simpa using congrArg List.length k2
      obtain ⟨p1, p2⟩ := putR kk hv k2 k3
      exact .inr ⟨_, .t k1 (S.sg _ _ t1) (by rw [hl]; exact hz), _, rfl, ⟨_, upd_same, p1, p2⟩⟩
  · cases e
theorem ds_sub {x : Str} {i : Nat} {k v : Expr} {p pos' : Pos} (hu : X.A.units + 1 < cLine) (ho : PE X (.Name x p) (tVar i)) (hk : DE X W k fk) (hv : DE X W v fv)
    (ha : ∀ v, assign (.Subscript (.Name x p) k pos') X.env v = (do
      let ov ← holding [v] (eval (.Name x p) X.env)
      let iv ← holding [v, ov] (eval k X.env)
      standAt pos'
      holding [v, ov, iv] (setItem ov iv v)
      release [v, ov, iv] []) := by intro _; rfl)
    (hss : swapsWithSole [.Subscript (.Name x p) k pos'] v pos.line X.env = pure false := by rfl) (hw : swappedStores [.Subscript (.Name x p) k pos'] v X.env = pure none := by rfl)
    (h1 : (assignEach [.Subscript (.Name x p) k pos'] X.env).map (·.2) = [assign (.Subscript (.Name x p) k pos') X.env] := by rfl) :
    DS X W (.Assign [.Subscript (.Name x p) k pos'] v pos) (sSub i gSet fk fv) := by
  obtain ⟨tk, pk, qk⟩ := hk.ex
  obtain ⟨tv, pv', qv⟩ := hv.ex
  refine ⟨_, ps_asg pv' (pg_sub ho pk (PSet.or (set_list (X := X)) (set_dict hu)) ha) hss hw h1, fun Z σ G H r D S hp => qv Z σ G H r _ S ?_⟩
  unfold sSub at hp
  cases e1 : fv r with
  | ok o1 r1 =>
    simp only [e1] at hp
    intro v G1 H1 S1 X1 Rv
    split at hp
    · rename_i how
      obtain ⟨b0, d0, e0⟩ := isOw_some how
      obtain ⟨a, w1, _⟩ := S1.ow i b0 d0 e0
      refine ⟨_, w1, qk Z σ G1 H1 r1 _ S1 ?_⟩
      cases e2 : fk r1 with
      | ok o2 r2 =>
        simp only [e2] at hp
        intro k G2 H2 S2 X2 Rk
        cases e3 : fzo r2 o1 with
        | none => simp only [e3] at hp; exact hp.elim
        | some p3 =>
          obtain ⟨dv, r3⟩ := p3
          simp only [e3] at hp
          obtain ⟨G3, S3, rd, z3, k3⟩ := RO.fzo S2 (Rv.keep X2) e3
          cases e4 : rsv r3 o2 with
          | none => simp only [e4] at hp; exact hp.elim
          | some dk =>
            simp only [e4] at hp
            have rhk : RH X.K G3 H2 dk k := by
              rcases k3 _ _ (.inl (Rk.base X1.n)) with R' | ⟨d2, e2', rd2⟩
              · exact R'.rsv S3 e4
              · subst e2'; cases e4; exact rd2.rh S3.sg
            cases e5 : r3[i]? with
            | none => simp only [e5] at hp; exact hp.elim
            | some s =>
              cases s with
              | no => simp only [e5] at hp; exact hp.elim
              | va d => simp only [e5] at hp; exact hp.elim
              | ow b d =>
                simp only [e5] at hp
                cases e6 : gSet d dk dv with
                | none => simp only [e6] at hp; exact hp.elim
                | some d' =>
                  simp only [e6] at hp
                  rcases gSet_R S3 e5 w1 rhk rd e6 with ⟨xs, n, j, q1, q2, q3, q4⟩ | ⟨H4, g, u, q1, q2⟩
                  · exact .inl ⟨a, xs, n, j, rfl, q1, q2, q3, hp σ G3 _ (S3.mutate e5 w1 q4).1⟩
                  · subst q1
                    exact .inr ⟨a, _, rfl, g, hp σ G3 _ (S3.mutate e5 w1 q2).1⟩
      | err c r2 => simp only [e2] at hp; exact fun C G' H' S' _ m => hp C σ G' H' S' m
      | bad => simp only [e2] at hp; exact hp.elim
    · exact hp.elim
  | err c r1 => simp only [e1] at hp; exact fun C G' H' S' _ m => hp C σ G' H' S' m
  | bad => simp only [e1] at hp; exact hp.elim
end
end DL
end

section
set_option Elab.async false
set_option linter.all false
set_option maxRecDepth 100000
set_option autoImplicit false
/-! DL11: what is walked; for, while over data. -/
namespace DL
open PySem PySem.Spec PyProof.Rows L2
/-- a walk gives the rows of ds -/
def ItR (K : FG) (Z : Fr0) (Gs : Hp) (J : L2.It) (ds : List D) : Prop := ∀ (i : Nat) (σ : L2.St) (r : Ev) (G H : Hp), RS K Z G H r σ → Same Gs G →
  (ds.length ≤ i → J.stop i H) ∧ ∀ d, ds[i]? = some d → J.go i H ∧ ∀ x H', J.yld i H x H' → ∃ G', RS K Z G' H' r σ ∧ EX σ G H r G' H' r ∧ RD K G' d x
def IPost (X : Cx) (W : WX) (Z : Fr0) (σ : L2.St) (G H : Hp) (r : Ev) (R : L2.It → Hp → Prop) : IOut → Prop
  | .ok ds r' => ∀ J G' H', RS X.K Z G' H' r' σ → EX σ G H r G' H' r' → (∀ Z' : Fr0, ItR X.K Z' G' J ds) → R J H'
  | .err c r' => ∀ C G' H', RS X.K Z G' H' r' σ → EX σ G H r G' H' r' → X.mg c = some (.ref C) → W (.ref C) none σ H'
  | .bad => False
structure DI (X : Cx) (W : WX) (tg iter : Expr) (f : I) : Prop where
  ex : ∃ w : L2.TI, PI X tg iter w ∧ ∀ (Z : Fr0) (σ : L2.St) (G H : Hp) (r : Ev) (R : L2.It → Hp → Prop), RS X.K Z G H r σ → IPost X W Z σ G H r R (f r) → w σ H R
theorem PI.or {X : Cx} {tg it : Expr} {w w' : L2.TI} (h : PI X tg it w) (k : PI X tg it w') : PI X tg it (fun σ H R => w σ H R ∨ w' σ H R) :=
  ⟨fun pins s σ H R I q => q.elim (h.run pins s σ H R I) (k.run pins s σ H R I)⟩
section
variable {K : FG} {Z : Fr0} {G : Hp}
theorem itr_list {a : Addr} {vs : List V} {ds : List D} (h : SqL K G a vs) (rd : RDs K G ds vs) : ItR K Z G (Itl K a) ds := by
  intro i σ r G1 H S sm
  have hq : SqL K H a vs := S.sg.seq (sm.seq h)
  refine ⟨fun hl => ⟨vs, hq, by rw [← rd.length]; exact hl⟩, fun d hd => ?_⟩
  obtain ⟨v, e1, e2⟩ := rd.get hd
  refine ⟨⟨vs, v, hq, e1⟩, fun x H' ⟨e, y⟩ => ?_⟩
  subst e
  have ex := y vs hq
  rw [e1] at ex; cases ex
  exact ⟨G1, S, .refl, e2.mono sm⟩
theorem itr_tup {a : Addr} {vs : List V} {ds : List D} (h : SqT K G a vs) (rd : RDs K G ds vs) : ItR K Z G (Itt K a) ds := by
  intro i σ r G1 H S sm
  have hq : SqT K H a vs := Same.seqT S.sg (Same.seqT sm h)
  refine ⟨fun hl => ⟨vs, hq, by rw [← rd.length]; exact hl⟩, fun d hd => ?_⟩
  obtain ⟨v, e1, e2⟩ := rd.get hd
  refine ⟨⟨vs, v, hq, e1⟩, fun x H' ⟨e, y⟩ => ?_⟩
  subst e
  have ex := y vs hq
  rw [e1] at ex; cases ex
  exact ⟨G1, S, .refl, e2.mono sm⟩
theorem upFrom_len : ∀ (n : Nat) (lo : Int), (upFrom lo n).length = n
  | 0, _ => rfl
  | n + 1, lo => congrArg (· + 1) (upFrom_len n (lo + 1))
theorem upFrom_get : ∀ (n : Nat) (lo : Int) (i : Nat) (d : D), (upFrom lo n)[i]? = some d → i < n ∧ d = .int (lo + i)
  | 0, _, _, _, h => by simp [upFrom] at h
  | n + 1, lo, 0, d, h => by
    have e : some (D.int lo) = some d := h
    cases e; exact ⟨by omega, by simp⟩
  | n + 1, lo, i + 1, d, h => by
    have h' : (upFrom (lo + 1) n)[i]? = some d := h
    obtain ⟨a, b⟩ := upFrom_get n (lo + 1) i d h'
    exact ⟨by omega, by rw [b]; congr 1; omega⟩
theorem itr_range {lo : Int} {n : Nat} : ItR K Z G (Itr lo n) (upFrom lo n) := by
  intro i σ r G1 H S sm
  refine ⟨fun hl => by rw [upFrom_len] at hl; exact hl, fun d hd => ?_⟩
  obtain ⟨a, b⟩ := upFrom_get n lo i d hd
  subst b
  refine ⟨a, fun x H' ⟨e, y⟩ => ?_⟩
  subst e y
  exact ⟨G1, S, .refl, .int _⟩
end
section
variable {X : Cx} {W : WX} {tg a b e : Expr} {fa fb : E} {pos : Pos}
theorem di_seq (h : DE X W e fa) : DI X W tg e (iSeq fa) := by
  obtain ⟨t, p, q⟩ := h.ex
  refine ⟨_, PI.or (pi_list p) (pi_tup p), fun Z σ G H r R S hp => ?_⟩
  unfold iSeq at hp
  cases e1 : fa r with
  | ok o r1 =>
    simp only [e1] at hp
    cases e2 : fzo r1 o with
    | none => simp only [e2] at hp; exact hp.elim
    | some p2 =>
      obtain ⟨d, r2⟩ := p2
      simp only [e2] at hp
      cases d <;> first | (exact hp.elim) | skip
      · refine .inr (q Z σ G H r _ S ?_)
        rw [e1]
        intro v G1 H1 S1 X1 R1
        obtain ⟨G2, S2, rd, z2, _⟩ := RO.fzo S1 R1 e2
        cases rd with | tup h1 h2 =>
        exact ⟨_, rfl, ⟨_, .inl (.inl (S2.sg _ _ h1))⟩, hp _ G2 H1 S2 (z2.ex X1) fun Z' => itr_tup (.inl (.inl h1)) h2⟩
      · refine .inl (q Z σ G H r _ S ?_)
        rw [e1]
        intro v G1 H1 S1 X1 R1
        obtain ⟨G2, S2, rd, z2, _⟩ := RO.fzo S1 R1 e2
        cases rd with | lst h1 h2 =>
        exact ⟨_, rfl, ⟨_, .of (S2.sg _ _ h1)⟩, hp _ G2 H1 S2 (z2.ex X1) fun Z' => itr_list (.of h1) h2⟩
      · refine .inr (q Z σ G H r _ S ?_)
        rw [e1]
        intro v G1 H1 S1 X1 R1
        obtain ⟨G2, S2, rd, z2, _⟩ := RO.fzo S1 R1 e2
        cases rd with | ktp h1 h2 =>
        exact ⟨_, rfl, ⟨_, Same.seqT S2.sg h1⟩, hp _ G2 H1 S2 (z2.ex X1) fun Z' => itr_tup h1 h2⟩
      · refine .inl (q Z σ G H r _ S ?_)
        rw [e1]
        intro v G1 H1 S1 X1 R1
        obtain ⟨G2, S2, rd, z2, _⟩ := RO.fzo S1 R1 e2
        cases rd with | kls h1 h2 =>
        exact ⟨_, rfl, ⟨_, S2.sg.seq h1⟩, hp _ G2 H1 S2 (z2.ex X1) fun Z' => itr_list h1 h2⟩
  | err c r1 =>
    simp only [e1] at hp
    refine .inl (q Z σ G H r _ S ?_)
    rw [e1]; exact hp
  | bad => simp only [e1] at hp; exact hp.elim
theorem di_rng1 {p : Pos} (hg : Gl X "range") (hm : X.mg "range" = none) (ha : DE X W a fa) (hs : starEach [a] X.env = [(false, eval a X.env)] := by rfl) : DI X W tg (.Call (.Name "range" p) [a] [] pos) (iRng1 fa) := by
  obtain ⟨t, pt, q⟩ := ha.ex
  refine ⟨_, pi_range1 hg hm (pa_cons pt pa_nil hs) hs, fun Z σ G H r R S hp => q Z σ G H r _ S ?_⟩
  unfold DL.iRng1 at hp
  cases e1 : fa r with
  | ok o r1 =>
    simp only [e1] at hp
    cases o <;> first | (exact hp.elim) | skip
    rename_i d
    cases d <;> first | (exact hp.elim) | skip
    rename_i j
    intro v G1 H1 S1 X1 R1
    cases R1
    dsimp only at hp
    split at hp
    · rename_i hj
      exact ⟨j, rfl, hj.1, hj.2, hp _ G1 H1 S1 X1 fun Z' => itr_range⟩
    · exact hp.elim
  | err c r1 => simp only [e1] at hp; exact hp
  | bad => simp only [e1] at hp; exact hp.elim
theorem di_rng2 {p : Pos} (hg : Gl X "range") (hm : X.mg "range" = none) (ha : DE X W a fa) (hb : DE X W b fb) (hs : starEach [a, b] X.env = [(false, eval a X.env), (false, eval b X.env)] := by rfl) (hs2 : starEach [b] X.env = [(false, eval b X.env)] := by rfl) : DI X W tg (.Call (.Name "range" p) [a, b] [] pos) (iRng2 fa fb) := by
  obtain ⟨t, pt, q⟩ := ha.ex
  obtain ⟨t2, pt2, q2⟩ := hb.ex
  refine ⟨_, pi_range2 hg hm (pa_cons pt (pa_cons pt2 pa_nil hs2) (by rw [hs, hs2])) hs hs2, fun Z σ G H r R S hp => q Z σ G H r _ S ?_⟩
  unfold DL.iRng2 at hp
  cases e1 : fa r with
  | ok o r1 =>
    simp only [e1] at hp
    cases o <;> first | (exact hp.elim) | skip
    rename_i d
    cases d <;> first | (exact hp.elim) | skip
    rename_i i
    intro v G1 H1 S1 X1 R1
    cases R1
    dsimp only at hp
    refine q2 Z σ G1 H1 r1 _ S1 ?_
    cases e2 : fb r1 with
    | ok o2 r2 =>
      simp only [e2] at hp
      cases o2 <;> first | (exact hp.elim) | skip
      rename_i d
      cases d <;> first | (exact hp.elim) | skip
      rename_i j
      intro v2 G2 H2 S2 X2 R2
      cases R2
      dsimp only at hp
      split at hp
      · rename_i hj
        exact ⟨i, j, rfl, ⟨hj.1.1, hj.1.2, hj.2.1, hj.2.2⟩, hp _ G2 H2 S2 (X1.trans X2) fun Z' => itr_range⟩
      · exact hp.elim
    | err c r2 => simp only [e2] at hp; exact fun C G' H' S' x m => hp C G' H' S' (X1.trans x) m
    | bad => simp only [e2] at hp; exact hp.elim
  | err c r1 => simp only [e1] at hp; exact hp
  | bad => simp only [e1] at hp; exact hp.elim
end
/-! ### the entry seen anew at a loop's start -/
section
variable {X : Cx} {W : WX} {Z : Fr0} {Gs : Hp}
abbrev Fr0.at (Z : Fr0) (Gs : Hp) : Fr0 := ⟨Gs, Z.H0, Z.io⟩
theorem RS.fwd {K : FG} {G H : Hp} {r : Ev} {σ : L2.St} (sm : Same Z.G0 Gs) (S : RS K Z G H r σ) (g : Same Gs G) : RS K (Z.at Gs) G H r σ :=
  ⟨S.len, S.sg, g, S.h0, S.dm, fun a o h => (S.fr a o h).elim (fun k => .inl (sm a o k)) .inr, S.va, S.ow, S.inj⟩
theorem RS.bwd {K : FG} {G H : Hp} {r : Ev} {σ : L2.St} (sm : Same Z.G0 Gs) (fr : ∀ a o, Gs a = some o → Z.G0 a = some o ∨ nw Z.H0 a o ∨ a ∈ Z.io) (S : RS K (Z.at Gs) G H r σ) : RS K Z G H r σ :=
  ⟨S.len, S.sg, sm.trans S.g0, S.h0, S.dm, fun a o h => (S.fr a o h).elim (fr a o) .inr, S.va, S.ow, S.inj⟩
theorem RetR.bwd {K : FG} {G H : Hp} {r : Ev} {σ : L2.St} : ∀ {o : Op} {v : V}, RetR K (Z.at Gs) σ G H r o v → RetR K Z σ G H r o v
  | .fz _, _, h => h
  | .tm _, _, h => h
  | .br _, _, h => h
theorem SPost.at {D : Ends} (sm : Same Z.G0 Gs) (fr : ∀ a o, Gs a = some o → Z.G0 a = some o ∨ nw Z.H0 a o ∨ a ∈ Z.io) : ∀ {s : SOut}, SPost X W Z D s → SPost X W (Z.at Gs) D s
  | .nx _, h => fun σ G H S => h σ G H (S.bwd sm fr)
  | .brk _, h => fun σ G H S => h σ G H (S.bwd sm fr)
  | .cnt _, h => fun σ G H S => h σ G H (S.bwd sm fr)
  | .ret _ _, h => fun v σ G H S k => h v σ G H (S.bwd sm fr) k.bwd
  | .err _ _, h => fun C σ G H S m => h C σ G H (S.bwd sm fr) m
  | .bad, h => h
end
section
variable {X : Cx} {W : WX} {tg iter : Expr} {body : List Stmt} {t : Tg} {fi : I} {fb : S} {pos : Pos}
theorem ds_for (hp : PassesOwn (model X.prog X.w) X.A X.env X.xe) (hc : X.calm = true) (hi : DI X W tg iter fi) (hg : DG X tg t) (hb : DB X W body fb) (hs : ∀ x, foldedSetIterable iter X.env x = pure x := by intro _; rfl) : DS X W (.For tg iter body [] pos) (sFor t fi fb) := by
  obtain ⟨wi, p1, q1⟩ := hi.ex
  obtain ⟨g, p2, q2⟩ := hg.ex
  obtain ⟨tb, p3, q3⟩ := hb.ex
  refine ⟨_, ps_for hp hc p1 p2 p3 hs, fun Z σ G H r D S hp => q1 Z σ G H r _ S ?_⟩
  unfold sFor at hp
  cases e1 : fi r with
  | ok ds r1 =>
    simp only [e1] at hp
    intro J G1 H1 S1 X1 it
    have hp1 : SPost X W (Z.at G1) D (forGo t fb ds r1) := hp.at S1.g0 S1.fr
    have it1 := it (Z.at G1)
    refine ⟨fun i m σ H => i + m = ds.length ∧ ∃ G r, RS X.K (Z.at G1) G H r σ ∧ SPost X W (Z.at G1) D (forGo t fb (ds.drop i) r), ⟨ds.length, by omega, G1, r1, S1.fwd S1.g0 (Same.refl _), by simpa using hp1⟩, fun i m σ H hW => ?_⟩
    obtain ⟨hm, G, r, S, p⟩ := hW
    obtain ⟨j1, j2⟩ := it1 i σ r G H S S.g0
    cases hd : ds[i]? with
    | none =>
      have hl : ds.length ≤ i := List.getElem?_eq_none_iff.mp hd
      refine .inl ⟨j1 hl, ?_⟩
      rw [List.drop_eq_nil_of_le hl] at p
      exact p σ G H S
    | some d =>
      obtain ⟨k1, k2⟩ := j2 d hd
      have hil : i < ds.length := (List.getElem?_eq_some_iff.mp hd).1
      have hdr : ds.drop i = d :: ds.drop (i + 1) := by
        rw [List.drop_eq_getElem_cons hil, (List.getElem?_eq_some_iff.mp hd).2]
      rw [hdr] at p
      unfold forGo at p
      refine .inr ⟨k1, fun σ' H' => ∃ G' r', RS X.K (Z.at G1) G' H' r' σ' ∧ SPost X W (Z.at G1) D (forGo t fb (ds.drop (i + 1)) r'), fun σ' H' ⟨G', r', S', p'⟩ => ⟨m - 1, by omega, by omega, G', r', S', p'⟩, fun x H' y => ?_⟩
      obtain ⟨G2, S2, X2, rd⟩ := k2 x H' y
      cases e2 : t.put d r with
      | none => simp only [e2] at p; exact p.elim
      | some r2 =>
        simp only [e2] at p
        refine q2 (Z.at G1) σ G2 H' r r2 d x _ S2 rd e2 fun σ3 S3 _ => q3 (Z.at G1) σ3 G2 H' r2 _ S3 ?_
        cases e3 : fb r2 with
        | nx r3 => simp only [e3] at p; exact fun σ4 G4 H4 S4 => ⟨G4, r3, S4, p⟩
        | cnt r3 => simp only [e3] at p; exact fun σ4 G4 H4 S4 => ⟨G4, r3, S4, p⟩
        | brk r3 => simp only [e3] at p; exact p
        | ret o r3 => simp only [e3] at p; exact p
        | err c r3 => simp only [e3] at p; exact p
        | bad => simp only [e3] at p; exact p.elim
  | err c r1 => simp only [e1] at hp; exact fun C G' H' S' _ m => hp C σ G' H' S' m
  | bad => simp only [e1] at hp; exact hp.elim
theorem ds_while {c : Expr} {fc : T} (hp : PassesOwn (model X.prog X.w) X.A X.env X.xe) (hc : DT X W c fc) (hb : DB X W body fb) : DS X W (.While c body [] pos) (sWhile fc fb) := by
  obtain ⟨tc, p2, q2⟩ := hc.ex
  obtain ⟨tb, p3, q3⟩ := hb.ex
  refine ⟨_, ps_while hp p2 p3, fun Z σ G H r D S hp => ?_⟩
  unfold sWhile at hp
  split at hp
  · rename_i ex
    refine ⟨fun m σ H => ∃ G r, RS X.K Z G H r σ ∧ SPost X W Z D (whN fc fb m r), ⟨_, G, r, S, hp⟩, fun m σ H hW => ?_⟩
    obtain ⟨G, r, S, p⟩ := hW
    cases m with
    | zero => exact p.elim
    | succ m =>
      unfold whN at p
      refine q2 Z σ G H r _ S ?_
      cases e1 : fc r with
      | ok k r1 =>
        cases k with
        | true =>
          simp only [e1] at p
          intro G1 H1 S1 X1
          refine iteT ⟨fun σ' H' => ∃ G' r', RS X.K Z G' H' r' σ' ∧ SPost X W Z D (whN fc fb m r'), fun σ' H' ⟨G', r', S', p'⟩ => ⟨m, Nat.lt_succ_self _, G', r', S', p'⟩, q3 Z σ G1 H1 r1 _ S1 ?_⟩
          cases e3 : fb r1 with
          | nx r3 => simp only [e3] at p; exact fun σ4 G4 H4 S4 => ⟨G4, r3, S4, p⟩
          | cnt r3 => simp only [e3] at p; exact fun σ4 G4 H4 S4 => ⟨G4, r3, S4, p⟩
          | brk r3 => simp only [e3] at p; exact p
          | ret o r3 => simp only [e3] at p; exact p
          | err c r3 => simp only [e3] at p; exact p
          | bad => simp only [e3] at p; exact p.elim
        | false => simp only [e1] at p; exact fun G1 H1 S1 X1 => iteF (p σ G1 H1 S1)
      | err c r1 => simp only [e1] at p; exact fun C G' H' S' _ m => p C σ G' H' S' m
      | bad => simp only [e1] at p; exact p.elim
  · exact hp.elim
end
end DL
end

section
set_option Elab.async false
set_option linter.all false
set_option maxRecDepth 100000
set_option autoImplicit false
/-! DL12: a def of the text keeps its promise over data. -/
namespace DL
open PySem PySem.Spec PyProof.Rows L2
section
variable {K : FG} {G H : Hp}
theorem argSl_len : ∀ {m : List Bool} {ds : List D}, ds.length = m.length → (argSl m ds).length = m.length
  | [], [], _ => rfl
  | false :: m, _ :: ds, h => congrArg (· + 1) (argSl_len (m := m) (by simpa using h))
  | true :: m, _ :: ds, h => congrArg (· + 1) (argSl_len (m := m) (by simpa using h))
  | [], _ :: _, h => by simp at h
  | _ :: _, [], h => by simp at h
theorem ArgsR.va_at : ∀ {m : List Bool} {ds : List D} {vs : List V}, ArgsR K G H m ds vs → ∀ (i : Nat) (d : D), (argSl m ds)[i]? = some (.va d) → ∃ v, vs[i]? = some v ∧ RD K G d v
  | _, _, _, .nil, i, d, h => by simp [argSl] at h
  | _, _, _, .va a t, 0, d, h => by
    have h' := Option.some.inj h
    cases h'; exact ⟨_, rfl, a⟩
  | _, _, _, .va a t, i + 1, d, h => ArgsR.va_at t i d h
  | _, _, _, .io a b t, 0, d, h => by cases (Option.some.inj h)
  | _, _, _, .io a b t, i + 1, d, h => ArgsR.va_at t i d h
theorem ArgsR.ow_at : ∀ {m : List Bool} {ds : List D} {vs : List V}, ArgsR K G H m ds vs → ∀ (i : Nat) (b : Bool) (d : D), (argSl m ds)[i]? = some (.ow b d) → b = true ∧ ∃ a, vs[i]? = some (.ref a) ∧ G a = none ∧ RM K G H a d ∧ a ∈ ioA m vs
  | _, _, _, .nil, i, b, d, h => by simp [argSl] at h
  | _, _, _, .va a t, 0, b, d, h => by cases (Option.some.inj h)
  | _, _, _, .va a t, i + 1, b, d, h => by
    obtain ⟨e, p, h1, h2, h3, h4⟩ := ArgsR.ow_at t i b d h
    exact ⟨e, p, h1, h2, h3, by unfold ioA; exact h4⟩
  | _, _, _, .io a b t, 0, _, d, h => by
    have h' := Option.some.inj h
    cases h'; exact ⟨rfl, _, rfl, a, b, by unfold ioA; exact List.mem_cons_self⟩
  | _, _, _, .io a b t, i + 1, _, d, h => by
    obtain ⟨e, p, h1, h2, h3, h4⟩ := ArgsR.ow_at t i _ d h
    exact ⟨e, p, h1, h2, h3, by unfold ioA; exact List.mem_cons_of_mem _ h4⟩
theorem ArgsR.inj_at : ∀ {m : List Bool} {ds : List D} {vs : List V}, ArgsR K G H m ds vs → (ioA m vs).Nodup → ∀ (i j : Nat) (a : Addr), isOw (argSl m ds)[i]? = true → isOw (argSl m ds)[j]? = true → vs[i]? = some (V.ref a) → vs[j]? = some (V.ref a) → i = j
  | _, _, _, .nil, _, i, j, a, h, _, _, _ => by simp [argSl, isOw] at h
  | _, _, _, .va _ t, _, 0, _, _, h, _, _, _ => by cases h
  | _, _, _, .va _ t, _, _, 0, _, _, h, _, _ => by cases h
  | _, _, _, .va _ t, nd, i + 1, j + 1, a, h1, h2, h3, h4 => congrArg (· + 1) (ArgsR.inj_at t (by unfold ioA at nd; exact nd) i j a h1 h2 h3 h4)
  | _, _, _, .io _ _ t, _, 0, 0, _, _, _, _, _ => rfl
  | _, _, _, .io (a := p) _ _ t, nd, 0, j + 1, a, _, h2, h3, h4 => by
    have e : p = a := V.ref.inj (Option.some.inj h3)
    subst e
    obtain ⟨b, d, k⟩ := isOw_some h2
    obtain ⟨_, a', w1, _, _, w4⟩ := ArgsR.ow_at t j b d k
    have h4' : _ = some (V.ref p) := h4
    simp only [List.getElem?_cons_succ] at h4'
    rw [w1] at h4'; cases h4'
    unfold ioA at nd
    exact absurd w4 (List.nodup_cons.mp nd).1
  | _, _, _, .io (a := p) _ _ t, nd, i + 1, 0, a, h1, _, h3, h4 => by
    have e : p = a := V.ref.inj (Option.some.inj h4)
    subst e
    obtain ⟨b, d, k⟩ := isOw_some h1
    obtain ⟨_, a', w1, _, _, w4⟩ := ArgsR.ow_at t i b d k
    have h3' : _ = some (V.ref p) := h3
    simp only [List.getElem?_cons_succ] at h3'
    rw [w1] at h3'; cases h3'
    unfold ioA at nd
    exact absurd w4 (List.nodup_cons.mp nd).1
  | _, _, _, .io _ _ t, nd, i + 1, j + 1, a, h1, h2, h3, h4 => congrArg (· + 1) (ArgsR.inj_at t (by unfold ioA at nd; exact (List.nodup_cons.mp nd).2) i j a h1 h2 h3 h4)
theorem ArgsR.ia_le : ∀ {m : List Bool} {ds : List D} {vs : List V}, ArgsR K G H m ds vs → (ioA m vs).length = m.count true
  | _, _, _, .nil => rfl
  | _, _, _, .va _ t => by unfold ioA; rw [ArgsR.ia_le t]; simp
  | _, _, _, .io _ _ t => by unfold ioA; rw [List.length_cons, ArgsR.ia_le t]; simp
/-- a def's state at its entry -/
theorem RS.entry {N : List Str} {m : List Bool} {ds : List D} {vs : List V} (sg : Same G H) (a : ArgsR K G H m ds vs) (nd : (ioA m vs).Nodup) (hl : m.length ≤ N.length) :
    RS K ⟨G, H, ioA m vs⟩ G H (argSl m ds ++ List.replicate (N.length - m.length) .no) (L2.start N vs) := by
  obtain ⟨l1, l2⟩ := a.length
  have la := argSl_len l2
  have atL : ∀ {i : Nat} {s : Sl}, (argSl m ds ++ List.replicate (N.length - m.length) .no)[i]? = some s → s ≠ .no → (argSl m ds)[i]? = some s ∧ (L2.start N vs)[i]? = (vs.map some)[i]? := fun {i s} h n => by
    by_cases hi : i < (argSl m ds).length
    · rw [List.getElem?_append_left hi] at h
      refine ⟨h, ?_⟩
      unfold L2.start
      exact List.getElem?_append_left (by rw [List.length_map, l1, ← la]; exact hi)
    · rw [List.getElem?_append_right (by omega)] at h
      exfalso
      obtain ⟨_, e⟩ := List.getElem?_eq_some_iff.mp h
      rw [List.getElem_replicate] at e
      exact n e.symm
  have atV : ∀ {i : Nat} {v : V}, vs[i]? = some v → (vs.map some)[i]? = some (some v) := fun {i v} h => by rw [List.getElem?_map, h]; rfl
  have ofV : ∀ {i : Nat} {v : V}, (vs.map some)[i]? = some (some v) → vs[i]? = some v := fun {i v} h => by
    rw [List.getElem?_map] at h
    cases q : vs[i]? with
    | none => rw [q] at h; cases h
    | some w => rw [q] at h; cases h; rfl
  refine ⟨by unfold L2.start; simp [la, l1], sg, Same.refl _, fun _ _ h _ => h, fun _ h => h, fun _ _ h => .inl h, fun i d h => ?_, fun i b d h => ?_, fun i j p hi hj e1 e2 => ?_⟩
  · obtain ⟨h1, h2⟩ := atL h (by intro z; cases z)
    obtain ⟨v, w1, w2⟩ := a.va_at i d h1
    exact ⟨v, by rw [h2]; exact atV w1, w2⟩
  · obtain ⟨h1, h2⟩ := atL h (by intro z; cases z)
    obtain ⟨eb, p, w1, w2, w3, w4⟩ := a.ow_at i b d h1
    subst eb
    exact ⟨p, by rw [h2]; exact atV w1, w2, w3, w4⟩
  · obtain ⟨b, d, k1⟩ := isOw_some hi
    obtain ⟨b', d', k2⟩ := isOw_some hj
    obtain ⟨h1, h2⟩ := atL k1 (by intro z; cases z)
    obtain ⟨h3, h4⟩ := atL k2 (by intro z; cases z)
    rw [h2] at e1
    rw [h4] at e2
    exact a.inj_at nd i j p (by rw [h1]; rfl) (by rw [h3]; rfl) (ofV e1) (ofV e2)
/-- what the changed parameters hold at the end -/
theorem iosAt_R {Z : Fr0} {σ : L2.St} {r : Ev} (S : RS K Z G H r σ) : ∀ {m : List Bool} {k : Nat} {ios : List D} {ia : List Addr}, iosAt m k r = some ios → ia.length = m.count true → (∀ a ∈ Z.io, a ∈ ia) → ia.length ≤ 1 → IosR K G H ia ios
  | [], _, ios, ia, h, hl, _, _ => by
    cases h
    cases ia with
    | nil => exact .nil
    | cons _ _ => simp at hl
  | false :: m, k, ios, ia, h, hl, hz, h1 => by
    unfold iosAt at h
    exact iosAt_R S (m := m) h (by simpa using hl) hz h1
  | true :: m, k, ios, ia, h, hl, hz, h1 => by
    unfold iosAt at h
    cases q : r[k]? with
    | none => simp [q] at h
    | some s =>
      cases s with
      | no => simp [q] at h
      | va d => simp [q] at h
      | ow b d =>
        cases b with
        | false => simp [q] at h
        | true =>
          cases q2 : iosAt m (k + 1) r with
          | none => simp [q, q2] at h
          | some ds =>
            simp only [q, q2] at h; cases h
            obtain ⟨a, w1, w2, w3, w4⟩ := S.ow k true d q
            have w4' : a ∈ Z.io := w4
            have ha := hz a w4'
            cases ia with
            | nil => cases ha
            | cons p ps =>
              cases ps with
              | cons _ _ => simp at h1
              | nil =>
                have e : a = p := by simpa using ha
                subst e
                have hc : m.count true = 0 := by simpa using hl.symm
                refine .cons w2 w3 ?_
                have no : ∀ {m : List Bool} {k : Nat} {ds : List D}, m.count true = 0 → iosAt m k r = some ds → ds = [] := by
                  intro m
                  induction m with
                  | nil => intro k ds _ h; cases h; rfl
                  | cons b m ih =>
                    intro k ds hc h
                    cases b with
                    | true => simp at hc
                    | false => unfold iosAt at h; exact ih (by simpa using hc) h
                rw [no hc q2]
                exact .nil
end
section
variable {P : Program} {w : World} {K : PySem.W.Frag} {mg : Str → Option Value} {base : Heap}
/-- what an exception that leaves a def is wished to do -/
abbrev wE (E : XK) : WX := fun cls d _ H => E cls d H
theorem fn_ok {x qual : Str} {st : Stmt} {f : Addr} {fd : FuncData} {N ps : List Str} {k : Nat} {m : List Bool} {fb : S} (F : Fun K x qual st f fd) (Sc : FnScope N ps (defScope st)) (hm : m.length = ps.length) (hc : m.count true ≤ 1) (hN : ps.length ≤ N.length)
    (hb : ∀ (cdv : Value) (A : Around) (outer : List Env) (s : Shared) (H : Hp) (E : XK), Room k (A.deeper (envOfC qual (defScope st) s.heap.objs.size f cdv)) →
      DB (cxOf (L2.CX P w) P w K mg base N qual (defScope st) f cdv A outer s H E) (wE E) (defBody st) fb) :
    FnOk P w K mg base (L2.CX P w) (k + 1) f fd ps (spD mg K m (fnD N.length m fb)) := by
  refine Fun.okX F Sc (fun vs H Q E ⟨G, ds, _, a, _⟩ => by rw [a.length.1]; exact hm) fun cdv A outer s H vs Q E hr ⟨G, ds, sg, a, nd, post⟩ => ?_
  obtain ⟨t, p, q⟩ := (hb cdv A outer s H E hr).ex
  refine ⟨t, p, q ⟨G, H, ioA m vs⟩ (L2.start N vs) G H _ _ (RS.entry sg a nd (by rw [hm]; exact hN)) ?_⟩
  unfold fnD at post
  rw [if_pos a.length.2] at post
  have ce : ∀ {G' H' : Hp} {r : Ev} {σ : L2.St}, RS K ⟨G, H, ioA m vs⟩ G' H' r σ → CE (ioA m vs) G H G' H' := fun S => ⟨S.g0, S.sg, S.h0, S.dm, S.fr⟩
  have il := a.ia_le
  have i1 : (ioA m vs).length ≤ 1 := by rw [il]; exact hc
  cases e1 : fb (argSl m ds ++ List.replicate (N.length - m.length) .no) with
  | ret o r =>
    simp only [e1] at post
    cases e2 : iosAt m 0 r with
    | none => simp only [e2] at post; exact post.elim
    | some ios =>
      simp only [e2] at post
      intro v σ G' H' S R
      refine post v G' H' (ce S) (iosAt_R S e2 il (fun _ h => h) i1) ?_
      cases o with
      | fz d => exact R
      | br i => exact R.elim
      | tm d => obtain ⟨b, eb, g0, h0, _, rm⟩ := R; exact ⟨b, eb, g0, h0, rm⟩
  | nx r =>
    simp only [e1] at post
    cases e2 : iosAt m 0 r with
    | none => simp only [e2] at post; exact post.elim
    | some ios =>
      simp only [e2] at post
      intro σ G' H' S
      exact post .non G' H' (ce S) (iosAt_R S e2 il (fun _ h => h) i1) .non
  | err c r =>
    simp only [e1] at post
    cases e2 : iosAt m 0 r with
    | none => simp only [e2] at post; exact post.elim
    | some ios =>
      simp only [e2] at post
      intro C σ G' H' S m'
      exact post C G' H' (ce S) (iosAt_R S e2 il (fun _ h => h) i1) m'
  | brk r => simp only [e1] at post; exact post.elim
  | cnt r => simp only [e1] at post; exact post.elim
  | bad => simp only [e1] at post; exact post.elim
end
end DL
end

section
set_option Elab.async false
set_option linter.all false
set_option maxRecDepth 100000
set_option autoImplicit false
/-! DL13: comprehensions over data. -/
namespace DL
open PySem PySem.Spec PyProof.Rows L2
abbrev W0 : WX := fun _ _ _ _ => False
section
variable {K : FG} {Z : Fr0} {σ σ' : L2.St} {G H : Hp} {r : Ev}
theorem wipeE_len : ∀ vs : List Nat, (wipeE r vs).length = r.length
  | [] => rfl
  | v :: vs => by unfold wipeE; rw [List.length_set, wipeE_len vs]
theorem wipeE_out {i : Nat} : ∀ {vs : List Nat}, i ∉ vs → (wipeE r vs)[i]? = r[i]?
  | [], _ => rfl
  | v :: vs, h => by
    rw [List.mem_cons, not_or] at h
    unfold wipeE
    rw [List.getElem?_set_ne fun z => h.1 z.symm]
    exact wipeE_out h.2
theorem wipeE_in {i : Nat} {s : Sl} : ∀ {vs : List Nat}, i ∈ vs → (wipeE r vs)[i]? = some s → s = .no
  | [], h, _ => by cases h
  | v :: vs, h, e => by
    unfold wipeE at e
    by_cases hv : v = i
    · subst hv
      by_cases hl : v < (wipeE r vs).length
      · rw [List.getElem?_set_self hl] at e; cases e; rfl
      · rw [List.getElem?_eq_none (by simpa using hl)] at e; cases e
    · rw [List.getElem?_set_ne hv] at e
      exact wipeE_in ((List.mem_cons.mp h).resolve_left fun z => hv z.symm) e
theorem backE_len {r0 : Ev} : ∀ vs : List Nat, (backE r0 r vs).length = r.length
  | [] => rfl
  | v :: vs => by unfold backE; rw [List.length_set, backE_len vs]
theorem backE_out {r0 : Ev} {i : Nat} : ∀ {vs : List Nat}, i ∉ vs → (backE r0 r vs)[i]? = r[i]?
  | [], _ => rfl
  | v :: vs, h => by
    rw [List.mem_cons, not_or] at h
    unfold backE
    rw [List.getElem?_set_ne fun z => h.1 z.symm]
    exact backE_out h.2
theorem backE_in {r0 : Ev} {i : Nat} {s : Sl} : ∀ {vs : List Nat}, i ∈ vs → (backE r0 r vs)[i]? = some s → s = r0.getD i .no
  | [], h, _ => by cases h
  | v :: vs, h, e => by
    unfold backE at e
    by_cases hv : v = i
    · subst hv
      by_cases hl : v < (backE r0 r vs).length
      · rw [List.getElem?_set_self hl] at e; cases e; rfl
      · rw [List.getElem?_eq_none (by simpa using hl)] at e; cases e
    · rw [List.getElem?_set_ne hv] at e
      exact backE_in ((List.mem_cons.mp h).resolve_left fun z => hv z.symm) e
theorem wipe_ext {vs : List Nat} (hl : σ'.length = σ.length) (h : ∀ i, i ∉ vs → σ'[i]? = σ[i]?) : wipe σ' vs = wipe σ vs := by
  apply List.ext_getElem?
  intro i
  by_cases hi : i ∈ vs
  · have key : ∀ {τ : L2.St} {vs : List Nat}, i ∈ vs → (wipe τ vs)[i]? = if i < τ.length then some none else none := by
      intro τ vs
      induction vs with
      | nil => intro h; cases h
      | cons v vs ih =>
        intro h
        unfold wipe
        by_cases hv : v = i
        · subst hv
          by_cases hl : v < τ.length
          · rw [List.getElem?_set_self (by rw [wipe_length]; exact hl), if_pos hl]
          · rw [List.getElem?_eq_none (by rw [List.length_set, wipe_length]; omega), if_neg hl]
        · rw [List.getElem?_set_ne hv]
          exact ih ((List.mem_cons.mp h).resolve_left fun z => hv z.symm)
    rw [key hi, key hi, hl]
  · rw [wipe_out hi, wipe_out hi, h i hi]
theorem RS.wipe (S : RS K Z G H r σ) (vs : List Nat) : RS K Z G H (wipeE r vs) (L2.wipe σ vs) := by
  have out : ∀ {i : Nat} {s : Sl}, (wipeE r vs)[i]? = some s → s ≠ .no → i ∉ vs ∧ r[i]? = some s := fun {i s} h n => by
    have hi : i ∉ vs := fun k => n (wipeE_in k h)
    exact ⟨hi, by rw [← wipeE_out hi]; exact h⟩
  refine ⟨by rw [wipeE_len, wipe_length]; exact S.len, S.sg, S.g0, S.h0, S.dm, S.fr, fun i d h => ?_, fun i b d h => ?_, fun i j a hi hj e1 e2 => ?_⟩
  · obtain ⟨h1, h2⟩ := out h (by intro z; cases z)
    rw [wipe_out h1]; exact S.va i d h2
  · obtain ⟨h1, h2⟩ := out h (by intro z; cases z)
    rw [wipe_out h1]; exact S.ow i b d h2
  · obtain ⟨b, d, k1⟩ := isOw_some hi
    obtain ⟨b', d', k2⟩ := isOw_some hj
    obtain ⟨h1, h2⟩ := out k1 (by intro z; cases z)
    obtain ⟨h3, h4⟩ := out k2 (by intro z; cases z)
    rw [wipe_out h1] at e1
    rw [wipe_out h3] at e2
    exact S.inj i j a (by rw [h2]; rfl) (by rw [h4]; rfl) e1 e2
/-- behind the walk the outer names are as they were -/
theorem RS.back {Gs Hs : Hp} {rs : Ev} {vs : List Nat} (Ss : RS K Z Gs Hs rs σ) (S : RS K Z G H (wipeE r vs) (L2.wipe σ vs)) (hl : r.length = rs.length) (hv : ∀ v ∈ vs, isOw rs[v]? = false) (sm : Same Gs G) : RS K Z G H (backE rs r vs) σ := by
  have out : ∀ {i : Nat} {s : Sl}, i ∉ vs → (backE rs r vs)[i]? = some s → (wipeE r vs)[i]? = some s := fun {i s} h e => by
    rw [backE_out h] at e; rw [wipeE_out h]; exact e
  have inn : ∀ {i : Nat} {s : Sl}, i ∈ vs → (backE rs r vs)[i]? = some s → s ≠ .no → rs[i]? = some s := fun {i s} h e n => by
    have := backE_in h e
    rw [List.getD_eq_getElem?_getD] at this
    cases q : rs[i]? with
    | none => rw [q] at this; exact absurd this n
    | some x => rw [q] at this; rw [this]; rfl
  have ow_out : ∀ {i : Nat}, isOw (backE rs r vs)[i]? = true → i ∉ vs := fun {i} h k => by
    obtain ⟨b, d, e⟩ := isOw_some h
    have := inn k e (by intro z; cases z)
    have h2 := hv i k
    rw [this] at h2; cases h2
  refine ⟨by rw [backE_len, hl]; exact Ss.len, S.sg, S.g0, S.h0, S.dm, S.fr, fun i d h => ?_, fun i b d h => ?_, fun i j a hi hj e1 e2 => ?_⟩
  · by_cases hi : i ∈ vs
    · obtain ⟨v, w1, w2⟩ := Ss.va i d (inn hi h (by intro z; cases z))
      exact ⟨v, w1, w2.mono sm⟩
    · obtain ⟨v, w1, w2⟩ := S.va i d (out hi h)
      rw [wipe_out hi] at w1
      exact ⟨v, w1, w2⟩
  · have hi : i ∉ vs := ow_out (by rw [h]; rfl)
    obtain ⟨a, w1, w2⟩ := S.ow i b d (out hi h)
    rw [wipe_out hi] at w1
    exact ⟨a, w1, w2⟩
  · have h1 := ow_out hi
    have h2 := ow_out hj
    rw [backE_out h1] at hi
    rw [backE_out h2] at hj
    exact S.inj i j a (by rw [wipeE_out h1]; exact hi) (by rw [wipeE_out h2]; exact hj) (by rw [wipe_out h1]; exact e1) (by rw [wipe_out h2]; exact e2)
/-- an object that no slot holds is changed -/
theorem RS.other (S : RS K Z G H r σ) {a : Addr} {o u : HO} (h : H a = some o) (g0 : G a = none) (h0 : Z.H0 a = none) (no : ¬ ownAt r σ a) : RS K Z G (upd H a u) r σ := by
  have oth : ∀ c, c ≠ a → upd H a u c = H c := fun c h => upd_ne h
  refine ⟨S.len, fun c o k => ?_, S.g0, fun c o k n => ?_, fun c h => ?_, S.fr, S.va, fun j b e q => ?_, S.inj⟩
  · rw [oth c fun z => by subst z; rw [g0] at k; cases k]; exact S.sg c o k
  · rw [oth c fun z => by subst z; rw [h0] at k; cases k]; exact S.h0 c o k n
  · by_cases z : c = a
    · subst z; rw [upd_same] at h; cases h
    · rw [oth c z] at h; exact S.dm c h
  · obtain ⟨c, p1, p2, p3, p4⟩ := S.ow j b e q
    have nc : c ≠ a := fun z => no ⟨j, by rw [q]; rfl, by rw [← z]; exact p1⟩
    exact ⟨c, p1, p2, p3.at (Same.refl _) (oth c nc), p4⟩
end
/-! ### the readings that hang on K and mg alone -/
section
variable {X : Cx} {W : WX} {e tg : Expr} {f : E} {t : Tg}
def tD (X : Cx) (W : WX) (f : E) : L2.TE := fun σ H Q => ∃ Z G r, RS X.K Z G H r σ ∧ EPost X W Z σ G H r Q (f r)
def tDT (X : Cx) (W : WX) (f : T) : L2.TT := fun σ H Q => ∃ Z G r, RS X.K Z G H r σ ∧ TPost X W Z σ G H r Q (f r)
def tDG (X : Cx) (t : Tg) : L2.TG := fun v σ H Q => ∃ Z G r r' d, RS X.K Z G H r σ ∧ RD X.K G d v ∧ t.put d r = some r' ∧ ∀ σ', RS X.K Z G H r' σ' → (σ'.length = σ.length ∧ ∀ i, i ∉ t.slots → σ'[i]? = σ[i]?) → Q σ' H
theorem DE.canon (h : DE X W e f) : PE X e (tD X W f) := ⟨fun pins s σ H Q I ⟨Z, G, r, S, p⟩ => h.run I S p⟩
theorem DG.canon (h : DG X tg t) : PG X tg (tDG X t) := by
  obtain ⟨g, p, q⟩ := h.ex
  exact ⟨fun pins s σ H v u Q I rv ⟨Z, G, r, r', d, S, rd, e, k⟩ => p.run pins s σ H v u Q I rv (q Z σ G H r r' d v Q S rd e k)⟩
structure DIf (X : Cx) (W : WX) (ifs : List Expr) (f : T) : Prop where
  ex : ∃ t : L2.TT, PTs X ifs t ∧ ∀ (Z : Fr0) (σ : L2.St) (G H : Hp) (r : Ev) (Q : Bool → Hp → Prop), RS X.K Z G H r σ → TPost X W Z σ G H r Q (f r) → t σ H Q
theorem dif_nil : DIf X W [] DL.tYes := ⟨_, pts_nil, fun Z σ G H r Q S p => p G H S .refl⟩
theorem dif_one {c : Expr} {fc : T} (h : DT X W c fc) : DIf X W [c] fc := by
  obtain ⟨t, p, q⟩ := h.ex
  exact ⟨_, pts_one p, q⟩
theorem DIf.canon {ifs : List Expr} {fc : T} (h : DIf X W ifs fc) : PTs X ifs (tDT X W fc) := by
  obtain ⟨t, p, q⟩ := h.ex
  exact ⟨fun pins s σ H Q I ⟨Z, G, r, S, hp⟩ => p.run pins s σ H Q I (q Z σ G H r Q S hp)⟩
end
/-! ### the walk -/
/-- at a turn's start: the state, what stands since the beginning, the new list -/
structure LcI (K : FG) (Z : Fr0) (σ : L2.St) (vs : List Nat) (Gs Hs : Hp) (rs : Ev) (G H : Hp) (r : Ev) (p : Addr) (acc : List D) : Prop where
  S : RS K (Z.at Gs) G H (wipeE r vs) (L2.wipe σ vs)
  h : ∀ a o, Hs a = some o → ¬ ownAt rs σ a → H a = some o
  n : ∀ a, H a = none → Hs a = none
  f : ∀ a o, G a = some o → Gs a = some o ∨ nw Hs a o ∨ ownAt rs σ a
  o : ∀ a, ownAt (wipeE r vs) (L2.wipe σ vs) a → ownAt rs σ a
  l : r.length = rs.length
  d : ∃ ws, H p = some (.lst ws) ∧ RDs K G acc ws
  g0 : G p = none
  h0 : Hs p = none
theorem own_wipe {σ σ' : L2.St} {vs : List Nat} {r : Ev} {a : Addr} (e : L2.wipe σ' vs = L2.wipe σ vs) (hr : ∀ i ∈ vs, isOw r[i]? = false) (h : ownAt r σ' a) : ownAt (wipeE r vs) (L2.wipe σ vs) a := by
  obtain ⟨i, h1, h2⟩ := h
  have hi : i ∉ vs := fun k => by rw [hr i k] at h1; cases h1
  exact ⟨i, by rw [wipeE_out hi]; exact h1, by rw [← e, wipe_out hi]; exact h2⟩
section
variable {X : Cx} {W : WX} {tg : Expr} {t : Tg} {fi : I} {fc : T} {fe : E} {vs : List Nat}
/-- the slots that are no objects stay none -/
theorem isOw_put {d : D} {r r' : Ev} (e : t.put d r = some r') {i : Nat} (h : isOw r'[i]? = true) : isOw r[i]? = true := by
  have all : ∀ {is : List Nat} {ds : List D} {r r' : Ev}, setAll is ds r = some r' → isOw r'[i]? = true → isOw r[i]? = true := by
    intro is
    induction is with
    | nil => intro ds r r' e h; cases ds with | nil => cases e; exact h | cons _ _ => cases e
    | cons j is ih =>
      intro ds r r' e h
      cases ds with
      | nil => cases e
      | cons d ds => exact (isOw_set (ih (ds := ds) e h)).1
  cases t with
  | one j => cases e; exact (isOw_set h).1
  | many is => cases d <;> first | (cases e; done) | exact all e h
theorem lc_post {wi : L2.TI} (hts : ∀ i ∈ t.slots, i ∈ vs) {Z : Fr0} {σ : L2.St} {G H : Hp} {r : Ev} {Q : VK} (qi : ∀ (R : L2.It → Hp → Prop), IPost X W Z σ G H r R (fi r) → wi σ H R) (S : RS X.K Z G H r σ) (hp : EPost X W Z σ G H r Q (eLc vs t fi fc fe r)) : tLc wi (tDG X t) (tDT X W0 fc) (tD X W0 fe) vs σ H Q := by
  refine qi _ ?_
  unfold eLc at hp
  cases e1 : fi r with
  | ok ds rs =>
    simp only [e1] at hp
    split at hp
    · rename_i hvs
      have hv : ∀ v ∈ vs, isOw rs[v]? = false := fun v k => by
        have := List.all_eq_true.mp hvs v k
        cases q : isOw rs[v]? with
        | false => rfl
        | true => rw [q] at this; cases this
      intro J Gs Hs Ss Xs it p hpn
      have it1 := it (Z.at Gs)
      obtain ⟨gp, h0p, nop⟩ := Ss.fresh hpn
      have ow_w : ∀ {a : Addr}, ownAt (wipeE rs vs) (L2.wipe σ vs) a → ownAt rs σ a := fun {a} ⟨i, k1, k2⟩ => by
        have hi : i ∉ vs := fun k => by
          obtain ⟨b, d, e⟩ := isOw_some k1
          have := wipeE_in k e
          cases this
        exact ⟨i, by rw [← wipeE_out hi]; exact k1, by rw [← wipe_out hi]; exact k2⟩
      have S0 : RS X.K (Z.at Gs) Gs (upd Hs p (.lst [])) rs σ := ((Ss.newH (o := .lst []) hpn).1).fwd Ss.g0 (Same.refl _)
      have start : LcI X.K Z σ vs Gs Hs rs Gs (upd Hs p (.lst [])) rs p [] :=
        ⟨S0.wipe vs, fun a o h n => same_new hpn a o h, fun a h => by
          by_cases z : a = p
          · subst z; exact hpn
          · rw [upd_ne z] at h; exact h, fun a o h => .inl h, fun a h => ow_w h, rfl, ⟨[], upd_same, .nil⟩, gp, hpn⟩
      refine ⟨fun i m H => i + m = ds.length ∧ ∃ G r acc, LcI X.K Z σ vs Gs Hs rs G H r p acc ∧ EPost X W Z σ Gs Hs rs Q (lcGo vs t fc fe rs (ds.drop i) acc r), ⟨ds.length, by omega, Gs, rs, [], start, EPost.pre Xs (by simpa using hp)⟩, fun i m H hW => ?_⟩
      obtain ⟨hm, G, r, acc, L, pp⟩ := hW
      obtain ⟨j1, j2⟩ := it1 i (L2.wipe σ vs) (wipeE r vs) G H L.S L.S.g0
      cases hd : ds[i]? with
      | none =>
        have hl : ds.length ≤ i := List.getElem?_eq_none_iff.mp hd
        refine .inl ⟨j1 hl, ?_⟩
        rw [List.drop_eq_nil_of_le hl] at pp
        have Sb : RS X.K (Z.at Gs) G H (backE rs r vs) σ := RS.back (S0) L.S L.l hv L.S.g0
        have ob : ∀ a, ownAt (backE rs r vs) σ a → ownAt rs σ a := fun a ⟨i, k1, k2⟩ => by
          by_cases hi : i ∈ vs
          · obtain ⟨b, d, e⟩ := isOw_some k1
            have := backE_in hi e
            rw [List.getD_eq_getElem?_getD] at this
            have h2 := hv i hi
            cases q : rs[i]? with
            | none => rw [q] at this; cases this
            | some x =>
              rw [q] at this h2
              have : x = .ow b d := this.symm
              subst this; cases h2
          · rw [backE_out hi] at k1
            exact L.o a ⟨i, by rw [wipeE_out hi]; exact k1, by rw [wipe_out hi]; exact k2⟩
        have X2 : EX σ Gs Hs rs G H (backE rs r vs) := ⟨L.S.g0, L.h, L.n, L.f, ob⟩
        refine pp (.ref p) G H (Sb.bwd Ss.g0 Ss.fr) X2 ⟨p, rfl, L.g0, ⟨h0p, hpn⟩, fun k => nop (ob p k), ?_⟩
        obtain ⟨ws, w1, w2⟩ := L.d
        exact ⟨ws, w1, w2⟩
      | some d =>
        obtain ⟨k1, k2⟩ := j2 d hd
        have hil : i < ds.length := (List.getElem?_eq_some_iff.mp hd).1
        have hdr : ds.drop i = d :: ds.drop (i + 1) := by
          rw [List.drop_eq_getElem_cons hil, (List.getElem?_eq_some_iff.mp hd).2]
        rw [hdr] at pp
        unfold lcGo at pp
        refine .inr ⟨k1, fun H' => ∃ G' r' acc', LcI X.K Z σ vs Gs Hs rs G' H' r' p acc' ∧ EPost X W Z σ Gs Hs rs Q (lcGo vs t fc fe rs (ds.drop (i + 1)) acc' r'), fun H' ⟨G', r', acc', L', p'⟩ => ⟨m - 1, by omega, by omega, G', r', acc', L', p'⟩, fun x H2 y => ?_⟩
        obtain ⟨G2, S2, X2, rd⟩ := k2 x H2 y
        cases e2 : t.put d (wipeE r vs) with
        | none => simp only [e2] at pp; exact pp.elim
        | some r1 =>
          simp only [e2] at pp
          refine ⟨Z.at Gs, G2, wipeE r vs, r1, d, S2, rd, e2, fun σ3 S3 ⟨l3, o3⟩ => ?_⟩
          have ew : L2.wipe σ3 vs = L2.wipe σ vs := by
            refine (wipe_ext l3 fun i hi => o3 i fun k => hi (hts i k)).trans ?_
            exact wipe_ext (wipe_length σ vs) fun i hi => wipe_out hi
          refine ⟨ew, Z.at Gs, G2, r1, S3, ?_⟩
          -- what stands through the turn
          have now1 : ∀ a, ownAt r1 σ3 a → ownAt (wipeE r vs) (L2.wipe σ vs) a := fun a ⟨i, h1, h2⟩ => by
            have h1' := isOw_put e2 h1
            have hi : i ∉ vs := fun k => by
              obtain ⟨b, d, e⟩ := isOw_some h1'
              cases wipeE_in k e
            refine ⟨i, h1', ?_⟩
            rw [← o3 i fun k => hi (hts i k)]; exact h2
          -- after more of the block: a state of the same slots
          have go : ∀ {G4 H4 : Hp} {r4 : Ev} {acc' : List D} {u : HO}, RS X.K (Z.at Gs) G4 H4 r4 σ3 → EX σ3 G2 H2 r1 G4 H4 r4 → (u = .lst [] → False) ∨ True → (∃ ws, upd H4 p u p = some (.lst ws) ∧ RDs X.K G4 acc' ws) → LcI X.K Z σ vs Gs Hs rs G4 (upd H4 p u) r4 p acc' := fun {G4 H4 r4 acc' u} S4 X4 _ hd => by
            have hp2 : ∃ ws, H2 p = some (.lst ws) := by
              obtain ⟨ws, w1, _⟩ := L.d
              exact ⟨ws, X2.h p _ w1 fun k => nop (L.o p k)⟩
            have gp2 : G2 p = none := by
              obtain ⟨ws, w1, _⟩ := L.d
              cases q : G2 p with
              | none => rfl
              | some u =>
                rcases X2.f p u q with k | k | k
                · rw [L.g0] at k; cases k
                · exact (k.no w1 (by exact nofun)).elim
                · exact absurd (L.o p k) nop
            have no1 : ¬ ownAt r1 σ3 p := fun k => nop (L.o p (now1 p k))
            obtain ⟨ws2, hp2⟩ := hp2
            have hp4 : H4 p = some (.lst ws2) := X4.h p _ hp2 no1
            have gp4 : G4 p = none := by
              cases q : G4 p with
              | none => rfl
              | some u =>
                rcases X4.f p u q with k | k | k
                · rw [gp2] at k; cases k
                · exact (k.no hp2 (by exact nofun)).elim
                · exact absurd k no1
            have no4 : ¬ ownAt r4 σ3 p := fun k => no1 (X4.o p k)
            have own4 : ∀ a, ownAt (wipeE r4 vs) (L2.wipe σ3 vs) a → ownAt rs σ a := fun a ⟨i, h1, h2⟩ => by
              have hi : i ∉ vs := fun k => by
                obtain ⟨b, d, e⟩ := isOw_some h1
                cases wipeE_in k e
              rw [wipeE_out hi] at h1
              rw [wipe_out hi] at h2
              exact L.o a (now1 a (X4.o a ⟨i, h1, h2⟩))
            have S5 := (S4.other (u := u) hp4 gp4 h0p no4).wipe vs
            rw [ew] at S5 own4
            refine ⟨S5, fun a o h n => ?_, fun a h => ?_, fun a o h => ?_, own4, ?_, hd, gp4, hpn⟩
            · have na : a ≠ p := fun z => by subst z; rw [hpn] at h; cases h
              rw [upd_ne na]
              refine X4.h a o (X2.h a o (L.h a o h n) fun k => n (L.o a k)) fun k => n (L.o a (now1 a k))
            · by_cases z : a = p
              · subst z; exact hpn
              · rw [upd_ne z] at h
                exact L.n a (X2.n a (X4.n a h))
            · rcases X4.f a o h with k | k | k
              · rcases X2.f a o k with k | k | k
                · exact L.f a o k
                · exact .inr (nw.back (L.h a) (L.n a) k)
                · exact .inr (.inr (L.o a k))
              · exact .inr (nw.back (fun u e no => X2.h a u (L.h a u e no) fun q => no (L.o a q)) (fun z => L.n a (X2.n a z)) k)
              · exact .inr (.inr (L.o a (now1 a k)))
            · have := S4.len
              have h3 := l3
              have h4 := wipe_length σ vs
              have h5 := Ss.len
              omega
          have self : ∀ {G4 H4 : Hp} {r4 : Ev}, RS X.K (Z.at Gs) G4 H4 r4 σ3 → EX σ3 G2 H2 r1 G4 H4 r4 → ∃ ws, H4 p = some (.lst ws) ∧ RDs X.K G4 acc ws := fun {G4 H4 r4} S4 X4 => by
            obtain ⟨ws, w1, w2⟩ := L.d
            exact ⟨ws, X4.h p _ (X2.h p _ w1 fun k => nop (L.o p k)) fun k => nop (L.o p (now1 p k)), (w2.mono X2.g).mono X4.g⟩
          cases e3 : fc r1 with
          | ok b r2 =>
            cases b with
            | false =>
              simp only [e3] at pp
              intro G4 H4 S4 X4
              refine iteF ?_
              obtain ⟨ws, w1, w2⟩ := self S4 X4
              have e : upd H4 p (.lst ws) = H4 := by
                funext c
                by_cases z : c = p
                · subst z; rw [upd_same, w1]
                · rw [upd_ne z]
              have L' := go (u := .lst ws) S4 X4 (.inr trivial) ⟨ws, upd_same, w2⟩
              rw [e] at L'
              exact ⟨G4, r2, acc, L', pp⟩
            | true =>
              simp only [e3] at pp
              intro G4 H4 S4 X4
              refine iteT ⟨Z.at Gs, G4, r2, S4, ?_⟩
              cases e4 : fe r2 with
              | ok o r3 =>
                simp only [e4] at pp
                intro v G5 H5 S5 X5 R5
                cases e5 : fzo r3 o with
                | none => simp only [e5] at pp; exact pp.elim
                | some p6 =>
                  obtain ⟨dx, r6⟩ := p6
                  simp only [e5] at pp
                  obtain ⟨G6, S6, rd6, z6, _⟩ := RO.fzo S5 R5 e5
                  have X46 := X4.trans (z6.ex X5)
                  split at pp
                  · rename_i hz
                    obtain ⟨ws, w1, w2⟩ := self S6 X46
                    exact ⟨ws, w1, by rw [← w2.length]; exact hz, G6, r6, acc ++ [dx], go S6 X46 (.inr trivial) ⟨ws ++ [v], upd_same, w2.append (.one rd6)⟩, pp⟩
                  · exact pp.elim
              | err c r3 => simp only [e4] at pp; exact pp.elim
              | bad => simp only [e4] at pp; exact pp.elim
          | err c r2 => simp only [e3] at pp; exact pp.elim
          | bad => simp only [e3] at pp; exact pp.elim
    · exact hp.elim
  | err c r1 => simp only [e1] at hp; exact hp
  | bad => simp only [e1] at hp; exact hp.elim
variable {elt iter : Expr} {ifs : List Expr} {scope : Scope} {own : List (Str × Nat)} {pos : Pos}
theorem de_lc (hc : X.calm = true) (hN : X.N.Nodup) (hi : DI X W tg iter fi) (ok : BlkOk X.N X.env.scope scope own)
    (hg : ∀ (s : Shared) (H : Hp) (C : Addr) (cl : List (Str × Addr)) (fp : List Addr), DG (X.blk s H scope (compEnvC scope cl C X.env) fp) tg t) (ht : ∀ (s : Shared) (H : Hp) (C : Addr) (cl : List (Str × Addr)) (fp : List Addr), DIf (X.blk s H scope (compEnvC scope cl C X.env) fp) W0 ifs fc)
    (he : ∀ (s : Shared) (H : Hp) (C : Addr) (cl : List (Str × Addr)) (fp : List Addr), DE (X.blk s H scope (compEnvC scope cl C X.env) fp) W0 elt fe) (hts : ∀ i ∈ t.slots, i ∈ own.map (·.2)) (hvs : own.map (·.2) = vs) (hs : ∀ x, foldedSetIterable iter X.env x = pure x := by intro _; rfl) :
    DE X W (.ListComp elt [⟨tg, iter, ifs, 0⟩] scope pos) (eLc vs t fi fc fe) := by
  subst hvs
  obtain ⟨wi, p, q⟩ := hi.ex
  exact ⟨_, pe_lc (own := own) (g := tDG X t) (tt := tDT X W0 fc) (te := tD X W0 fe) hc hN p ok (fun s H C cl fp => (hg s H C cl fp).canon) (fun s H C cl fp => (ht s H C cl fp).canon) (fun s H C cl fp => (he s H C cl fp).canon) hs,
    fun Z σ G H r Q S hp => lc_post hts (fun R => q Z σ G H r R S) S hp⟩
theorem ds_setLc {i : Nat} {y : Str} {py spos : Pos} (hc : X.calm = true) (hN : X.N.Nodup) (hy : X.N[i]? = some y) (hyl : X.env.scope.names.lookup y = some .local)
    (hsw : swapsWith (.ListComp elt [⟨tg, iter, ifs, 0⟩] scope pos) (some (.Name y py)) spos.line X.env = pure true) (hi : DI X W tg iter fi) (ok : BlkOk X.N X.env.scope scope own)
    (hg : ∀ (s : Shared) (H : Hp) (C : Addr) (cl : List (Str × Addr)) (fp : List Addr), DG (X.blk s H scope (compEnvC scope cl C X.env) fp) tg t) (ht : ∀ (s : Shared) (H : Hp) (C : Addr) (cl : List (Str × Addr)) (fp : List Addr), DIf (X.blk s H scope (compEnvC scope cl C X.env) fp) W0 ifs fc)
    (he : ∀ (s : Shared) (H : Hp) (C : Addr) (cl : List (Str × Addr)) (fp : List Addr), DE (X.blk s H scope (compEnvC scope cl C X.env) fp) W0 elt fe) (hts : ∀ i ∈ t.slots, i ∈ own.map (·.2)) (hvs : own.map (·.2) = vs) (hs : ∀ x, foldedSetIterable iter X.env x = pure x := by intro _; rfl) :
    DS X W (.Assign [.Name y py] (.ListComp elt [⟨tg, iter, ifs, 0⟩] scope pos) spos) (sSet i (eLc vs t fi fc fe)) := by
  subst hvs
  obtain ⟨wi, p, q⟩ := hi.ex
  refine ⟨_, ps_setLc (own := own) (g := tDG X t) (tt := tDT X W0 fc) (te := tD X W0 fe) hc hN hy hyl hsw p ok (fun s H C cl fp => (hg s H C cl fp).canon) (fun s H C cl fp => (ht s H C cl fp).canon) (fun s H C cl fp => (he s H C cl fp).canon) hs,
    fun Z σ G H r D S hp => lc_post hts (fun R => q Z σ G H r R S) S ?_⟩
  unfold sSet at hp
  cases e1 : eLc (own.map (·.2)) t fi fc fe r with
  | ok o r1 =>
    simp only [e1] at hp
    intro v G1 H1 S1 X1 R1
    cases e2 : keep i o r1 with
    | none => simp only [e2] at hp; exact hp.elim
    | some r2 =>
      simp only [e2] at hp
      obtain ⟨G2, S2⟩ := S1.keep R1 e2
      exact hp _ G2 H1 S2
  | err c r1 => simp only [e1] at hp; exact fun C G1 H1 S1 X1 m => hp C σ G1 H1 S1 m
  | bad => simp only [e1] at hp; exact hp.elim
end
end DL
end

section
set_option Elab.async false
set_option linter.all false
set_option maxRecDepth 100000
set_option autoImplicit false
/-! DL14: operators in place, pairs stored, raise, a law's end. -/
namespace DL
open PySem PySem.Spec PyProof.Rows L2
section
variable {X : Cx} {W : WX} {a b e : Expr} {fa fb : E} {pos : Pos}
theorem opd_iadd : OpD X (inplaceOp .Add) gIAdd := by
  refine ⟨_, (iop_add (X := X)).or iop_add_str, ?_⟩
  intro Z σ G H r x y dx dy o Q S hx hy e h
  unfold gIAdd at e
  cases dx <;> cases dy <;> first | (cases e; done) | skip
  · cases hx; cases hy; cases e
    exact .inl ⟨_, _, rfl, rfl, h.int S⟩
  · cases hx; cases hy
    dsimp only at e; split at e <;> cases e
    rename_i hz
    exact .inr ⟨_, _, rfl, rfl, hz, h.str S⟩
theorem iop_mulI : OpR X (inplaceOp .Mult) (rI mulOk fun i j => .int (i * j)) := opI fun i j _ _ _ _ _ hc q => by
  rcases hc with k | k | k
  · exact imul_int q (.of_left (intBits_le_64 (by omega) (by omega)))
  · exact imul_int q (.of_right (intBits_le_64 (by omega) (by omega)))
  · exact imul_int q (CMulW.ok k)
theorem opd_imul : OpD X (inplaceOp .Mult) gIMul := by
  refine ⟨_, iop_mulI, ?_⟩
  intro Z σ G H r x y dx dy o Q S hx hy e h
  unfold gIMul at e
  cases dx <;> cases dy <;> first | (cases e; done) | skip
  cases hx; cases hy
  dsimp only at e; split at e <;> cases e
  rename_i hz
  exact ⟨_, _, rfl, rfl, hz, h.int S⟩
theorem opd_isub : OpD X (inplaceOp .Sub) gSub := by
  refine ⟨_, iop_sub, ?_⟩
  intro Z σ G H r x y dx dy o Q S hx hy e h
  unfold gSub at e
  cases dx <;> cases dy <;> first | (cases e; done) | skip
  cases hx; cases hy; cases e
  exact ⟨_, _, rfl, rfl, h.int S⟩
theorem iop_fdivI : OpR X (inplaceOp .FloorDiv) (rI (fun _ j => j ≠ 0 ∧ j.natAbs.log2 < 9000) fun i j => .int (i.fdiv j)) := opI fun _ _ _ _ _ _ _ hc q => ifloordiv_int hc.1 q (.inl (PyProof.noPylong_of_log2 hc.2))
theorem opd_ifdiv : OpD X (inplaceOp .FloorDiv) gFdiv := by
  refine ⟨_, iop_fdivI, ?_⟩
  intro Z σ G H r x y dx dy o Q S hx hy e h
  unfold gFdiv at e
  cases dx <;> cases dy <;> first | (cases e; done) | skip
  cases hx; cases hy
  dsimp only at e; split at e <;> cases e
  rename_i hz
  exact ⟨_, _, rfl, rfl, hz, h.int S⟩
theorem own_setVa {r : Ev} {σ : L2.St} {i : Nat} {d : D} {v : V} {a : Addr} (h : ownAt (r.set i (.va d)) (σ.set i (some v)) a) : ownAt r σ a := by
  obtain ⟨j, h1, h2⟩ := h
  obtain ⟨h3, n⟩ := isOw_set h1
  rw [List.getElem?_set_ne (Ne.symm n)] at h2
  exact ⟨j, h3, h2⟩
theorem own_setOw {r : Ev} {σ : L2.St} {i : Nat} {d : D} {a b : Addr} (h : ownAt (r.set i (.ow false d)) (σ.set i (some (.ref a))) b) : b = a ∨ ownAt r σ b := by
  obtain ⟨j, h1, h2⟩ := h
  by_cases e : i = j
  · subst e
    by_cases hl : i < σ.length
    · rw [List.getElem?_set_self hl] at h2; cases h2; exact .inl rfl
    · rw [List.getElem?_eq_none (by simpa using hl)] at h2; cases h2
  · rw [List.getElem?_set_ne e] at h1 h2
    exact .inr ⟨j, h1, h2⟩
/-- a, b = x, y: two local names -/
theorem ds_par {i j : Nat} {x y : Str} {px py pt : Pos} {kt k2 pt2} (hc : X.calm = true) (hN : X.N.Nodup) (hi : X.N[i]? = some x) (hj : X.N[j]? = some y) (hij : i ≠ j)
    (hx : X.env.scope.names.lookup x = some .local) (hy : X.env.scope.names.lookup y = some .local) (ha : DE X W a fa) (hb : DE X W b fb)
    (hw : swappedStores [.Tuple [.Name x px, .Name y py] kt pt] (.Tuple [a, b] k2 pt2) X.env = pure (some [x, y]))
    (hs : swapsWithSole [.Tuple [.Name x px, .Name y py] kt pt] (.Tuple [a, b] k2 pt2) pos.line X.env = pure false := by rfl)
    (hs1 : starEach [a, b] X.env = (false, eval a X.env) :: starEach [b] X.env := by rfl) (hs2 : starEach [b] X.env = (false, eval b X.env) :: starEach [] X.env := by rfl) :
    DS X W (.Assign [.Tuple [.Name x px, .Name y py] kt pt] (.Tuple [a, b] k2 pt2) pos) (sPar i j fa fb) := by
  obtain ⟨ta, pa, qa⟩ := ha.ex
  obtain ⟨tb, pb, qb⟩ := hb.ex
  refine ⟨_, ps_par hc hN hi hj hij hx hy (pa_cons pa (pa_cons pb pa_nil hs2) hs1) hw hs, fun Z σ G H r D S hp => qa Z σ G H r _ S ?_⟩
  unfold sPar at hp
  cases e1 : fa r with
  | ok o r1 =>
    simp only [e1] at hp
    intro v G1 H1 S1 X1 R1
    refine qb Z σ G1 H1 r1 _ S1 ?_
    cases e2 : fb r1 with
    | ok p r2 =>
      simp only [e2] at hp
      intro w G2 H2 S2 X2 R2
      refine ⟨v, w, rfl, ?_⟩
      have R1' := R1.keep X2
      cases o with
      | br l => exact hp.elim
      | fz d =>
        cases p with
        | br l => exact hp.elim
        | fz d2 => exact hp _ G2 H2 ((S2.setVa R1').setVa R2)
        | tm d2 =>
          obtain ⟨q, eq, g0, h0, no, rm⟩ := R2
          subst eq
          exact hp _ G2 H2 ((S2.setVa R1').setOw g0 h0.1 (fun k => no (own_setVa k)) rm)
      | tm d =>
        obtain ⟨q, eq, g0, h0, no, rm⟩ := R1'
        subst eq
        have S3 := S2.setOw (i := i) g0 h0.1 no rm
        cases p with
        | br l => exact hp.elim
        | fz d2 => exact hp _ G2 H2 (S3.setVa R2)
        | tm d2 =>
          obtain ⟨q2, eq2, g02, h02, no2, rm2⟩ := R2
          subst eq2
          obtain ⟨q', eq', _, _, _, rm1⟩ := R1
          cases eq'
          obtain ⟨u, hu⟩ := rm1.there
          refine hp _ G2 H2 (S3.setOw g02 h02.1 (fun k => ?_) rm2)
          rcases own_setOw k with k | k
          · subst k; have := h02.2; rw [hu] at this; cases this
          · exact no2 k
    | err c r2 => simp only [e2] at hp; exact fun C G' H' S' _ m => hp C σ G' H' S' m
    | bad => simp only [e2] at hp; exact hp.elim
  | err c r1 => simp only [e1] at hp; exact fun C G' H' S' _ m => hp C σ G' H' S' m
  | bad => simp only [e1] at hp; exact hp.elim
end
section
variable {P : Program} {w : World} {K : PySem.W.Frag} {mg : Str → Option Value} {base : Heap}
/-- nothing is promised -/
theorem fn_bad {k : Nat} {f : Addr} {fd : FuncData} {ps : List Str} {m : List Bool} (hm : m.length = ps.length) : FnOk P w K mg base (L2.CX P w) k f fd ps (spD mg K m fun _ => .bad) :=
  ⟨fun vs H Q E ⟨_, _, _, a, _⟩ => by rw [a.length.1]; exact hm, fun _ _ _ _ _ _ _ _ _ _ _ _ _ ⟨_, _, _, _, _, z⟩ => z.elim⟩
end
end DL
end

section
set_option Elab.async false
set_option linter.all false
set_option maxRecDepth 100000
set_option autoImplicit false
/-! DL15: gcd, raise, try over data; a law's end. -/
namespace DL
open PySem PySem.Spec PyProof.Rows L2
section
variable {X : Cx} {W : WX} {a b e : Expr} {es : List Expr} {fa fb : E} {f : A} {pos : Pos}
theorem cd_gcd : CallD X (.builtin "math.gcd") gGcd := by
  refine ⟨_, cr_gcd, ?_⟩
  intro Z σ G H r xs ds o Q S hs e h
  unfold gGcd at e
  split at e
  · obtain ⟨v, w, rfl, k1, k2⟩ := rh2 hs
    cases e; cases k1; cases k2
    exact ⟨_, _, rfl, h.int S⟩
  · cases e
theorem de_callM {id : String} {g : List D → Option Op} {x : Str} {p : Pos} (hc : CallD X (.builtin id) g) (hg : Gl X x) (hm : X.mg x = some (.builtin id)) (ha : DA X W (e :: es) f) (hdb : (x == ("__debug__" : Str)) = false := by decide)
    (he : starEach (e :: es) X.env = (false, eval e X.env) :: starEach es X.env := by rfl) (hpl : (backTo pos (starEach es X.env)).any (·.1) = false := by rfl) : DE X W (.Call (.Name x p) (e :: es) [] pos) (ePure g f) := by
  obtain ⟨rr, po, qo⟩ := hc
  obtain ⟨t, p, q⟩ := ha.ex
  exact ⟨_, pe_callBfun po hg hm p hdb he hpl, fun Z σ G H r Q S hp => pure_op q qo S hp⟩
/-- what the text's class of an error must have -/
structure ErrC (K : FG) (C : Addr) : Prop where
  ex : PySem.W.excIn K C [.type "ValueError", .type "Exception", .type "BaseException", .type "object"] "ValueError.__new__" = true
  kp : PySem.W.keepIn K (.ref C) = true
  be : PySem.W.subIn K (.ref C) (.type "BaseException") = some true
  ty : PySem.W.typeIn K (.ref C) = some (.type "type")
  hd : PySem.W.hasDictIn K C = true
theorem ds_raise {x m : Str} {C : Addr} {j : Nat} {p p2 pos pos2 : Pos} (hc : X.calm = true) (tk : Takes X W) (gC : X.mg x = some (.ref C)) (kC : ErrC X.K C) (hg : Gl X x) (hdb : (x == ("__debug__" : Str)) = false := by decide) :
    DS X W (.Raise (some (.Call (.Name x p) [.Constant (.str m) j p2] [] pos)) none pos2) (sRaise x) :=
  ⟨_, ps_raise hc tk (pmk_own PySem.F.excBase_ValueError kC.ex gC kC.kp (raises_own kC.be kC.ty) hg hdb), fun Z σ G H r D S hp => hp C σ G H S gC⟩
def tDB (X : Cx) (W : WX) (f : S) : L2.TS := fun D σ H => ∃ Z G r, RS X.K Z G H r σ ∧ SPost X W Z D (f r)
theorem DB.canon {sts : List Stmt} {f : S} (h : DB X W sts f) : PSs X sts (tDB X W f) := by
  obtain ⟨t, p, q⟩ := h.ex
  exact ⟨fun pins s σ H D I ⟨Z, G, r, S, hp⟩ => p.run pins s σ H D I (q Z σ G H r D S hp)⟩
def tSu (X : Cx) (sub : Str → Option Bool) (h : Str → S) : Addr → Value → Option Addr → L2.TS := fun _ cls d D σ H => ∃ c C, X.mg c = some (.ref C) ∧ cls = .ref C ∧ d = none ∧ sub c = some true ∧ ∃ Z G r, RS X.K Z G H r σ ∧ SPost X (fun _ _ _ _ => False) Z D (h c r)
theorem ds_try {body suite : List Stmt} {b₀ : Stmt} {x : Str} {C0 : Addr} {np pos pos' : Pos} {fb : S} {fs : Str → S} {sub : Str → Option Bool} (hs : X.stack = X.env :: X.outer) (hf : X.env.frame = some X.env.locals) (gC : X.mg x = some (.ref C0)) (kC : ErrC X.K C0) (tk : Takes X W) (hg : Gl X x)
    (hsub : ∀ c C b, sub c = some b → X.mg c = some (.ref C) → PySem.W.subIn X.K (.ref C) (.ref C0) = some b)
    (hb : ∀ (W' : WX) (pn : List (Addr × Obj)) (xe : Value → Shared → Prop), Takes (X.tr pn xe) W' → PassesOwn (model X.prog X.w) X.A X.env xe → DB (X.tr pn xe) W' body fb)
    (hsu : ∀ (c : Str) (C : Addr), sub c = some true → X.mg c = some (.ref C) → ∀ (a : Addr) (oe : Obj) (pn : List (Addr × Obj)), Zc (.ref C) none oe → (∃ vs, oe.data = .fields vs) → DB (X.suite a ((a, oe) :: pn)) (fun _ _ _ _ => False) (b₀ :: suite) (fs c))
    (hdb : (x == ("__debug__" : Str)) = false := by decide) :
    DS X W (.Try body [.ExceptHandler (some (.Name x np)) none (b₀ :: suite) pos'] [] [] pos) (sTry sub fb fs) := by
  refine ⟨_, ps_try_only (tb := fun W' => tDB X W' fb) (ts := tSu X sub fs) (Wout := W) (c := .ref C0) hs hf ⟨hg, hdb, .inl gC⟩ tk (fun W' pn xe tk' po => (hb W' pn xe tk' po).canon) (fun a oe cls d pn hz hv => ⟨fun pins s σ H D I ⟨c, C, h1, h2, h3, h4, Z, G, r, S, hp⟩ => ?_⟩), fun Z σ G H r D S hp => ?_⟩
  · subst h2 h3
    obtain ⟨t, p, q⟩ := (hsu c C h4 h1 a oe pn hz hv).ex
    exact p.run pins s σ H D I (q Z σ G H r D S hp)
  · refine ⟨Z, G, r, S, ?_⟩
    unfold sTry at hp
    cases e1 : fb r with
    | err c r1 =>
      simp only [e1] at hp
      intro C σ1 G1 H1 S1 hC
      cases e2 : sub c with
      | none => simp only [e2] at hp; exact hp.elim
      | some k =>
        refine ⟨k, PySem.W.exm_ref kC.be kC.hd kC.ty (hsub c C k e2 hC), fun hk a ha => ?_, fun hk => ?_⟩
        · subst hk
          simp only [e2] at hp
          refine ⟨c, C, hC, rfl, rfl, e2, Z, G1, r1, S1, ?_⟩
          cases e3 : fs c r1 with
          | err c' r2 => simp only [e3] at hp; exact hp.elim
          | nx _ => simp only [e3] at hp; exact hp
          | brk _ => simp only [e3] at hp; exact hp
          | cnt _ => simp only [e3] at hp; exact hp
          | ret _ _ => simp only [e3] at hp; exact hp
          | bad => simp only [e3] at hp; exact hp.elim
        · subst hk
          simp only [e2] at hp
          exact hp C σ1 G1 H1 S1 hC
    | nx _ => simp only [e1] at hp; exact hp
    | brk _ => simp only [e1] at hp; exact hp
    | cnt _ => simp only [e1] at hp; exact hp
    | ret _ _ => simp only [e1] at hp; exact hp
    | bad => simp only [e1] at hp; exact hp.elim
end
/-! ### a law's end -/
def spEnd (K : FG) : Sp := fun vs H Q _ => ∃ (a : Addr) (ns : List Int), vs = [.ref a] ∧ SqL K H a (ns.map V.int) ∧ ns.length ≤ 63 ∧ ∀ H', Q (.bl true) H'
theorem law_end {P : Program} {w : World} {K : FG} {mg : Str → Option Value} {base : Heap} {k : Nat} {f : Addr} {fd : FuncData} {ps : List Str} {F : FD} (h : FnOk P w K mg base (L2.CX P w) k f fd ps (spD mg K [false] F)) (hF : ∀ ns : List Int, ns.length ≤ 63 → F [.kls (ns.map .int)] = .ok (.fz (.bl true)) []) :
    FnOk P w K mg base (L2.CX P w) k f fd ps (spEnd K) := by
  refine h.imp fun vs H Q E ⟨a, ns, ev, hS, hl, q⟩ => ?_
  subst ev
  refine ⟨H, [.kls (ns.map .int)], Same.refl _, .va (.kls hS (RDs.ints ns)) .nil, by unfold ioA; exact .nil, ?_⟩
  rw [hF ns hl]
  intro v G' H' _ _ R
  cases R
  exact q H'
theorem cx_end {P : Program} {w : World} {H : Hp} {s : Shared} {e : Value} {s' : Shared} (h : L2.CX P w [] H s (fun _ _ _ => False) e s') : False := by
  obtain ⟨_, _, _, _, _, _, _, _, _, _, _, _, z⟩ := h
  exact z
end DL
end

section
set_option Elab.async false
set_option linter.all false
set_option maxRecDepth 100000
set_option autoImplicit false
/-! DL16: dict displays, zip, enumerate, list(range), reversed slices over data. -/
namespace DL
open PySem PySem.Spec PyProof.Rows L2
section
variable {X : Cx} {W : WX} {tg a b c e : Expr} {es : List Expr} {fa fb fc : E} {pos : Pos}
theorem de_newK : DE X W (.Dict [] [] pos) eNewK := by
  refine ⟨_, pe_dnewK, fun Z σ G H r Q S hp p hn => ?_⟩
  obtain ⟨S1, X1⟩ := S.newH (o := .dK []) hn
  obtain ⟨g0, h0, no⟩ := S.fresh hn
  exact hp _ G _ S1 X1 ⟨p, rfl, g0, ⟨h0, hn⟩, no, [], upd_same, rfl, .nil⟩
theorem de_newT : DE X W (.Dict [] [] pos) eNewT := by
  refine ⟨_, pe_dnewT, fun Z σ G H r Q S hp p hn => ?_⟩
  obtain ⟨S1, X1⟩ := S.newH (o := .dT []) hn
  obtain ⟨g0, h0, no⟩ := S.fresh hn
  exact hp _ G _ S1 X1 ⟨p, rfl, g0, ⟨h0, hn⟩, no, [], upd_same, rfl, .nil⟩
theorem cd_dictOf : CallD X (.type "dict") gDictOf := by
  refine ⟨_, call_dictD, ?_⟩
  intro Z σ G H r xs ds o Q S hs e h
  unfold gDictOf at e
  split at e
  · obtain ⟨v, rfl, k⟩ := rh1 hs
    cases e
    obtain ⟨a, ws, rfl, h1, h2, h3⟩ := k
    exact ⟨a, ws, rfl, h1, fun p hp => h.new S hp ⟨ws, upd_same, h2, h3⟩⟩
  · cases e
theorem cd_str : CallD X (.type "str") gStr := by
  refine ⟨_, (call_str_int (X := X)).or SkE.call_str_str, ?_⟩
  intro Z σ G H r xs ds o Q S hs e h
  unfold gStr at e
  split at e
  · obtain ⟨v, rfl, k⟩ := rh1 hs
    cases k
    split at e <;> cases e
    rename_i hz
    exact .inl ⟨_, rfl, hz, h.str S⟩
  · obtain ⟨v, rfl, k⟩ := rh1 hs
    cases k; cases e
    exact .inr ⟨_, rfl, h.str S⟩
  · cases e
theorem de_revL {k : Nat} {p1 p2 p3 : Pos} (ha : DE X W a fa) : DE X W (.Subscript a (.Slice none none (some (.UnaryOp .USub (.Constant (.int 1) k p1) p2)) p3) pos) (eUn gRev fa) := by
  obtain ⟨ta, pa, qa⟩ := ha.ex
  refine ⟨_, pe_revL pa, fun Z σ G H r Q S p => ?_⟩
  refine one_op (X := X) (W := W) (fa := fa) (g := gRev) (rr := fun x H1 Q => ∃ a xs, x = .ref a ∧ SqL X.K H1 a xs ∧ ∀ p, H1 p = none → Q (.ref p) (upd H1 p (.lst xs.reverse))) qa (fun Z σ G H r x dx o Q S hx e h => ?_) S p
  unfold gRev at e
  cases dx <;> first | (cases e; done) | skip
  · cases e
    obtain ⟨a, vs, rfl, h1, h2⟩ := hx
    exact ⟨a, vs, rfl, .of h1, fun p hp => h.lst S h2.reverse hp⟩
  · cases e
    cases hx with | kls h1 h2 =>
    exact ⟨_, _, rfl, S.sg.seq h1, fun p hp => h.lst S h2.reverse hp⟩
theorem rgV_up : ∀ (n : Nat) (lo : Int), (List.range n).map (fun (i : Nat) => V.int (lo + (i : Nat))) = (upFrom lo n).map (fun d => match d with | .int i => V.int i | _ => V.non)
  | 0, _ => rfl
  | n + 1, lo => by
    rw [List.range_succ_eq_map, List.map_cons, List.map_map, upFrom, List.map_cons, ← rgV_up n (lo + 1)]
    congr 1
    · simp
    · apply List.map_congr_left
      intro i _
      simp only [Function.comp]
      congr 1
      omega
theorem RDs.up {K : FG} {G : Hp} : ∀ (n : Nat) (lo : Int), RDs K G (upFrom lo n) ((upFrom lo n).map (fun d => match d with | .int i => V.int i | _ => V.non))
  | 0, _ => .nil
  | n + 1, lo => .cons (.int lo) (RDs.up n (lo + 1))
theorem rgV_R {K : FG} {G : Hp} (i j : Int) : RDs K G (upFrom i (j - i).toNat) (rgV i j) := by
  unfold rgV
  rw [rgV_up]
  exact RDs.up _ _
theorem de_lstR1 {p p2 pos2 : Pos} (hc : X.calm = true) (hg : Gl X "list") (hm : X.mg "list" = none) (hg2 : Gl X "range") (hm2 : X.mg "range" = none) (ha : DE X W a fa) (na : starEach [a] X.env = (false, eval a X.env) :: starEach [] X.env := by rfl)
    (nb : starEach [.Call (.Name "range" p2) [a] [] pos2] X.env = (false, eval (.Call (.Name "range" p2) [a] [] pos2) X.env) :: starEach [] X.env := by rfl) : DE X W (.Call (.Name "list" p) [.Call (.Name "range" p2) [a] [] pos2] [] pos) (eLstR1 fa) := by
  obtain ⟨ta, pa, qa⟩ := ha.ex
  refine ⟨_, pe_listRg hc hg hm (prg_1 hg2 hm2 pa na) nb, fun Z σ G H r Q S hp => qa Z σ G H r _ S ?_⟩
  unfold eLstR1 at hp
  cases e1 : fa r with
  | ok o r1 =>
    simp only [e1] at hp
    cases o <;> first | (exact hp.elim) | skip
    rename_i d
    cases d <;> first | (exact hp.elim) | skip
    rename_i j
    intro v G1 H1 S1 X1 R1
    cases R1
    dsimp only at hp
    split at hp
    · rename_i hj
      refine ⟨j, rfl, ⟨by decide, by decide, hj.1.1, hj.1.2, by rw [Int.sub_zero]; exact hj.2⟩, fun q hq => ?_⟩
      have rd := rgV_R (K := X.K) (G := G1) 0 j
      rw [Int.sub_zero] at rd
      obtain ⟨S2, X2⟩ := S1.newH (o := .lst (rgV 0 j)) hq
      obtain ⟨g0, h0, no⟩ := S1.fresh hq
      exact hp _ G1 _ S2 (X1.trans X2) ⟨q, rfl, g0, ⟨h0, X1.n _ hq⟩, no, _, upd_same, rd⟩
    · exact hp.elim
  | err c r1 => simp only [e1] at hp; exact hp
  | bad => simp only [e1] at hp; exact hp.elim
theorem de_lstR2 {p p2 pos2 : Pos} (hc : X.calm = true) (hg : Gl X "list") (hm : X.mg "list" = none) (hg2 : Gl X "range") (hm2 : X.mg "range" = none) (ha : DE X W a fa) (hb : DE X W b fb)
    (na : starEach [a, b] X.env = (false, eval a X.env) :: starEach [b] X.env := by rfl) (nb : starEach [b] X.env = (false, eval b X.env) :: starEach [] X.env := by rfl) (hpl : (backTo pos2 (starEach [b] X.env)).any (·.1) = false := by rfl)
    (nc : starEach [.Call (.Name "range" p2) [a, b] [] pos2] X.env = (false, eval (.Call (.Name "range" p2) [a, b] [] pos2) X.env) :: starEach [] X.env := by rfl) : DE X W (.Call (.Name "list" p) [.Call (.Name "range" p2) [a, b] [] pos2] [] pos) (eLstR2 fa fb) := by
  obtain ⟨ta, pa, qa⟩ := ha.ex
  obtain ⟨tb, pb, qb⟩ := hb.ex
  refine ⟨_, pe_listRg hc hg hm (prg_2 hg2 hm2 pa pb na nb hpl) nc, fun Z σ G H r Q S hp => qa Z σ G H r _ S ?_⟩
  unfold eLstR2 at hp
  cases e1 : fa r with
  | ok o r1 =>
    simp only [e1] at hp
    cases o <;> first | (exact hp.elim) | skip
    rename_i d
    cases d <;> first | (exact hp.elim) | skip
    rename_i i
    intro v G1 H1 S1 X1 R1
    cases R1
    dsimp only at hp
    refine qb Z σ G1 H1 r1 _ S1 ?_
    cases e2 : fb r1 with
    | ok o2 r2 =>
      simp only [e2] at hp
      cases o2 <;> first | (exact hp.elim) | skip
      rename_i d
      cases d <;> first | (exact hp.elim) | skip
      rename_i j
      intro v2 G2 H2 S2 X2 R2
      cases R2
      dsimp only at hp
      split at hp
      · rename_i hj
        refine ⟨i, j, rfl, rfl, ⟨hj.1.1.1, hj.1.1.2, hj.1.2.1, hj.1.2.2, hj.2⟩, fun q hq => ?_⟩
        have rd := rgV_R (K := X.K) (G := G2) i j
        obtain ⟨S3, X3⟩ := S2.newH (o := .lst (rgV i j)) hq
        obtain ⟨g0, h0, no⟩ := S2.fresh hq
        exact hp _ G2 _ S3 ((X1.trans X2).trans X3) ⟨q, rfl, g0, ⟨h0, X1.n _ (X2.n _ hq)⟩, no, _, upd_same, rd⟩
      · exact hp.elim
    | err c r2 => simp only [e2] at hp; exact fun C G' H' S' x m => hp C G' H' S' (X1.trans x) m
    | bad => simp only [e2] at hp; exact hp.elim
  | err c r1 => simp only [e1] at hp; exact hp
  | bad => simp only [e1] at hp; exact hp.elim
/-! ### zip, enumerate -/
theorem zipD_get : ∀ {xs ys : List D} {i : Nat} {d : D}, (zipD xs ys)[i]? = some d → ∃ x y, xs[i]? = some x ∧ ys[i]? = some y ∧ d = .tup [x, y]
  | [], _, i, d, h => by simp [zipD] at h
  | _ :: _, [], i, d, h => by simp [zipD] at h
  | x :: xs, y :: ys, 0, d, h => by
    have h' : some (D.tup [x, y]) = some d := h
    cases h'; exact ⟨x, y, rfl, rfl, rfl⟩
  | x :: xs, y :: ys, i + 1, d, h => by
    have h' : (zipD xs ys)[i]? = some d := h
    exact zipD_get (xs := xs) (ys := ys) (i := i) h'
theorem zipD_len : ∀ (xs ys : List D), (zipD xs ys).length = min xs.length ys.length
  | [], _ => by simp [zipD]
  | _ :: _, [] => by simp [zipD]
  | x :: xs, y :: ys => by
    show (zipD xs ys).length + 1 = _
    rw [zipD_len]; simp
theorem itr_pair {K : FG} {Z : Fr0} {G1 H : Hp} {σ : L2.St} {r : Ev} {T : Addr} {x y : V} {dx dy : D} (S : RS K Z G1 H r σ) (hT : H T = none) (h1 : RD K G1 dx x) (h2 : RD K G1 dy y) :
    ∃ G', RS K Z G' (upd H T (.tup [x, y])) r σ ∧ EX σ G1 H r G' (upd H T (.tup [x, y])) r ∧ RD K G' (.tup [dx, dy]) (.ref T) := by
  obtain ⟨S1, X1, R1⟩ := S.newT hT (.cons h1 (.cons h2 .nil))
  exact ⟨_, S1, X1, R1⟩
theorem itr_zipL {K : FG} {Z : Fr0} {G : Hp} {a b : Addr} {vs ws : List V} {xs ys : List D} (h : SqL K G a vs) (rd : RDs K G xs vs) (h2 : SqL K G b ws) (rd2 : RDs K G ys ws) : ItR K Z G (Itz K a b) (zipD xs ys) := by
  intro i σ r G1 H S sm
  have hq : SqL K H a vs := S.sg.seq (sm.seq h)
  have hq2 : SqL K H b ws := S.sg.seq (sm.seq h2)
  refine ⟨fun hl => ⟨vs, ws, hq, hq2, ?_⟩, fun d hd => ?_⟩
  · rw [zipD_len] at hl
    rw [← rd.length, ← rd2.length]; omega
  · obtain ⟨x, y, e1, e2, rfl⟩ := zipD_get hd
    obtain ⟨v, p1, p2⟩ := rd.get e1
    obtain ⟨w, q1, q2⟩ := rd2.get e2
    refine ⟨⟨vs, ws, v, w, hq, hq2, p1, q1⟩, fun z H' ⟨T, x', y', ez, hT, eH, k1, k2⟩ => ?_⟩
    have z1 := k1 vs hq
    have z2 := k2 ws hq2
    rw [p1] at z1; cases z1
    rw [q1] at z2; cases z2
    subst ez eH
    exact itr_pair S hT (p2.mono sm) (q2.mono sm)
theorem itr_zipT {K : FG} {Z : Fr0} {G : Hp} {a b : Addr} {vs ws : List V} {xs ys : List D} (h : SqT K G a vs) (rd : RDs K G xs vs) (h2 : SqT K G b ws) (rd2 : RDs K G ys ws) : ItR K Z G (RZ.ItzT K a b) (zipD xs ys) := by
  intro i σ r G1 H S sm
  have hq : SqT K H a vs := Same.seqT S.sg (Same.seqT sm h)
  have hq2 : SqT K H b ws := Same.seqT S.sg (Same.seqT sm h2)
  refine ⟨fun hl => ⟨vs, ws, hq, hq2, ?_⟩, fun d hd => ?_⟩
  · rw [zipD_len] at hl
    rw [← rd.length, ← rd2.length]; omega
  · obtain ⟨x, y, e1, e2, rfl⟩ := zipD_get hd
    obtain ⟨v, p1, p2⟩ := rd.get e1
    obtain ⟨w, q1, q2⟩ := rd2.get e2
    refine ⟨⟨vs, ws, v, w, hq, hq2, p1, q1⟩, fun z H' ⟨T, x', y', ez, hT, eH, k1, k2⟩ => ?_⟩
    have z1 := k1 vs hq
    have z2 := k2 ws hq2
    rw [p1] at z1; cases z1
    rw [q1] at z2; cases z2
    subst ez eH
    exact itr_pair S hT (p2.mono sm) (q2.mono sm)
theorem asL_RD {K : FG} {G H : Hp} {d : D} {v : V} {ds : List D} (rd : RD K G d v) (e : asL d = some ds) : ∃ a vs, v = .ref a ∧ SqL K G a vs ∧ RDs K G ds vs := by
  cases d <;> first | (cases e; done) | skip
  · cases e; cases rd with | lst h1 h2 => exact ⟨_, _, rfl, .of h1, h2⟩
  · cases e; cases rd with | kls h1 h2 => exact ⟨_, _, rfl, h1, h2⟩
theorem asT_RD {K : FG} {G : Hp} {d : D} {v : V} {ds : List D} (rd : RD K G d v) (e : asT d = some ds) : ∃ a vs, v = .ref a ∧ SqT K G a vs ∧ RDs K G ds vs := by
  cases d <;> first | (cases e; done) | skip
  · cases e; cases rd with | tup h1 h2 => exact ⟨_, _, rfl, .inl (.inl h1), h2⟩
  · cases e; cases rd with | ktp h1 h2 => exact ⟨_, _, rfl, h1, h2⟩
theorem di_zip {p tpos : Pos} {elts : List Expr} {kk : Nat} (hg : Gl X "zip") (hm : X.mg "zip" = none) (ha : DE X W a fa) (hb : DE X W b fb) (hs : starEach [a, b] X.env = (false, eval a X.env) :: starEach [b] X.env := by rfl)
    (hs2 : starEach [b] X.env = (false, eval b X.env) :: starEach [] X.env := by rfl) (hpl : (backTo pos (starEach [b] X.env)).any (·.1) = false := by rfl) : DI X W (.Tuple elts kk tpos) (.Call (.Name "zip" p) [a, b] [] pos) (iZip fa fb) := by
  obtain ⟨ta, pa, qa⟩ := ha.ex
  obtain ⟨tb, pb, qb⟩ := hb.ex
  refine ⟨_, RZ.pi_zipA hg hm (pa_cons pa (pa_cons pb pa_nil hs2) hs) hs hpl, fun Z σ G H r R S hp => ?_⟩
  refine qa Z σ G H r _ S ?_
  unfold iZip at hp
  cases e1 : fa r with
  | ok o r1 =>
    simp only [e1] at hp
    intro v G1 H1 S1 X1 R1
    refine qb Z σ G1 H1 r1 _ S1 ?_
    cases e2 : fb r1 with
    | ok o2 r2 =>
      simp only [e2] at hp
      intro w G2 H2 S2 X2 R2
      cases e3 : fzo r2 o with
      | none => simp only [e3] at hp; exact hp.elim
      | some p3 =>
        obtain ⟨x, r3⟩ := p3
        simp only [e3] at hp
        obtain ⟨G3, S3, rd3, z3, k3⟩ := RO.fzo S2 (R1.keep X2) e3
        cases e4 : fzo r3 o2 with
        | none => simp only [e4] at hp; exact hp.elim
        | some p4 =>
          obtain ⟨y, r4⟩ := p4
          simp only [e4] at hp
          obtain ⟨G4, S4, rd4, z4, _⟩ := RF.fzo S3 (k3 _ _ (.inl (R2.base X1.n))) e4
          have X4 := z4.ex (z3.ex (X1.trans X2))
          cases q1 : asL x with
          | some xs =>
            cases q2 : asL y with
            | some ys =>
              simp only [q1, q2] at hp
              obtain ⟨a1, vs, rfl, h1, h2⟩ := asL_RD (H := H2) (rd3.mono z4.g) q1
              obtain ⟨b1, ws, rfl, h3, h4⟩ := asL_RD (H := H2) rd4 q2
              exact ⟨_, _, vs, ws, rfl, .inl ⟨S4.sg.seq h1, S4.sg.seq h3, hp _ G4 H2 S4 X4 fun Z' => itr_zipL h1 h2 h3 h4⟩⟩
            | none =>
              have hx : asT x = none := by cases x <;> first | rfl | (cases q1; done)
              simp only [q1, q2, hx] at hp
              exact hp.elim
          | none =>
            cases q3 : asT x with
            | none => simp only [q1, q3] at hp; exact hp.elim
            | some xs =>
              cases q4 : asT y with
              | none => simp only [q1, q3, q4] at hp; exact hp.elim
              | some ys =>
                simp only [q1, q3, q4] at hp
                obtain ⟨a1, vs, rfl, h1, h2⟩ := asT_RD (rd3.mono z4.g) q3
                obtain ⟨b1, ws, rfl, h3, h4⟩ := asT_RD rd4 q4
                exact ⟨_, _, vs, ws, rfl, .inr ⟨Same.seqT S4.sg h1, Same.seqT S4.sg h3, hp _ G4 H2 S4 X4 fun Z' => itr_zipT h1 h2 h3 h4⟩⟩
    | err c r2 => simp only [e2] at hp; exact fun C G' H' S' x m => hp C G' H' S' (X1.trans x) m
    | bad => simp only [e2] at hp; exact hp.elim
  | err c r1 => simp only [e1] at hp; exact hp
  | bad => simp only [e1] at hp; exact hp.elim
end
end DL
end

section
set_option Elab.async false
set_option linter.all false
set_option maxRecDepth 100000
set_option autoImplicit false
/-! DL17: enumerate, {k: v}, get, insert over data. -/
namespace DL
open PySem PySem.Spec PyProof.Rows L2
section
variable {X : Cx} {W : WX} {tg a b c e : Expr} {es : List Expr} {fa fb fc : E} {pos : Pos}
theorem enumD_get : ∀ {xs : List D} {k : Int} {i : Nat} {d : D}, (enumD k xs)[i]? = some d → ∃ x, xs[i]? = some x ∧ d = .tup [.int (k + i), x]
  | [], k, i, d, h => by simp [enumD] at h
  | x :: xs, k, 0, d, h => by
    have h' : some (D.tup [.int k, x]) = some d := h
    cases h'; exact ⟨x, rfl, by simp⟩
  | x :: xs, k, i + 1, d, h => by
    have h' : (enumD (k + 1) xs)[i]? = some d := h
    obtain ⟨y, e1, e2⟩ := enumD_get (xs := xs) (i := i) h'
    exact ⟨y, e1, by rw [e2]; congr 3; omega⟩
theorem enumD_len : ∀ (xs : List D) (k : Int), (enumD k xs).length = xs.length
  | [], _ => rfl
  | x :: xs, k => congrArg (· + 1) (enumD_len xs (k + 1))
theorem itr_enum {K : FG} {Z : Fr0} {G : Hp} {a : Addr} {vs : List V} {xs : List D} (h : SqL K G a vs) (rd : RDs K G xs vs) : ItR K Z G (Ite K a) (enumD 0 xs) := by
  intro i σ r G1 H S sm
  have hq : SqL K H a vs := S.sg.seq (sm.seq h)
  refine ⟨fun hl => ⟨vs, hq, by rw [enumD_len] at hl; rw [← rd.length]; exact hl⟩, fun d hd => ?_⟩
  obtain ⟨x, e1, rfl⟩ := enumD_get hd
  obtain ⟨v, p1, p2⟩ := rd.get e1
  refine ⟨⟨vs, v, hq, p1⟩, fun z H' ⟨T, x', ez, hT, eH, k1⟩ => ?_⟩
  have z1 := k1 vs hq
  rw [p1] at z1; cases z1
  subst ez eH
  rw [show (0 : Int) + (i : Int) = (i : Int) by omega]
  exact itr_pair S hT (.int _) (p2.mono sm)
theorem di_enum {p tpos : Pos} {elts : List Expr} {kk : Nat} (hg : Gl X "enumerate") (hm : X.mg "enumerate" = none) (ha : DE X W a fa) (hs : starEach [a] X.env = [(false, eval a X.env)] := by rfl) : DI X W (.Tuple elts kk tpos) (.Call (.Name "enumerate" p) [a] [] pos) (DL.iEnum fa) := by
  obtain ⟨ta, pa, qa⟩ := ha.ex
  refine ⟨_, pi_enum hg hm (pa_cons pa pa_nil hs) hs, fun Z σ G H r R S hp => qa Z σ G H r _ S ?_⟩
  unfold DL.iEnum at hp
  cases e1 : fa r with
  | ok o r1 =>
    simp only [e1] at hp
    intro v G1 H1 S1 X1 R1
    cases e3 : fzo r1 o with
    | none => simp only [e3] at hp; exact hp.elim
    | some p3 =>
      obtain ⟨x, r3⟩ := p3
      simp only [e3] at hp
      obtain ⟨G3, S3, rd3, z3, k3⟩ := RO.fzo S1 R1 e3
      cases q1 : asL x with
      | none => simp only [q1] at hp; exact hp.elim
      | some xs =>
        simp only [q1] at hp
        obtain ⟨a1, vs, rfl, h1, h2⟩ := asL_RD (H := H1) rd3 q1
        exact ⟨_, vs, rfl, S3.sg.seq h1, hp _ G3 H1 S3 (z3.ex X1) fun Z' => itr_enum h1 h2⟩
  | err c r1 => simp only [e1] at hp; exact hp
  | bad => simp only [e1] at hp; exact hp.elim
/-! ### {k: v} -/
theorem kV_of {K : FG} {G H : Hp} {d : D} {v : V} {key : DK} (h : RH K G H d v) (e : keyD d = some key) : v = kV key := by
  cases d <;> first | (cases e; done) | skip
  · cases e; cases h; rfl
  · cases e; cases h; rfl
theorem de_disp1 {fk fv : E} {k v : Expr} (hk : DE X W k fk) (hv : DE X W v fv) : DE X W (.Dict [some k] [v] pos) (eDisp1 fk fv) := by
  obtain ⟨tk, pk, qk⟩ := hk.ex
  obtain ⟨tv, pv, qv⟩ := hv.ex
  refine ⟨_, pe_disp (pps_cons pk pv pps_nil) (by rfl) (by rfl) (by exact nofun) (by show 1 ≤ 15; decide), fun Z σ G H r Q S hp p hn => ?_⟩
  obtain ⟨S0, X0⟩ := S.newH (o := .dK []) hn
  obtain ⟨g0, h0, no⟩ := S.fresh hn
  refine qk Z σ G _ r _ S0 ?_
  unfold eDisp1 at hp
  cases e1 : fk r with
  | ok o r1 =>
    simp only [e1] at hp
    intro x G1 H1 S1 X1 R1
    refine qv Z σ G1 H1 r1 _ S1 ?_
    cases e2 : fv r1 with
    | ok o2 r2 =>
      simp only [e2] at hp
      intro y G2 H2 S2 X2 R2
      cases e3 : rsv r2 o with
      | none => simp only [e3] at hp; exact hp.elim
      | some dk =>
        cases e4 : keyD dk with
        | none => simp only [e3, e4] at hp; exact hp.elim
        | some key =>
          cases e5 : fzo r2 o2 with
          | none => simp only [e3, e4, e5] at hp; exact hp.elim
          | some p5 =>
            obtain ⟨dv, r3⟩ := p5
            simp only [e3, e4, e5] at hp
            have ek := kV_of ((R1.keep X2).rsv S2 e3) e4
            obtain ⟨G3, S3, rd3, z3, _⟩ := RO.fzo S2 R2 e5
            have X12 := X1.trans X2
            have hp2 : H2 p = some (.dK []) := X12.h p _ upd_same no
            have X13 := X1.trans (z3.ex X2)
            have gp2 : G2 p = none := by
              cases q : G2 p with
              | none => rfl
              | some u =>
                rcases X12.f p u q with k | k | k
                · rw [g0] at k; cases k
                · exact (k.no upd_same (by exact nofun)).elim
                · exact absurd k no
            have no2 : ¬ ownAt r2 σ p := fun k => no (X12.o p k)
            have nb : H1 p ≠ none := by
              rw [X1.h p _ upd_same no]; exact nofun
            have gp3 : G3 p = none := by
              cases q : G3 p with
              | none => rfl
              | some u =>
                rcases z3.f p u q with k | k | k
                · rw [gp2] at k; cases k
                · exact absurd k no2
                · exact absurd k nb
            have no3 : ¬ ownAt r3 σ p := fun k => no2 (z3.o p k)
            refine ⟨hp2, [(key, y)], by rw [ek]; rfl, by show 1 ≤ 15; decide, ?_⟩
            have em : mergeK [] [(key, y)] = [(key, y)] := rfl
            rw [em]
            have S4 := S3.other (u := .dK [(key, y)]) hp2 gp3 h0 no3
            have X4 : EX σ G H r G3 (upd H2 p (.dK [(key, y)])) r3 := by
              have A := X0.trans X13
              refine ⟨A.g, fun a o h n => ?_, fun a h => ?_, A.f, A.o⟩
              · have na : a ≠ p := fun z => by subst z; rw [hn] at h; cases h
                rw [upd_ne na]; exact A.h a o h n
              · by_cases z : a = p
                · subst z; exact hn
                · rw [upd_ne z] at h; exact A.n a h
            exact hp _ G3 _ S4 X4 ⟨p, rfl, gp3, ⟨h0, hn⟩, no3, [(key, y)], upd_same, rfl, .one rd3⟩
    | err c r2 => simp only [e2] at hp; exact fun C G' H' S' x m => hp C G' H' S' (X0.trans (X1.trans x)) m
    | bad => simp only [e2] at hp; exact hp.elim
  | err c r1 => simp only [e1] at hp; exact fun C G' H' S' x m => hp C G' H' S' (X0.trans x) m
  | bad => simp only [e1] at hp; exact hp.elim
/-! ### d.get(k, x); l.insert(i, y) -/
theorem de_get2 {d k x : Expr} {fd fk fx : E} {apos : Pos} (hu : X.A.units + 1 < cLine) (hd : DE X W d fd) (hk : DE X W k fk) (hx : DE X W x fx) (m : M2 X d "get" apos k x pos) : DE X W (.Call (.Attribute d "get" apos) [k, x] [] pos) (eGet2 fd fk fx) := by
  obtain ⟨td, pd, qd⟩ := hd.ex
  obtain ⟨tk, pk, qk⟩ := hk.ex
  obtain ⟨tx, px, qx⟩ := hx.ex
  refine ⟨_, pe_dget2 hu pd pk px m, fun Z σ G H r Q S hp => qd Z σ G H r _ S ?_⟩
  unfold eGet2 at hp
  cases e1 : fd r with
  | ok o r1 =>
    simp only [e1] at hp
    split at hp
    · rename_i hd0
      intro v G1 H1 S1 X1 R1
      obtain ⟨a, ea, ia⟩ : ∃ a, v = .ref a ∧ IsD H1 a := by
        cases e0 : rsv r1 o with
        | none => rw [e0] at hd0; cases hd0
        | some d0 =>
          rw [e0] at hd0
          have rh := R1.rsv S1 e0
          cases d0 <;> first | (cases hd0; done) | skip
          · obtain ⟨a, ws, rfl, h1, _⟩ := rh; exact ⟨a, rfl, .inl ⟨ws, h1⟩⟩
          · obtain ⟨a, ws, rfl, h1, _⟩ := rh; exact ⟨a, rfl, .inr ⟨ws, .inl h1⟩⟩
      refine ⟨a, ea, ia, qk Z σ G1 H1 r1 _ S1 ?_⟩
      cases e2 : fk r1 with
      | ok p r2 =>
        simp only [e2] at hp
        intro y G2 H2 S2 X2 R2
        refine qx Z σ G2 H2 r2 _ S2 ?_
        cases e3 : fx r2 with
        | ok q r3 =>
          simp only [e3] at hp
          cases q <;> first | (exact hp.elim) | skip
          rename_i dx
          intro z G3 H3 S3 X3 R3
          dsimp only at hp
          cases e4 : rsv r3 o with
          | none => simp only [e4] at hp; exact hp.elim
          | some dd =>
            cases e5 : rsv r3 p with
            | none => simp only [e4, e5] at hp; exact hp.elim
            | some dk =>
              simp only [e4, e5] at hp
              have X13 := X1.trans (X2.trans X3)
              have rd := ((R1.keep X2).keep X3).rsv S3 e4
              have rk := (R2.keep X3).rsv S3 e5
              cases e6 : dget dd dk with
              | none => simp only [e6] at hp; exact hp.elim
              | some od =>
                obtain ⟨a', o', ea', g, kk⟩ := dgetR S3 rd rk e6
                rw [ea] at ea'; cases ea'
                rcases kk with ⟨k1, k2⟩ | ⟨dv, w, k1, k2, rw'⟩
                · subst k1 k2
                  simp only [e6] at hp
                  exact ⟨none, g, hp _ G3 H3 S3 X13 R3⟩
                · subst k1 k2
                  simp only [e6] at hp
                  exact ⟨some w, g, hp _ G3 H3 S3 X13 rw'⟩
        | err c r3 => simp only [e3] at hp; exact fun C G' H' S' x m => hp C G' H' S' (X1.trans (X2.trans x)) m
        | bad => simp only [e3] at hp; exact hp.elim
      | err c r2 => simp only [e2] at hp; exact fun C G' H' S' x m => hp C G' H' S' (X1.trans x) m
      | bad => simp only [e2] at hp; exact hp.elim
    · exact hp.elim
  | err c r1 => simp only [e1] at hp; exact hp
  | bad => simp only [e1] at hp; exact hp.elim
theorem md_insert : MutD X "list.insert" gInsert := by
  refine ⟨_, mt_insert, ?_⟩
  intro G H a d d' ds vs z Q sg rm rd e h
  unfold gInsert at e
  split at e
  · split at e <;> cases e
    rename_i hz
    obtain ⟨ws, k1, k2⟩ := rm
    cases rd with | cons r1 r2 =>
    cases r2 with | cons r3 r4 =>
    cases r4; cases r1
    exact ⟨a, ws, _, _, rfl, rfl, k1, by rw [← k2.length]; exact hz.1, hz.2.1, hz.2.2, h _ _ ⟨_, upd_same, ((k2.take _).append (.one r3)).append (k2.drop _)⟩ ⟨.non, rfl, .non⟩⟩
  · cases e
end
end DL
end

section
set_option Elab.async false
set_option linter.all false
set_option maxRecDepth 100000
set_option autoImplicit false
/-! DL18: dict comprehensions over data. -/
namespace DL
open PySem PySem.Spec PyProof.Rows L2
/-- at a turn's start: the state, what stands since the beginning, the new list -/
structure DcI (K : FG) (Z : Fr0) (σ : L2.St) (vs : List Nat) (Gs Hs : Hp) (rs : Ev) (G H : Hp) (r : Ev) (p : Addr) (acc : List (DK × D)) : Prop where
  S : RS K (Z.at Gs) G H (wipeE r vs) (L2.wipe σ vs)
  h : ∀ a o, Hs a = some o → ¬ ownAt rs σ a → H a = some o
  n : ∀ a, H a = none → Hs a = none
  f : ∀ a o, G a = some o → Gs a = some o ∨ nw Hs a o ∨ ownAt rs σ a
  o : ∀ a, ownAt (wipeE r vs) (L2.wipe σ vs) a → ownAt rs σ a
  l : r.length = rs.length
  d : ∃ ws, H p = some (.dK ws) ∧ ws.map (·.1) = acc.map (·.1) ∧ RDs K G (acc.map (·.2)) (ws.map (·.2))
  g0 : G p = none
  h0 : Hs p = none
section
variable {X : Cx} {W : WX} {tg : Expr} {t : Tg} {fi : I} {fc : T} {fk fv : E} {vs : List Nat}
theorem dc_post {wi : L2.TI} (hts : ∀ i ∈ t.slots, i ∈ vs) {Z : Fr0} {σ : L2.St} {G H : Hp} {r : Ev} {Q : VK} (qi : ∀ (R : L2.It → Hp → Prop), IPost X W Z σ G H r R (fi r) → wi σ H R) (S : RS X.K Z G H r σ) (hp : EPost X W Z σ G H r Q (eDc vs t fi fc fk fv r)) : tDc wi (tDG X t) (tDT X W0 fc) (tD X W0 fk) (tD X W0 fv) vs σ H Q := by
  refine qi _ ?_
  unfold eDc at hp
  cases e1 : fi r with
  | ok ds rs =>
    simp only [e1] at hp
    split at hp
    · rename_i hvs
      have hv : ∀ v ∈ vs, isOw rs[v]? = false := fun v k => by
        have := List.all_eq_true.mp hvs v k
        cases q : isOw rs[v]? with
        | false => rfl
        | true => rw [q] at this; cases this
      intro J Gs Hs Ss Xs it p hpn
      have it1 := it (Z.at Gs)
      obtain ⟨gp, h0p, nop⟩ := Ss.fresh hpn
      have ow_w : ∀ {a : Addr}, ownAt (wipeE rs vs) (L2.wipe σ vs) a → ownAt rs σ a := fun {a} ⟨i, k1, k2⟩ => by
        have hi : i ∉ vs := fun k => by
          obtain ⟨b, d, e⟩ := isOw_some k1
          have := wipeE_in k e
          cases this
        exact ⟨i, by rw [← wipeE_out hi]; exact k1, by rw [← wipe_out hi]; exact k2⟩
      have S0 : RS X.K (Z.at Gs) Gs (upd Hs p (.dK [])) rs σ := ((Ss.newH (o := .dK []) hpn).1).fwd Ss.g0 (Same.refl _)
      have start : DcI X.K Z σ vs Gs Hs rs Gs (upd Hs p (.dK [])) rs p [] :=
        ⟨S0.wipe vs, fun a o h n => same_new hpn a o h, fun a h => by
          by_cases z : a = p
          · subst z; exact hpn
          · rw [upd_ne z] at h; exact h, fun a o h => .inl h, fun a h => ow_w h, rfl, ⟨[], upd_same, rfl, .nil⟩, gp, hpn⟩
      refine ⟨fun i m H => i + m = ds.length ∧ ∃ G r acc, DcI X.K Z σ vs Gs Hs rs G H r p acc ∧ EPost X W Z σ Gs Hs rs Q (dcGo vs t fc fk fv rs (ds.drop i) acc r), ⟨ds.length, by omega, Gs, rs, [], start, EPost.pre Xs (by simpa using hp)⟩, fun i m H hW => ?_⟩
      obtain ⟨hm, G, r, acc, L, pp⟩ := hW
      obtain ⟨j1, j2⟩ := it1 i (L2.wipe σ vs) (wipeE r vs) G H L.S L.S.g0
      cases hd : ds[i]? with
      | none =>
        have hl : ds.length ≤ i := List.getElem?_eq_none_iff.mp hd
        refine .inl ⟨j1 hl, ?_⟩
        rw [List.drop_eq_nil_of_le hl] at pp
        have Sb : RS X.K (Z.at Gs) G H (backE rs r vs) σ := RS.back (S0) L.S L.l hv L.S.g0
        have ob : ∀ a, ownAt (backE rs r vs) σ a → ownAt rs σ a := fun a ⟨i, k1, k2⟩ => by
          by_cases hi : i ∈ vs
          · obtain ⟨b, d, e⟩ := isOw_some k1
            have := backE_in hi e
            rw [List.getD_eq_getElem?_getD] at this
            have h2 := hv i hi
            cases q : rs[i]? with
            | none => rw [q] at this; cases this
            | some x =>
              rw [q] at this h2
              have : x = .ow b d := this.symm
              subst this; cases h2
          · rw [backE_out hi] at k1
            exact L.o a ⟨i, by rw [wipeE_out hi]; exact k1, by rw [wipe_out hi]; exact k2⟩
        have X2 : EX σ Gs Hs rs G H (backE rs r vs) := ⟨L.S.g0, L.h, L.n, L.f, ob⟩
        refine pp (.ref p) G H (Sb.bwd Ss.g0 Ss.fr) X2 ⟨p, rfl, L.g0, ⟨h0p, hpn⟩, fun k => nop (ob p k), ?_⟩
        obtain ⟨ws, w1, w2, w3⟩ := L.d
        exact ⟨ws, w1, w2, w3⟩
      | some d =>
        obtain ⟨k1, k2⟩ := j2 d hd
        have hil : i < ds.length := (List.getElem?_eq_some_iff.mp hd).1
        have hdr : ds.drop i = d :: ds.drop (i + 1) := by
          rw [List.drop_eq_getElem_cons hil, (List.getElem?_eq_some_iff.mp hd).2]
        rw [hdr] at pp
        unfold dcGo at pp
        refine .inr ⟨k1, fun H' => ∃ G' r' acc', DcI X.K Z σ vs Gs Hs rs G' H' r' p acc' ∧ EPost X W Z σ Gs Hs rs Q (dcGo vs t fc fk fv rs (ds.drop (i + 1)) acc' r'), fun H' ⟨G', r', acc', L', p'⟩ => ⟨m - 1, by omega, by omega, G', r', acc', L', p'⟩, fun x H2 y => ?_⟩
        obtain ⟨G2, S2, X2, rd⟩ := k2 x H2 y
        cases e2 : t.put d (wipeE r vs) with
        | none => simp only [e2] at pp; exact pp.elim
        | some r1 =>
          simp only [e2] at pp
          refine ⟨Z.at Gs, G2, wipeE r vs, r1, d, S2, rd, e2, fun σ3 S3 ⟨l3, o3⟩ => ?_⟩
          have ew : L2.wipe σ3 vs = L2.wipe σ vs := by
            refine (wipe_ext l3 fun i hi => o3 i fun k => hi (hts i k)).trans ?_
            exact wipe_ext (wipe_length σ vs) fun i hi => wipe_out hi
          refine ⟨ew, Z.at Gs, G2, r1, S3, ?_⟩
          -- what stands through the turn
          have now1 : ∀ a, ownAt r1 σ3 a → ownAt (wipeE r vs) (L2.wipe σ vs) a := fun a ⟨i, h1, h2⟩ => by
            have h1' := isOw_put e2 h1
            have hi : i ∉ vs := fun k => by
              obtain ⟨b, d, e⟩ := isOw_some h1'
              cases wipeE_in k e
            refine ⟨i, h1', ?_⟩
            rw [← o3 i fun k => hi (hts i k)]; exact h2
          -- after more of the block: a state of the same slots
          have go : ∀ {G4 H4 : Hp} {r4 : Ev} {acc' : List (DK × D)} {u : HO}, RS X.K (Z.at Gs) G4 H4 r4 σ3 → EX σ3 G2 H2 r1 G4 H4 r4 → (u = .dK [] → False) ∨ True → (∃ ws, upd H4 p u p = some (.dK ws) ∧ ws.map (·.1) = acc'.map (·.1) ∧ RDs X.K G4 (acc'.map (·.2)) (ws.map (·.2))) → DcI X.K Z σ vs Gs Hs rs G4 (upd H4 p u) r4 p acc' := fun {G4 H4 r4 acc' u} S4 X4 _ hd => by
            have hp2 : ∃ ws, H2 p = some (.dK ws) := by
              obtain ⟨ws, w1, _, _⟩ := L.d
              exact ⟨ws, X2.h p _ w1 fun k => nop (L.o p k)⟩
            have gp2 : G2 p = none := by
              obtain ⟨ws, w1, _, _⟩ := L.d
              cases q : G2 p with
              | none => rfl
              | some u =>
                rcases X2.f p u q with k | k | k
                · rw [L.g0] at k; cases k
                · exact (k.no w1 (by exact nofun)).elim
                · exact absurd (L.o p k) nop
            have no1 : ¬ ownAt r1 σ3 p := fun k => nop (L.o p (now1 p k))
            obtain ⟨ws2, hp2⟩ := hp2
            have hp4 : H4 p = some (.dK ws2) := X4.h p _ hp2 no1
            have gp4 : G4 p = none := by
              cases q : G4 p with
              | none => rfl
              | some u =>
                rcases X4.f p u q with k | k | k
                · rw [gp2] at k; cases k
                · exact (k.no hp2 (by exact nofun)).elim
                · exact absurd k no1
            have no4 : ¬ ownAt r4 σ3 p := fun k => no1 (X4.o p k)
            have own4 : ∀ a, ownAt (wipeE r4 vs) (L2.wipe σ3 vs) a → ownAt rs σ a := fun a ⟨i, h1, h2⟩ => by
              have hi : i ∉ vs := fun k => by
                obtain ⟨b, d, e⟩ := isOw_some h1
                cases wipeE_in k e
              rw [wipeE_out hi] at h1
              rw [wipe_out hi] at h2
              exact L.o a (now1 a (X4.o a ⟨i, h1, h2⟩))
            have S5 := (S4.other (u := u) hp4 gp4 h0p no4).wipe vs
            rw [ew] at S5 own4
            refine ⟨S5, fun a o h n => ?_, fun a h => ?_, fun a o h => ?_, own4, ?_, hd, gp4, hpn⟩
            · have na : a ≠ p := fun z => by subst z; rw [hpn] at h; cases h
              rw [upd_ne na]
              refine X4.h a o (X2.h a o (L.h a o h n) fun k => n (L.o a k)) fun k => n (L.o a (now1 a k))
            · by_cases z : a = p
              · subst z; exact hpn
              · rw [upd_ne z] at h
                exact L.n a (X2.n a (X4.n a h))
            · rcases X4.f a o h with k | k | k
              · rcases X2.f a o k with k | k | k
                · exact L.f a o k
                · exact .inr (nw.back (L.h a) (L.n a) k)
                · exact .inr (.inr (L.o a k))
              · exact .inr (nw.back (fun u e no => X2.h a u (L.h a u e no) fun q => no (L.o a q)) (fun z => L.n a (X2.n a z)) k)
              · exact .inr (.inr (L.o a (now1 a k)))
            · have := S4.len
              have h3 := l3
              have h4 := wipe_length σ vs
              have h5 := Ss.len
              omega
          have self : ∀ {G4 H4 : Hp} {r4 : Ev}, RS X.K (Z.at Gs) G4 H4 r4 σ3 → EX σ3 G2 H2 r1 G4 H4 r4 → ∃ ws, H4 p = some (.dK ws) ∧ ws.map (·.1) = acc.map (·.1) ∧ RDs X.K G4 (acc.map (·.2)) (ws.map (·.2)) := fun {G4 H4 r4} S4 X4 => by
            obtain ⟨ws, w1, w2, w3⟩ := L.d
            exact ⟨ws, X4.h p _ (X2.h p _ w1 fun k => nop (L.o p k)) fun k => nop (L.o p (now1 p k)), w2, (w3.mono X2.g).mono X4.g⟩
          cases e3 : fc r1 with
          | ok b r2 =>
            cases b with
            | false =>
              simp only [e3] at pp
              intro G4 H4 S4 X4
              refine iteF ?_
              obtain ⟨ws, w1, w2, w3⟩ := self S4 X4
              have e : upd H4 p (.dK ws) = H4 := by
                funext c
                by_cases z : c = p
                · subst z; rw [upd_same, w1]
                · rw [upd_ne z]
              have L' := go (u := .dK ws) S4 X4 (.inr trivial) ⟨ws, upd_same, w2, w3⟩
              rw [e] at L'
              exact ⟨G4, r2, acc, L', pp⟩
            | true =>
              simp only [e3] at pp
              intro G4 H4 S4 X4
              refine iteT ⟨Z.at Gs, G4, r2, S4, ?_⟩
              cases e4 : fk r2 with
              | ok o r3 =>
                simp only [e4] at pp
                intro y G5 H5 S5 X5 R5
                refine ⟨Z.at Gs, G5, r3, S5, ?_⟩
                cases e6 : fv r3 with
                | ok o2 r4 =>
                  simp only [e6] at pp
                  intro z G6 H6 S6 X6 R6
                  cases e7 : rsv r4 o with
                  | none => simp only [e7] at pp; exact pp.elim
                  | some dk =>
                    cases e8 : keyD dk with
                    | none => simp only [e7, e8] at pp; exact pp.elim
                    | some key =>
                      cases e9 : fzo r4 o2 with
                      | none => simp only [e7, e8, e9] at pp; exact pp.elim
                      | some p9 =>
                        obtain ⟨dv, r5⟩ := p9
                        simp only [e7, e8, e9] at pp
                        have ek := kV_of ((R5.keep X6).rsv S6 e7) e8
                        obtain ⟨G7, S7, rd7, z7, _⟩ := RO.fzo S6 R6 e9
                        have X47 := X4.trans (X5.trans (z7.ex X6))
                        split at pp
                        · rename_i hz
                          obtain ⟨ws, w1, w2, w3⟩ := self S7 X47
                          have hl : ws.length = acc.length := by simpa using congrArg List.length w2
                          obtain ⟨u1, u2⟩ := putR key rd7 w2 w3
                          exact ⟨ws, key, ek, w1, by rw [hl]; exact hz, G7, r5, putD acc key dv, go S7 X47 (.inr trivial) ⟨_, upd_same, u1, u2⟩, pp⟩
                        · exact pp.elim
                | err c r4 => simp only [e6] at pp; exact pp.elim
                | bad => simp only [e6] at pp; exact pp.elim
              | err c r3 => simp only [e4] at pp; exact pp.elim
              | bad => simp only [e4] at pp; exact pp.elim
          | err c r2 => simp only [e3] at pp; exact pp.elim
          | bad => simp only [e3] at pp; exact pp.elim
    · exact hp.elim
  | err c r1 => simp only [e1] at hp; exact hp
  | bad => simp only [e1] at hp; exact hp.elim
variable {kx vx iter : Expr} {ifs : List Expr} {scope : Scope} {own : List (Str × Nat)} {pos : Pos}
theorem de_dc (hc : X.calm = true) (hN : X.N.Nodup) (hi : DI X W tg iter fi) (ok : BlkOk X.N X.env.scope scope own)
    (hg : ∀ (s : Shared) (H : Hp) (C : Addr) (cl : List (Str × Addr)) (fp : List Addr), DG (X.blk s H scope (compEnvC scope cl C X.env) fp) tg t) (ht : ∀ (s : Shared) (H : Hp) (C : Addr) (cl : List (Str × Addr)) (fp : List Addr), DIf (X.blk s H scope (compEnvC scope cl C X.env) fp) W0 ifs fc)
    (hk : ∀ (s : Shared) (H : Hp) (C : Addr) (cl : List (Str × Addr)) (fp : List Addr), DE (X.blk s H scope (compEnvC scope cl C X.env) fp) W0 kx fk) (hv : ∀ (s : Shared) (H : Hp) (C : Addr) (cl : List (Str × Addr)) (fp : List Addr), DE (X.blk s H scope (compEnvC scope cl C X.env) fp) W0 vx fv)
    (hts : ∀ i ∈ t.slots, i ∈ own.map (·.2)) (hvs : own.map (·.2) = vs) (hs : ∀ x, foldedSetIterable iter X.env x = pure x := by intro _; rfl) :
    DE X W (.DictComp kx vx [⟨tg, iter, ifs, 0⟩] scope pos) (eDc vs t fi fc fk fv) := by
  subst hvs
  obtain ⟨wi, p, q⟩ := hi.ex
  exact ⟨_, pe_dc (own := own) (g := tDG X t) (tt := tDT X W0 fc) (tk := tD X W0 fk) (tv := tD X W0 fv) hc hN p ok (fun s H C cl fp => (hg s H C cl fp).canon) (fun s H C cl fp => (ht s H C cl fp).canon) (fun s H C cl fp => (hk s H C cl fp).canon) (fun s H C cl fp => (hv s H C cl fp).canon) hs,
    fun Z σ G H r Q S hp => dc_post hts (fun R => q Z σ G H r R S) S hp⟩
end
end DL
end

section
set_option Elab.async false
set_option linter.all false
set_option maxRecDepth 100000
set_option autoImplicit false
/-! DL19: a dict is locked while it is walked. -/
namespace DL
open PySem PySem.Spec PyProof.Rows L2
section
variable {K : FG} {G : Hp} {p : Addr} {od : Obj} {ks : List (Key × V)}
/-- what stands at p is locked, if anything stands there -/
def lockAt (G : Hp) (p : Addr) (o : HO) : Hp := fun a => if a = p then (match G p with
  | some _ => some o
  | none => none) else G a
theorem lock_rd {w : HO} (hw : ∀ o u, w ≠ .frz o u) (hp : G p = some (.dK ks)) {a : Addr} (h : Rd G a w) : Rd (upd G p (.frz od (.dK ks))) a w := by
  by_cases e : a = p
  · subst e
    rcases h with h | ⟨o, h⟩
    · rw [hp] at h; cases h; exact .inr ⟨od, upd_same⟩
    · rw [hp] at h; cases h
  · rcases h with h | ⟨o, h⟩
    · exact .inl (by rw [upd_ne e]; exact h)
    · exact .inr ⟨o, by rw [upd_ne e]; exact h⟩
theorem lock_eq {w : HO} (hw : ∀ ks, w ≠ .dK ks) (hp : G p = some (.dK ks)) {a : Addr} (h : G a = some w) : upd G p (.frz od (.dK ks)) a = some w := by
  by_cases e : a = p
  · subst e
    rw [hp] at h; cases h; exact absurd rfl (hw _)
  · rw [upd_ne e]; exact h
theorem unlock_rd {w : HO} (hw : ∀ o u, w ≠ .frz o u) (hp : G p = some (.frz od (.dK ks))) {a : Addr} (h : Rd G a w) : Rd (upd G p (.dK ks)) a w := by
  by_cases e : a = p
  · subst e
    rcases h with h | ⟨o, h⟩
    · rw [hp] at h; cases h; exact absurd rfl (hw _ _)
    · rw [hp] at h; cases h; exact .inl upd_same
  · rcases h with h | ⟨o, h⟩
    · exact .inl (by rw [upd_ne e]; exact h)
    · exact .inr ⟨o, by rw [upd_ne e]; exact h⟩
theorem unlock_eq {w : HO} (hw : ∀ o u, w ≠ .frz o u) (hp : G p = some (.frz od (.dK ks))) {a : Addr} (h : G a = some w) : upd G p (.dK ks) a = some w := by
  by_cases e : a = p
  · subst e
    rw [hp] at h; cases h; exact absurd rfl (hw _ _)
  · rw [upd_ne e]; exact h
mutual
theorem RD.lock (hp : G p = some (.dK ks)) : ∀ {d : D} {v : V}, RD K G d v → RD K (upd G p (.frz od (.dK ks))) d v
  | _, _, .non => .non
  | _, _, .bl b => .bl b
  | _, _, .int i => .int i
  | _, _, .str x => .str x
  | _, _, .tup h r => .tup (lock_eq (by intro _ z; cases z) hp h) (RDs.lock hp r)
  | _, _, .ktp h r => .ktp (h.elim (fun h => .inl (lock_rd (by intro _ _ z; cases z) hp h)) .inr) (RDs.lock hp r)
  | _, _, .kls h r => .kls (h.elim (fun h => .inl (lock_rd (by intro _ _ z; cases z) hp h)) .inr) (RDs.lock hp r)
  | _, _, .lst h r => .lst (lock_eq (by intro _ z; cases z) hp h) (RDs.lock hp r)
  | _, _, .dct h e r => .dct (lock_rd (by intro _ _ z; cases z) hp h) e (RDs.lock hp r)
  | _, _, .dtt h e r => .dtt (lock_eq (by intro _ z; cases z) hp h) e (RDs.lock hp r)
theorem RDs.lock (hp : G p = some (.dK ks)) : ∀ {ds : List D} {vs : List V}, RDs K G ds vs → RDs K (upd G p (.frz od (.dK ks))) ds vs
  | _, _, .nil => .nil
  | _, _, .cons a b => .cons (RD.lock hp a) (RDs.lock hp b)
end
mutual
theorem RD.unlock (hp : G p = some (.frz od (.dK ks))) : ∀ {d : D} {v : V}, RD K G d v → RD K (upd G p (.dK ks)) d v
  | _, _, .non => .non
  | _, _, .bl b => .bl b
  | _, _, .int i => .int i
  | _, _, .str x => .str x
  | _, _, .tup h r => .tup (unlock_eq (by intro _ _ z; cases z) hp h) (RDs.unlock hp r)
  | _, _, .ktp h r => .ktp (h.elim (fun h => .inl (unlock_rd (by intro _ _ z; cases z) hp h)) .inr) (RDs.unlock hp r)
  | _, _, .kls h r => .kls (h.elim (fun h => .inl (unlock_rd (by intro _ _ z; cases z) hp h)) .inr) (RDs.unlock hp r)
  | _, _, .lst h r => .lst (unlock_eq (by intro _ _ z; cases z) hp h) (RDs.unlock hp r)
  | _, _, .dct h e r => .dct (unlock_rd (by intro _ _ z; cases z) hp h) e (RDs.unlock hp r)
  | _, _, .dtt h e r => .dtt (unlock_eq (by intro _ _ z; cases z) hp h) e (RDs.unlock hp r)
theorem RDs.unlock (hp : G p = some (.frz od (.dK ks))) : ∀ {ds : List D} {vs : List V}, RDs K G ds vs → RDs K (upd G p (.dK ks)) ds vs
  | _, _, .nil => .nil
  | _, _, .cons a b => .cons (RD.unlock hp a) (RDs.unlock hp b)
end
theorem RM.lock {H : Hp} (hg : G p = some (.dK ks)) {a : Addr} (na : a ≠ p) : ∀ {d : D}, RM K G H a d → RM K (upd G p (.frz od (.dK ks))) (upd H p (.frz od (.dK ks))) a d
  | .lst _, ⟨_, h, r⟩ => ⟨_, by rw [upd_ne na]; exact h, RDs.lock hg r⟩
  | .dct _, ⟨_, h, e, r⟩ => ⟨_, by rw [upd_ne na]; exact h, e, RDs.lock hg r⟩
  | .dtt _, ⟨_, h, e, r⟩ => ⟨_, by rw [upd_ne na]; exact h, e, RDs.lock hg r⟩
theorem RM.unlock {H : Hp} (hg : G p = some (.frz od (.dK ks))) {a : Addr} (na : a ≠ p) : ∀ {d : D}, RM K G H a d → RM K (upd G p (.dK ks)) (upd H p (.dK ks)) a d
  | .lst _, ⟨_, h, r⟩ => ⟨_, by rw [upd_ne na]; exact h, RDs.unlock hg r⟩
  | .dct _, ⟨_, h, e, r⟩ => ⟨_, by rw [upd_ne na]; exact h, e, RDs.unlock hg r⟩
  | .dtt _, ⟨_, h, e, r⟩ => ⟨_, by rw [upd_ne na]; exact h, e, RDs.unlock hg r⟩
/-- the entry, seen with the lock -/
def Fr0.lock (Z : Fr0) (p : Addr) (o : HO) : Fr0 := ⟨lockAt Z.G0 p o, lockAt Z.H0 p o, Z.io⟩
theorem lockAt_ne {o : HO} {a : Addr} (h : a ≠ p) : lockAt G p o a = G a := if_neg h
theorem lockAt_none {o : HO} {a : Addr} : lockAt G p o a = none ↔ G a = none := by
  unfold lockAt
  by_cases e : a = p
  · subst e; rw [if_pos rfl]; cases G a <;> simp
  · rw [if_neg e]
theorem lockAt_self {o u : HO} (h : lockAt G p o p = some u) : u = o ∧ ∃ w, G p = some w := by
  unfold lockAt at h
  rw [if_pos rfl] at h
  cases q : G p with
  | none => rw [q] at h; cases h
  | some w => rw [q] at h; cases h; exact ⟨rfl, w, rfl⟩
variable {Z : Fr0} {H : Hp} {r : Ev} {σ : L2.St}
theorem RS.lockIn (S : RS K Z G H r σ) (hp : G p = some (.dK ks)) : RS K (Z.lock p (.frz od (.dK ks))) (upd G p (.frz od (.dK ks))) (upd H p (.frz od (.dK ks))) r σ := by
  have hn : ∀ a, upd H p (.frz od (.dK ks)) a = none ↔ H a = none := fun a => by
    by_cases e : a = p
    · subst e; rw [upd_same, S.sg _ _ hp]; simp
    · rw [upd_ne e]
  refine ⟨S.len, fun a o h => ?_, fun a o h => ?_, fun a o h n => ?_, fun a h => ?_, fun a o h => ?_, fun i d h => ?_, fun i b d h => ?_, S.inj⟩
  · by_cases e : a = p
    · subst e; rw [upd_same] at h ⊢; exact h
    · rw [upd_ne e] at h ⊢; exact S.sg a o h
  · by_cases e : a = p
    · subst e
      obtain ⟨rfl, _⟩ := lockAt_self h
      exact upd_same
    · have h : lockAt Z.G0 p _ a = some o := h
      rw [lockAt_ne e] at h
      rw [upd_ne e]; exact S.g0 a o h
  · by_cases e : a = p
    · subst e
      obtain ⟨rfl, _⟩ := lockAt_self h
      exact upd_same
    · have h : lockAt Z.H0 p _ a = some o := h
      rw [lockAt_ne e] at h
      rw [upd_ne e]; exact S.h0 a o h n
  · exact lockAt_none.mpr (S.dm a ((hn a).mp h))
  · by_cases e : a = p
    · subst e
      rw [upd_same] at h; cases h
      rcases S.fr a _ hp with k | k | k
      · refine .inl ?_
        show lockAt Z.G0 a _ a = _
        unfold lockAt
        rw [if_pos rfl, k]
      · rcases k with k | ⟨_, vs, k⟩
        · exact .inr (.inl (.inl (lockAt_none.mpr k)))
        · cases k
      · exact .inr (.inr k)
    · rw [upd_ne e] at h
      rcases S.fr a o h with k | k | k
      · exact .inl (by show lockAt Z.G0 p _ a = _; rw [lockAt_ne e]; exact k)
      · exact .inr (.inl (k.congr (lockAt_ne e)))
      · exact .inr (.inr k)
  · obtain ⟨v, e1, e2⟩ := S.va i d h
    exact ⟨v, e1, e2.lock hp⟩
  · obtain ⟨a, e1, e2, e3, e4⟩ := S.ow i b d h
    have na : a ≠ p := fun z => by subst z; rw [hp] at e2; cases e2
    refine ⟨a, e1, by rw [upd_ne na]; exact e2, e3.lock hp na, ?_⟩
    cases b with
    | true => exact e4
    | false => exact lockAt_none.mpr e4
theorem RS.lockOut (S : RS K (Z.lock p (.frz od (.dK ks))) G H r σ) (hp : G p = some (.frz od (.dK ks))) (z1 : ∀ o, Z.G0 p = some o → o = .dK ks) (z2 : ∀ o, Z.H0 p = some o → p ∉ Z.io → o = .dK ks) : RS K Z (upd G p (.dK ks)) (upd H p (.dK ks)) r σ := by
  have hn : ∀ a, upd H p (.dK ks) a = none ↔ H a = none := fun a => by
    by_cases e : a = p
    · subst e; rw [upd_same, S.sg _ _ hp]; simp
    · rw [upd_ne e]
  refine ⟨S.len, fun a o h => ?_, fun a o h => ?_, fun a o h n => ?_, fun a h => ?_, fun a o h => ?_, fun i d h => ?_, fun i b d h => ?_, S.inj⟩
  · by_cases e : a = p
    · subst e; rw [upd_same] at h ⊢; exact h
    · rw [upd_ne e] at h ⊢; exact S.sg a o h
  · by_cases e : a = p
    · subst e; rw [upd_same, z1 o h]
    · rw [upd_ne e]
      refine S.g0 a o ?_
      show lockAt Z.G0 p _ a = _
      rw [lockAt_ne e]; exact h
  · by_cases e : a = p
    · subst e; rw [upd_same, z2 o h n]
    · rw [upd_ne e]
      refine S.h0 a o ?_ n
      show lockAt Z.H0 p _ a = _
      rw [lockAt_ne e]; exact h
  · exact lockAt_none.mp (S.dm a ((hn a).mp h))
  · by_cases e : a = p
    · subst e
      rw [upd_same] at h; cases h
      rcases S.fr a _ hp with k | k | k
      · obtain ⟨_, w, k2⟩ := lockAt_self k
        rw [k2, z1 w k2]; exact .inl rfl
      · rcases k with k | ⟨_, vs, k⟩
        · exact .inr (.inl (.inl (lockAt_none.mp k)))
        · cases k
      · exact .inr (.inr k)
    · rw [upd_ne e] at h
      rcases S.fr a o h with k | k | k
      · have k : lockAt Z.G0 p _ a = _ := k
        rw [lockAt_ne e] at k; exact .inl k
      · exact .inr (.inl (k.congr (lockAt_ne e).symm))
      · exact .inr (.inr k)
  · obtain ⟨v, e1, e2⟩ := S.va i d h
    exact ⟨v, e1, e2.unlock hp⟩
  · obtain ⟨a, e1, e2, e3, e4⟩ := S.ow i b d h
    have na : a ≠ p := fun z => by subst z; rw [hp] at e2; cases e2
    refine ⟨a, e1, by rw [upd_ne na]; exact e2, e3.unlock hp na, ?_⟩
    cases b with
    | true => exact e4
    | false => exact lockAt_none.mp e4
theorem EX.unlock {G' H' : Hp} {r' : Ev} (S : RS K Z G H r σ) (hp : G p = some (.dK ks)) (x : EX σ (upd G p (.frz od (.dK ks))) (upd H p (.frz od (.dK ks))) r G' H' r') : EX σ G H r (upd G' p (.dK ks)) (upd H' p (.dK ks)) r' := by
  have hH := S.sg _ _ hp
  have no : ¬ ownAt r σ p := fun ⟨i, k1, k2⟩ => by
    obtain ⟨b, d, k⟩ := isOw_some k1
    obtain ⟨a, e1, e2, _⟩ := S.ow i b d k
    rw [k2] at e1; cases e1
    rw [hp] at e2; cases e2
  refine ⟨fun a o h => ?_, fun a o h n => ?_, fun a h => ?_, fun a o h => ?_, x.o⟩
  · by_cases e : a = p
    · subst e; rw [hp] at h; cases h; exact upd_same
    · rw [upd_ne e]; exact x.g a o (by rw [upd_ne e]; exact h)
  · by_cases e : a = p
    · subst e; rw [hH] at h; cases h; exact upd_same
    · rw [upd_ne e]; exact x.h a o (by rw [upd_ne e]; exact h) n
  · by_cases e : a = p
    · subst e; rw [upd_same] at h; cases h
    · rw [upd_ne e] at h
      have := x.n a h
      rwa [upd_ne e] at this
  · by_cases e : a = p
    · subst e; rw [upd_same] at h; cases h; exact .inl hp
    · rw [upd_ne e] at h
      rcases x.f a o h with k | k | k
      · rw [upd_ne e] at k; exact .inl k
      · exact .inr (.inl (k.congr (upd_ne e).symm))
      · exact .inr (.inr k)
theorem RO.unlock {B G' H' : Hp} {r' : Ev} (hp : G' p = some (.frz od (.dK ks))) : ∀ {o : Op} {v : V}, RO K (Z.lock p (.frz od (.dK ks))) σ (upd B p (.frz od (.dK ks))) G' H' r' o v → RO K Z σ B (upd G' p (.dK ks)) (upd H' p (.dK ks)) r' o v
  | .fz _, _, h => RD.unlock hp h
  | .br _, _, h => h
  | .tm _, _, ⟨a, e, h1, h2, h3, h4⟩ => by
    have na : a ≠ p := fun z => by subst z; rw [hp] at h1; cases h1
    refine ⟨a, e, by rw [upd_ne na]; exact h1, ⟨lockAt_none.mp h2.1, ?_⟩, h3, h4.unlock hp na⟩
    have := h2.2
    rwa [upd_ne na] at this
end
end DL

section
set_option Elab.async false
set_option linter.all false
set_option maxRecDepth 100000
set_option autoImplicit false
/-! DL20: comprehensions over a dict. -/
namespace DL
open PySem PySem.Spec PyProof.Rows L2
section
variable {X : Cx} {W : WX} {Z : Fr0} {σ : L2.St} {G H : Hp} {r : Ev}
theorem EPost.lock {p : Addr} {od : Obj} {ks : List (Key × V)} {Q : VK} (S : RS X.K Z G H r σ) (hp : G p = some (.dK ks)) : ∀ {o : EOut}, (∀ c r', o ≠ .err c r') → EPost X W Z σ G H r Q o → EPost X W (Z.lock p (.frz od (.dK ks))) σ (upd G p (.frz od (.dK ks))) (upd H p (.frz od (.dK ks))) r (fun v H' => H' p = some (.frz od (.dK ks)) ∧ Q v (upd H' p (.dK ks))) o
  | .ok o r', _, h => fun v G' H' S' x ro => by
    have hG : G' p = some (.frz od (.dK ks)) := x.g p _ upd_same
    have hH := S.sg _ _ hp
    refine ⟨S'.sg _ _ hG, h v _ _ (S'.lockOut hG (fun o z => ?_) (fun o z n => ?_)) (x.unlock S hp) (ro.unlock hG)⟩
    · have := S.g0 p o z
      rw [hp] at this; cases this; rfl
    · have := S.h0 p o z n
      rw [hH] at this; cases this; rfl
  | .err c r', n, _ => absurd rfl (n c r')
  | .bad, _, h => h
theorem lcGo_ne {vs : List Nat} {t : Tg} {c : T} {e : E} {r0 : Ev} : ∀ (ds acc : List D) (r : Ev) (x : Str) (r' : Ev), lcGo vs t c e r0 ds acc r ≠ .err x r'
  | [], acc, r, x, r' => by unfold lcGo; exact nofun
  | d :: ds, acc, r, x, r' => by
    unfold lcGo
    split
    · split
      · split
        · split
          · split
            · exact lcGo_ne ds _ _ x r'
            · exact nofun
          · exact nofun
        · exact nofun
      · exact lcGo_ne ds _ _ x r'
      · exact nofun
    · exact nofun
theorem dcGo_ne {vs : List Nat} {t : Tg} {c : T} {k v : E} {r0 : Ev} : ∀ (ds : List D) (acc : List (DK × D)) (r : Ev) (x : Str) (r' : Ev), dcGo vs t c k v r0 ds acc r ≠ .err x r'
  | [], acc, r, x, r' => by unfold dcGo; exact nofun
  | d :: ds, acc, r, x, r' => by
    unfold dcGo
    split
    · split
      · split
        · split
          · split
            · split
              · split
                · split
                  · exact dcGo_ne ds _ _ x r'
                  · exact nofun
                · exact nofun
              · exact nofun
            · exact nofun
          · exact nofun
        · exact nofun
      · exact dcGo_ne ds _ _ x r'
      · exact nofun
    · exact nofun
theorem itr_keys {K : FG} {a : Addr} {o : Obj} {ws : List (Key × V)} {kvs : List (DK × D)} (h : G a = some (.frz o (.dK ws))) (e : ws.map (·.1) = kvs.map (·.1)) : ItR K Z G (Itk a o ws) (kvs.map fun p => kD p.1) := by
  intro i σ r G1 H S sm
  have hH := S.sg _ _ (sm _ _ h)
  have hl : ws.length = kvs.length := by simpa using congrArg List.length e
  refine ⟨fun k => ⟨hH, by rw [hl]; simpa using k⟩, fun d hd => ?_⟩
  have hi : i < kvs.length := by simpa using (List.getElem?_eq_some_iff.mp hd).1
  refine ⟨⟨hH, by omega⟩, fun x H' ⟨eH, k, v, e1, e2⟩ => ?_⟩
  subst eH e2
  have e3 : (kvs.map (·.1))[i]? = some k := by rw [← e, List.getElem?_map, e1]; rfl
  rw [List.getElem?_map] at e3 hd
  cases q : kvs[i]? with
  | none => rw [q] at e3; cases e3
  | some p =>
    rw [q] at e3 hd
    have ek : p.1 = k := Option.some.inj e3
    have ed : kD p.1 = d := Option.some.inj hd
    rw [← ed, ek]
    refine ⟨G1, S, .refl, ?_⟩
    cases k with
    | inl i => exact .int i
    | inr x => exact .str x
/-- the dict in slot i is put away -/
theorem dict_at (S : RS X.K Z G H r σ) {i : Nat} (hk : isK r[i]? = true) {d : D} {r1 : Ev} (e : fzo r (.br i) = some (d, r1)) :
    ∃ a ws kvs G1, r1[i]? = some (.va (.dct kvs)) ∧ σ[i]? = some (some (.ref a)) ∧ RS X.K Z G1 H r1 σ ∧ EX σ G H r G1 H r1 ∧ Rd G1 a (.dK ws) ∧ ws.map (·.1) = kvs.map (·.1) := by
  unfold DL.fzo at e
  cases q : r[i]? with
  | none => rw [q] at hk; cases hk
  | some s =>
    rw [q] at hk
    have hi : i < r.length := (List.getElem?_eq_some_iff.mp q).1
    cases s with
    | no => cases hk
    | va d' =>
      cases d' <;> first | (cases hk; done) | skip
      rename_i kvs
      simp only [q] at e
      cases e
      obtain ⟨v, e1, e2⟩ := S.va i _ q
      cases e2 with | dct h1 h2 h3 =>
      exact ⟨_, _, kvs, G, q, e1, S, .refl, h1, h2⟩
    | ow b d' =>
      cases d' <;> first | (cases hk; done) | skip
      rename_i kvs
      cases b with
      | true => simp [q] at e
      | false =>
        simp only [q] at e
        cases e
        obtain ⟨a, G1, e1, S1, X1, _, rd⟩ := S.freeze q
        cases rd with | dct h1 h2 h3 =>
        exact ⟨a, _, kvs, G1, by rw [List.getElem?_set_self hi], e1, S1, X1, h1, h2⟩
end
section
variable {X : Cx} {W : WX} {tg : Expr} {t : Tg} {fc : T} {fe fk fv : E} {vs : List Nat} {x : Str} {i : Nat} {np : Pos}
/-- the walk over the keys, locked or not -/
theorem keys_post {T : L2.TI → L2.TE} {F : I → E} (post : ∀ {wi : L2.TI} {fi : I} {Z : Fr0} {σ : L2.St} {G H : Hp} {r : Ev} {Q : VK}, (∀ (R : L2.It → Hp → Prop), IPost X W Z σ G H r R (fi r) → wi σ H R) → RS X.K Z G H r σ → EPost X W Z σ G H r Q (F fi r) → T wi σ H Q)
    (ne : ∀ r x r', F (iKeysD i) r ≠ .err x r') {Z : Fr0} {σ : L2.St} {G H : Hp} {r : Ev} {Q : VK} (S : RS X.K Z G H r σ) (hk : isK r[i]? = true)
    (hp : EPost X W Z σ G H r Q (match fzo r (.br i) with | some (_, r1) => F (iKeysD i) r1 | none => .bad)) : tLockE (T (L2.iKeys (tVar i))) σ H Q ∨ T (L2.iKeys (tVar i)) σ H Q := by
  cases e : fzo r (.br i) with
  | none => simp only [e] at hp; exact hp.elim
  | some p =>
    obtain ⟨d, r1⟩ := p
    simp only [e] at hp
    obtain ⟨a, ws, kvs, G1, e1, e2, S1, X1, rd, ek⟩ := dict_at S hk e
    have hp1 := EPost.pre X1 hp
    have fi1 : iKeysD i r1 = .ok (kvs.map fun p => kD p.1) r1 := by unfold iKeysD; rw [e1]
    have walk : ∀ {Z : Fr0} {G H : Hp} {Q : VK} (o : Obj), RS X.K Z G H r1 σ → G a = some (.frz o (.dK ws)) → EPost X W Z σ G H r1 Q (F (iKeysD i) r1) → T (L2.iKeys (tVar i)) σ H Q := fun {Z G H Q} o S h hp => by
      refine post (fi := iKeysD i) (fun R hR => ?_) S hp
      rw [fi1] at hR
      exact ⟨_, e2, a, o, rfl, .inl ⟨ws, S.sg _ _ h, hR _ G H S .refl fun Z' => itr_keys h ek⟩⟩
    rcases rd with h | ⟨o, h⟩
    · exact .inl ⟨a, .dK ws, S1.sg _ _ h, trivial, fun od => walk od (S1.lockIn h) upd_same (EPost.lock S1 h (fun c r' => ne r1 c r') hp1)⟩
    · exact .inr (walk o S1 h hp1)
variable {elt kx vx : Expr} {ifs : List Expr} {scope : Scope} {own : List (Str × Nat)} {pos : Pos}
theorem de_lcN (hc : X.calm = true) (hN : X.N.Nodup) (hx : PE X (.Name x np) (tVar i)) (ok : BlkOk X.N X.env.scope scope own)
    (hg : ∀ (s : Shared) (H : Hp) (C : Addr) (cl : List (Str × Addr)) (fp : List Addr), DG (X.blk s H scope (compEnvC scope cl C X.env) fp) tg t) (ht : ∀ (s : Shared) (H : Hp) (C : Addr) (cl : List (Str × Addr)) (fp : List Addr), DIf (X.blk s H scope (compEnvC scope cl C X.env) fp) W0 ifs fc)
    (he : ∀ (s : Shared) (H : Hp) (C : Addr) (cl : List (Str × Addr)) (fp : List Addr), DE (X.blk s H scope (compEnvC scope cl C X.env) fp) W0 elt fe) (hts : ∀ i ∈ t.slots, i ∈ own.map (·.2)) (hvs : own.map (·.2) = vs) (hs : ∀ y, foldedSetIterable (.Name x np) X.env y = pure y := by intro _; rfl) :
    DE X W (.ListComp elt [⟨tg, .Name x np, ifs, 0⟩] scope pos) (eLcN vs t i fc fe) := by
  subst hvs
  have row := de_lc (W := W) (pos := pos) hc hN (di_seq (W := W) (tg := tg) (de_name hx)) ok hg ht he hts rfl hs
  obtain ⟨t1, p1, q1⟩ := row.ex
  have pk : PE X (.ListComp elt [⟨tg, .Name x np, ifs, 0⟩] scope pos) (tLc (L2.iKeys (tVar i)) (tDG X t) (tDT X W0 fc) (tD X W0 fe) (own.map (·.2))) := pe_lc (own := own) hc hN (pi_keys hx) ok (fun s H C cl fp => (hg s H C cl fp).canon) (fun s H C cl fp => (ht s H C cl fp).canon) (fun s H C cl fp => (he s H C cl fp).canon) hs
  refine ⟨_, PE.or (PE.or (pe_lock pk) pk) p1, fun Z σ G H r Q S hp => ?_⟩
  unfold eLcN at hp
  split at hp
  · rename_i hk
    exact .inl (keys_post (T := fun wi => tLc wi (tDG X t) (tDT X W0 fc) (tD X W0 fe) (own.map (·.2))) (F := fun fi => eLc (own.map (·.2)) t fi fc fe) (fun qi S hp => lc_post hts qi S hp) (fun r c r' => by
      unfold eLc
      split
      · split
        · exact lcGo_ne _ _ _ _ _
        · exact nofun
      · rename_i h1
        unfold iKeysD at h1
        split at h1 <;> cases h1
      · exact nofun) S hk hp)
  · exact .inr (q1 Z σ G H r Q S hp)
theorem de_dcN (hc : X.calm = true) (hN : X.N.Nodup) (hx : PE X (.Name x np) (tVar i)) (ok : BlkOk X.N X.env.scope scope own)
    (hg : ∀ (s : Shared) (H : Hp) (C : Addr) (cl : List (Str × Addr)) (fp : List Addr), DG (X.blk s H scope (compEnvC scope cl C X.env) fp) tg t) (ht : ∀ (s : Shared) (H : Hp) (C : Addr) (cl : List (Str × Addr)) (fp : List Addr), DIf (X.blk s H scope (compEnvC scope cl C X.env) fp) W0 ifs fc)
    (hk : ∀ (s : Shared) (H : Hp) (C : Addr) (cl : List (Str × Addr)) (fp : List Addr), DE (X.blk s H scope (compEnvC scope cl C X.env) fp) W0 kx fk) (hv : ∀ (s : Shared) (H : Hp) (C : Addr) (cl : List (Str × Addr)) (fp : List Addr), DE (X.blk s H scope (compEnvC scope cl C X.env) fp) W0 vx fv) (hts : ∀ i ∈ t.slots, i ∈ own.map (·.2)) (hvs : own.map (·.2) = vs) (hs : ∀ y, foldedSetIterable (.Name x np) X.env y = pure y := by intro _; rfl) :
    DE X W (.DictComp kx vx [⟨tg, .Name x np, ifs, 0⟩] scope pos) (eDcN vs t i fc fk fv) := by
  subst hvs
  have row := de_dc (W := W) (pos := pos) hc hN (di_seq (W := W) (tg := tg) (de_name hx)) ok hg ht hk hv hts rfl hs
  obtain ⟨t1, p1, q1⟩ := row.ex
  have pk : PE X (.DictComp kx vx [⟨tg, .Name x np, ifs, 0⟩] scope pos) (tDc (L2.iKeys (tVar i)) (tDG X t) (tDT X W0 fc) (tD X W0 fk) (tD X W0 fv) (own.map (·.2))) := pe_dc (own := own) hc hN (pi_keys hx) ok (fun s H C cl fp => (hg s H C cl fp).canon) (fun s H C cl fp => (ht s H C cl fp).canon) (fun s H C cl fp => (hk s H C cl fp).canon) (fun s H C cl fp => (hv s H C cl fp).canon) hs
  refine ⟨_, PE.or (PE.or (pe_lock pk) pk) p1, fun Z σ G H r Q S hp => ?_⟩
  unfold eDcN at hp
  split at hp
  · rename_i hk
    exact .inl (keys_post (T := fun wi => tDc wi (tDG X t) (tDT X W0 fc) (tD X W0 fk) (tD X W0 fv) (own.map (·.2))) (F := fun fi => eDc (own.map (·.2)) t fi fc fk fv) (fun qi S hp => dc_post hts qi S hp) (fun r c r' => by
      unfold eDc
      split
      · split
        · exact dcGo_ne _ _ _ _ _
        · exact nofun
      · rename_i h1
        unfold iKeysD at h1
        split at h1 <;> cases h1
      · exact nofun) S hk hp)
  · exact .inr (q1 Z σ G H r Q S hp)
theorem PS.or {st : Stmt} {t t' : L2.TS} (h : PS X st t) (k : PS X st t') : PS X st (fun D σ H => t D σ H ∨ t' D σ H) :=
  ⟨fun pins s σ H D I q => q.elim (h.run pins s σ H D I) (k.run pins s σ H D I)⟩
theorem set_post {Z : Fr0} {σ : L2.St} {G H : Hp} {r : Ev} {D : Ends} {j : Nat} : ∀ {z : EOut}, SPost X W Z D (match z with
    | .ok o r1 => (match keep j o r1 with
      | some r2 => .nx r2
      | none => .bad)
    | .err c r1 => .err c r1
    | .bad => .bad) → (∀ C σ1 G1 H1 c r1, z = .err c r1 → RS X.K Z G1 H1 r1 σ1 → X.mg c = some (.ref C) → σ1 = σ → W (.ref C) none σ H1) ∨ True → EPost X W Z σ G H r (fun v H' => D.nx (σ.set j (some v)) H') z
  | .ok o r1, hp, _ => fun v G1 H1 S1 X1 R1 => by
    dsimp only at hp
    cases e2 : keep j o r1 with
    | none => simp only [e2] at hp; exact hp.elim
    | some r2 =>
      simp only [e2] at hp
      obtain ⟨G2, S2⟩ := S1.keep R1 e2
      exact hp _ G2 H1 S2
  | .err c r1, hp, _ => fun C G1 H1 S1 X1 m => hp C σ G1 H1 S1 m
  | .bad, hp, _ => hp
theorem ds_setLcN {j : Nat} {y : Str} {py spos : Pos} (hc : X.calm = true) (hN : X.N.Nodup) (hy : X.N[j]? = some y) (hyl : X.env.scope.names.lookup y = some .local)
    (hsw : swapsWith (.ListComp elt [⟨tg, .Name x np, ifs, 0⟩] scope pos) (some (.Name y py)) spos.line X.env = pure true) (hx : PE X (.Name x np) (tVar i)) (ok : BlkOk X.N X.env.scope scope own)
    (hg : ∀ (s : Shared) (H : Hp) (C : Addr) (cl : List (Str × Addr)) (fp : List Addr), DG (X.blk s H scope (compEnvC scope cl C X.env) fp) tg t) (ht : ∀ (s : Shared) (H : Hp) (C : Addr) (cl : List (Str × Addr)) (fp : List Addr), DIf (X.blk s H scope (compEnvC scope cl C X.env) fp) W0 ifs fc)
    (he : ∀ (s : Shared) (H : Hp) (C : Addr) (cl : List (Str × Addr)) (fp : List Addr), DE (X.blk s H scope (compEnvC scope cl C X.env) fp) W0 elt fe) (hts : ∀ i ∈ t.slots, i ∈ own.map (·.2)) (hvs : own.map (·.2) = vs) (hs : ∀ y, foldedSetIterable (.Name x np) X.env y = pure y := by intro _; rfl) :
    DS X W (.Assign [.Name y py] (.ListComp elt [⟨tg, .Name x np, ifs, 0⟩] scope pos) spos) (sSet j (eLcN vs t i fc fe)) := by
  subst hvs
  have row := ds_setLc (W := W) (pos := pos) hc hN hy hyl hsw (di_seq (W := W) (tg := tg) (de_name hx)) ok hg ht he hts rfl hs
  obtain ⟨t1, p1, q1⟩ := row.ex
  have pk := ps_setLc (own := own) (g := tDG X t) (tt := tDT X W0 fc) (te := tD X W0 fe) hc hN hy hyl hsw (pi_keys hx) ok (fun s H C cl fp => (hg s H C cl fp).canon) (fun s H C cl fp => (ht s H C cl fp).canon) (fun s H C cl fp => (he s H C cl fp).canon) hs
  refine ⟨_, PS.or (PS.or (ps_lock pk) pk) p1, fun Z σ G H r D S hp => ?_⟩
  by_cases hk : isK r[i]? = true
  · have kp : tLockE (tLc (L2.iKeys (tVar i)) (tDG X t) (tDT X W0 fc) (tD X W0 fe) (own.map (·.2))) σ H (fun v H' => D.nx (σ.set j (some v)) H') ∨ tLc (L2.iKeys (tVar i)) (tDG X t) (tDT X W0 fc) (tD X W0 fe) (own.map (·.2)) σ H (fun v H' => D.nx (σ.set j (some v)) H') := by
       refine (keys_post (X := X) (W := W) (i := i) (T := fun wi => tLc wi (tDG X t) (tDT X W0 fc) (tD X W0 fe) (own.map (·.2))) (F := fun fi => eLc (own.map (·.2)) t fi fc fe) (Q := fun v H' => D.nx (σ.set j (some v)) H') (fun qi S hp => lc_post hts qi S hp) (fun r c r' => by
         unfold eLc
         split
         · split
           · exact lcGo_ne _ _ _ _ _
           · exact nofun
         · rename_i h1
           unfold iKeysD at h1
           split at h1 <;> cases h1
         · exact nofun) S hk ?_)
       unfold sSet eLcN at hp
       rw [if_pos hk] at hp
       exact set_post hp (.inr trivial)
    exact .inl (kp.imp id id)
  · refine .inr (q1 Z σ G H r D S ?_)
    unfold sSet eLcN at hp
    rw [if_neg hk] at hp
    exact hp
theorem ds_bad {st : Stmt} : DS X W st sBad := ⟨fun _ _ _ => False, ⟨fun pins s σ H D I h => h.elim⟩, fun Z σ G H r D S hp => hp⟩
end
end DL
end

section
set_option Elab.async false
set_option linter.all false
set_option maxRecDepth 100000
set_option autoImplicit false
/-! DL21: sorted of a dict's keys. -/
namespace DL
open PySem PySem.Spec PyProof.Rows L2
section
open PySem.W PyProof.V PySem.Calls
variable {prog : Program} {w : World} {T : String} {r d : Addr} {n : Nat} {P : Nat → Value → Prop} {OK : Heap → Prop} {A : Around} {E : Value → Shared → Prop} {s : Shared} {Q : Value → Shared → Prop}
/-- what is collected from a dict; the heap has grown -/
theorem collect_grown {R : List Value → Shared → Prop} (K : PySem.W.KdlSrc prog w T r d n P OK) (hh : A.handled = none) (hok : OK s.heap) (hn : n ≤ sizeLine)
    (h : ∀ (h' : Heap) (tk : Nat) (acc : Array Value), (∀ b o, s.heap.get? b = some o → h'.get? b = some o) → s.heap.objs.size < h'.objs.size → ItemsOf P acc n → R acc.toList { s with heap := h', toks := tk }) : wpAny (model prog w) A (collect (.ref r)) R E s := by
  have at_ := K.there _ hok
  let o0 : Obj := { cls := .type "list", data := .seq ([] : List Value).toArray }
  have g0 : (s.heap.push o0).get? s.heap.objs.size = some { cls := .type "list", data := .seq #[] } := Heap.get?_push_size _ rfl
  have run := kdl_extend (A := A) (s := { s with heap := s.heap.push o0 })
    (R := fun (q : Result) (s' : Shared) => ∃ (h' : Heap) (tk : Nat) (acc' : Array Value) (c' : Nat), (q = .ok (.ret (.ref s.heap.objs.size)) ∧ s' = { s with heap := h', toks := tk }) ∧ (∀ b o, s.heap.get? b = some o → h'.get? b = some o) ∧
      h'.get? s.heap.objs.size = some { cls := .type "list", dict := none, data := .seq acc' c', slots := #[] } ∧ ItemsOf P acc' n)
    K hh (K.keep _ _ hok fun b _ o e => Heap.get?_push_of_some _ e) s.heap.objs.size (Nat.ne_of_gt at_.1) (Nat.ne_of_gt at_.2) (.ref s.heap.objs.size) 0 g0
    (fun h' tk acc' c' k1 k2 k3 => ⟨h', tk, acc', c', ⟨rfl, rfl⟩, fun b o e => k1 b o (Nat.ne_of_lt (Heap.lt_size e)) (Heap.get?_push_of_some _ e), k2, k3⟩) hn
  unfold collect
  apply wpAny_bind; apply wpAny_runValue; refine codeAny_builtin entry_proto_collect' ?_
  rw [Around.under_plainId (PySem.F.plain_proto_collect) _]
  show wpAny (model prog w) A.in1 (newList [] >>= fun l => again (.builtin "list.__iadd__" ⟨[l, .ref r], []⟩)) _ _ s
  apply wpAny_bind; refine wpAny_newObj_type ?_
  refine wpAny_pure (And.intro (plainId_quiet PySem.F.plain_list_iadd _) (codeAny_builtin entry_list_iadd' ?_))
  rw [Around.under_plainId (PySem.F.plain_list_iadd) _]
  show wpAny (model prog w) A.in1 (Builtin.List.listExtendWith (.ref s.heap.objs.size) (.ref r) (.ref s.heap.objs.size)) _ _ _
  have done_ : ∀ {h' : Heap} {tk : Nat} {acc' : Array Value} {c' : Nat}, (∀ b o, s.heap.get? b = some o → h'.get? b = some o) → h'.get? s.heap.objs.size = some { cls := .type "list", dict := none, data := .seq acc' c', slots := #[] } → ItemsOf P acc' n → R acc'.toList { s with heap := h', toks := tk } :=
    fun k1 k2 k3 => h _ _ _ k1 (Heap.lt_size k2) k3
  refine wpAny_mono run (fun fin s' x => ?_) ?_
  · rcases fin with f | c₁
    · obtain ⟨h', tk, acc', c', ⟨e, rfl⟩, k1, k2, k3⟩ := x
      cases e
      apply wpAny_bind; refine wpAny_load k2 ?_
      exact wpAny_pure (done_ k1 k2 k3)
    · refine And.intro x.1 (codeAny_mono x.2 ?_)
      rintro q s₂ ⟨h', tk, acc', c', ⟨rfl, rfl⟩, k1, k2, k3⟩
      apply wpAny_bind; refine wpAny_load k2 ?_
      exact wpAny_pure (done_ k1 k2 k3)
  · rintro e s' ⟨_, _, _, _, ⟨e', _⟩, _⟩
    cases e'
theorem sorted_src (K : PySem.W.KdlSrc prog w T r d n P OK) (hh : A.handled = none) (hok : OK s.heap) (hn : n ≤ sizeLine)
    (h : ∀ (h' : Heap) (tk : Nat) (vs : List Value), (∀ b o, s.heap.get? b = some o → h'.get? b = some o) → s.heap.objs.size < h'.objs.size → vs.length = n → (∀ (j : Nat) (v : Value), vs[j]? = some v → P j v) →
      wpAny (model prog w) A.in1 (call (.builtin "list.sort") [.ref h'.objs.size]) (fun _ s' => Q (.ref h'.objs.size) s') E { s with heap := h'.push { cls := .type "list", data := .seq vs.toArray }, toks := tk }) :
    wpAny (model prog w) A (call (.builtin "sorted") [.ref r]) Q E s := by
  refine call_function_entry (kind_sorted) (plain_sorted) (entry_sorted) (args_sorted1 _) ?_
  unfold Builtin.«sorted»
  refine wpAny_bind (m := (checkCount "sorted" 1 1 _)) (wpAny_pure ?_)
  refine wpAny_bind (collect_grown (A := A.in1) K hh hok hn fun h' tk acc hk hgrow hacc => ?_)
  have hl : acc.toList.length = n := Array.length_toList.trans hacc.1
  refine wpAny_bind (wpAny_newList ?_ (hl.symm ▸ hn))
  have hg := h h' tk acc.toList hk hgrow hl (fun j v e => hacc.2 j v (by rw [← Array.getElem?_toList]; exact e))
  refine wpAny_bind (wpAny_holding (wpAny_mono hg (fun _ s' x => ?_) (fun _ _ z => z)))
  exact wpAny_pure ⟨_, rfl, x⟩
end
section
open PySem.W
variable {X : Cx}
theorem cr_sortedDK (hc : X.calm = true) : CallR X (.builtin "sorted") (fun xs H Q => ∃ (a : Addr) (kvs : List (Key × V)) (ns : List Int), xs = [.ref a] ∧ Rd H a (.dK kvs) ∧ kvs.map (fun kv => kV kv.1) = ns.map V.int ∧ ∀ (ns' : List Int) (p : Addr), ns'.Perm ns → ns'.Pairwise (· ≤ ·) → H p = none → Q (.ref p) (upd H p (.lst (ns'.map V.int)))) := by
  intro pins s σ H xs us Q I r q
  obtain ⟨a, kvs, ns, ex, hd, hi, q⟩ := q
  subst ex
  obtain ⟨u, eu, rx⟩ := vals1 r
  subst eu
  cases rx
  obtain ⟨z, lo, vs, rel, dd⟩ := dk_rd I.hok hd
  obtain ⟨ep, hat⟩ := dd.dictAt
  have ek : (kvs.map fun kv => kV kv.1) = vs.map fun p => kV p.1 := by
    have e := congrArg (List.map kV) rel.keys
    rw [List.map_map, List.map_map] at e
    exact e
  refine sorted_src (PySem.W.kdl_dict (knd := mixKind X.prog X.w) (kvs := vs) (ep := ep) lo) (I.ok.hd hc) hat (by rw [← rel.length]; exact z) fun h' tk its hk hgrow hl hv => ?_
  have hsz : s.heap.objs.size ≤ h'.objs.size := Nat.le_of_lt hgrow
  have hv2 : Vals (vs.map fun p => kV p.1) its := keys_at hl fun j v e => hv j v e
  have hvi : Vals (ns.map V.int) its := by rw [← hi, ek]; exact hv2
  have hints := hvi.ints
  have hz : its.length ≤ sizeLine := by rw [hl, ← rel.length]; exact z
  have hob : (h'.push { cls := .type "list", data := .seq its.toArray }).get? h'.objs.size = some (PyProof.Rows.seqObj "list" its.toArray 0) := Heap.get?_push_size _ rfl
  refine wpAny_call_entry PyProof.Rows.slot_list_sort ⟨_, hob, rfl⟩ PyProof.Rows.entry_list_sort
    (SrtO.list_sort_ord SrtO.swo_int hob hz (fun h2 => SrtO.ints_sortable hints h2) fun out h1 h2 => ⟨.none, rfl, ?_⟩) (PyProof.Rows.args_list_sort _)
  obtain ⟨k1, k2, k3⟩ := SrtO.ints_out hints h1 h2
  obtain ⟨ep2, he'⟩ := PyProof.Rows.sortedHeap_at (vs := its) (out := out.toArray) hob
  have hlen : ((out.map SrtO.iv).map V.int).length ≤ sizeLine := by
    rw [List.length_map, k2.length_eq, show ns.length = its.length from by simpa using (Paired.length hvi)]; exact hz
  refine ⟨.ref h'.objs.size, upd H h'.objs.size (.lst ((out.map SrtO.iv).map V.int)), I.laid (fun b u hb => ?_) hsz ⟨hlen, out, ep2, vals_of_ints k1, he'⟩, rfl, q _ _ k2 k3 (I.hok.fresh hsz)⟩
  have hb2 := hk b u hb
  have hlt := Heap.lt_size hb2
  rw [PyProof.Rows.sortedHeap_old (Nat.ne_of_lt hlt) (by rw [size_push']; exact Nat.lt_succ_of_lt hlt)]
  exact Heap.get?_push_of_some _ hb2
theorem keysI_eq : ∀ {ks : List DK} {ns : List Int}, keysI ks = some ns → ks = ns.map Sum.inl
  | [], _, h => by cases h; rfl
  | .inl i :: r, ns, h => by
    unfold keysI at h
    cases q : keysI r with
    | none => rw [q] at h; cases h
    | some ms => rw [q] at h; cases h; rw [List.map_cons, ← keysI_eq q]
  | .inr _ :: _, _, h => by cases h
theorem cd_sortedD (hc : X.calm = true) : CallD X (.builtin "sorted") gSortedD := by
  obtain ⟨r0, p0, q0⟩ := cd_sorted (X := X)
  refine ⟨_, p0.or (cr_sortedDK hc), ?_⟩
  intro Z σ G H r xs ds o Q S hs e h
  unfold gSortedD at e
  split at e
  · rename_i kvs
    obtain ⟨v, rfl, k⟩ := rh1 hs
    cases q : keysI (kvs.map (·.1)) with
    | none => simp [q] at e
    | some ns =>
      simp only [q] at e; cases e
      obtain ⟨a, ws, rfl, h1, h2, h3⟩ := k
      have hk := keysI_eq q
      refine .inr ⟨a, ws, ns, rfl, h1, ?_, fun ns' p p1 p2 hp => ?_⟩
      · have := congrArg (List.map kV) (h2.trans hk)
        rw [List.map_map, List.map_map] at this
        exact this
      · have : ns' = sortI ns := sorted_unique (p1.trans (sortI_perm ns).symm) p2 (sortI_sorted ns)
        subst this
        exact h.lst S (.ints _) hp
  · exact .inl (q0 Z σ G H r xs ds o Q S hs e h)
end
end DL
end

section
set_option Elab.async false
set_option linter.all false
set_option maxRecDepth 100000
set_option autoImplicit false
/-! DL22: expressions that change nothing. -/
namespace DL
open PySem PySem.Spec PyProof.Rows L2
section
variable {X : Cx} {W : WX} {Z : Fr0} {σ : L2.St} {G H : Hp} {r : Ev}
def still (H : Hp) : Fr0 := ⟨H, H, []⟩
theorem RS.still {K : FG} (S : RS K Z G H r σ) : RS K (still H) H H (frzAll r) σ := by
  have get : ∀ (i : Nat) (s : Sl), (frzAll r)[i]? = some s → ∃ s0, r[i]? = some s0 ∧ s = frzS s0 := fun i s e => by
    unfold frzAll at e
    rw [List.getElem?_map] at e
    cases q : r[i]? with
    | none => rw [q] at e; cases e
    | some s0 => rw [q] at e; exact ⟨s0, rfl, (Option.some.inj e).symm⟩
  have noow : ∀ i : Nat, isOw (frzAll r)[i]? = true → False := fun i h => by
    obtain ⟨b, d, q⟩ := isOw_some h
    obtain ⟨s0, _, e⟩ := get i _ q
    cases s0 <;> cases e
  refine ⟨by unfold frzAll; rw [List.length_map]; exact S.len, Same.refl _, Same.refl _, fun _ _ h _ => h, fun _ h => h, fun _ _ h => .inl h, fun i d q => ?_, fun i b d q => ?_, fun i j a h => (noow i h).elim⟩
  · obtain ⟨s0, e0, e⟩ := get i _ q
    cases s0 with
    | no => cases e
    | va d0 =>
      cases e
      obtain ⟨v, e1, e2⟩ := S.va i d e0
      exact ⟨v, e1, e2.mono S.sg⟩
    | ow b d0 =>
      cases e
      obtain ⟨a, e1, e2, e3, e4⟩ := S.ow i b d e0
      refine ⟨_, e1, ?_⟩
      cases d with
      | lst ds => obtain ⟨vs, h, rd⟩ := e3; exact .lst h (rd.mono S.sg)
      | dct ds => obtain ⟨vs, h, k, rd⟩ := e3; exact .dct (.inl h) k (rd.mono S.sg)
      | dtt ds => obtain ⟨vs, h, k, rd⟩ := e3; exact .dtt h k (rd.mono S.sg)
      | _ => exact e3.elim
  · exact (noow i (by rw [q]; rfl)).elim
theorem RS.unstill {K : FG} {G' H' : Hp} {r' : Ev} (S : RS K Z G H r σ) (T : RS K (DL.still H) G' H' r' σ) : RS K Z G H' r σ ∧ EX σ G H r G H' r ∧ (∀ a o, H a = some o → H' a = some o) := by
  have up : ∀ a o, H a = some o → H' a = some o := fun a o h => T.h0 a o h (by simp [DL.still])
  refine ⟨⟨S.len, fun a o h => up a o (S.sg a o h), S.g0, fun a o h n => up a o (S.h0 a o h n), fun a h => S.dm a (T.dm a h), S.fr, S.va, fun i b d q => ?_, S.inj⟩, ⟨Same.refl _, fun a o h _ => up a o h, fun a h => T.dm a h, fun _ _ h => .inl h, fun _ h => h⟩, up⟩
  obtain ⟨a, e1, e2, e3, e4⟩ := S.ow i b d q
  obtain ⟨o, ho⟩ := e3.there
  exact ⟨a, e1, e2, e3.at (Same.refl _) ((up a o ho).trans ho.symm), e4⟩
theorem RD.flat {K : FG} {G G' : Hp} {d : D} {v : V} (h : RD K G' d v) (f : flatD d = true) : RD K G d v := by
  cases d with
  | non => cases h; exact .non
  | bl b => cases h; exact .bl b
  | int i => cases h; exact .int i
  | str x => cases h; exact .str x
  | _ => cases f
theorem RDs.flats {K : FG} {G G' : Hp} : ∀ {ds : List D} {vs : List V}, RDs K G' ds vs → ds.all flatD = true → RDs K G ds vs
  | _, _, .nil, _ => .nil
  | _, _, .cons a b, h => by rw [List.all_cons, Bool.and_eq_true] at h; exact .cons (a.flat h.1) (b.flats h.2)
theorem EPost.quiet {f : E} {Q : VK} (S : RS X.K Z G H r σ) (p : EPost X W Z σ G H r Q (eQ f r)) : EPost X W (still H) σ H H (frzAll r) Q (f (frzAll r)) ∨ EPost X W Z σ G H r Q (f r) := by
  unfold eQ at p
  split at p
  · rename_i d r' e
    split at p
    · rename_i fl
      refine .inl ?_
      rw [e]
      intro v G' H' T _ R
      obtain ⟨S1, X1, _⟩ := S.unstill T
      exact p v G H' S1 X1 (RD.flat R fl)
    · exact .inr p
  · rename_i acc r' e
    split at p
    · rename_i fl
      refine .inl ?_
      rw [e]
      intro v G' H' T _ R
      obtain ⟨S1, X1, up⟩ := S.unstill T
      obtain ⟨a, rfl, g1, ⟨h1, _⟩, _, vs, h2, rd⟩ := R
      have hn : H a = none := h1
      refine p _ G H' S1 X1 ⟨a, rfl, S.sg.free hn, ⟨S.dm a hn, hn⟩, (S.fresh hn).2.2, vs, h2, rd.flats fl⟩
    · exact .inr p
  · exact .inr p
theorem de_quiet {e : Expr} {f : E} (h : DE X W e f) : DE X W e (eQ f) := by
  obtain ⟨t, p1, p2⟩ := h.ex
  refine ⟨t, p1, fun Z σ G H r Q S p => ?_⟩
  rcases p.quiet S with q | q
  · exact p2 _ _ _ _ _ _ S.still q
  · exact p2 _ _ _ _ _ _ S q
variable {elt tg : Expr} {ifs : List Expr} {scope : Scope} {own : List (Str × Nat)} {pos np : Pos} {i : Nat} {x : Str} {t : Tg} {fc : T} {fe : E} {vs : List Nat}
theorem ds_setLcNQ {j : Nat} {y : Str} {py spos : Pos} (hc : X.calm = true) (hN : X.N.Nodup) (hy : X.N[j]? = some y) (hyl : X.env.scope.names.lookup y = some .local)
    (hsw : swapsWith (.ListComp elt [⟨tg, .Name x np, ifs, 0⟩] scope pos) (some (.Name y py)) spos.line X.env = pure true) (hx : PE X (.Name x np) (tVar i)) (ok : BlkOk X.N X.env.scope scope own)
    (hg : ∀ (s : Shared) (H : Hp) (C : Addr) (cl : List (Str × Addr)) (fp : List Addr), DG (X.blk s H scope (compEnvC scope cl C X.env) fp) tg t) (ht : ∀ (s : Shared) (H : Hp) (C : Addr) (cl : List (Str × Addr)) (fp : List Addr), DIf (X.blk s H scope (compEnvC scope cl C X.env) fp) W0 ifs fc)
    (he : ∀ (s : Shared) (H : Hp) (C : Addr) (cl : List (Str × Addr)) (fp : List Addr), DE (X.blk s H scope (compEnvC scope cl C X.env) fp) W0 elt fe) (hts : ∀ i ∈ t.slots, i ∈ own.map (·.2)) (hvs : own.map (·.2) = vs) (hs : ∀ y, foldedSetIterable (.Name x np) X.env y = pure y := by intro _; rfl) :
    DS X W (.Assign [.Name y py] (.ListComp elt [⟨tg, .Name x np, ifs, 0⟩] scope pos) spos) (sSet j (eQ (eLcN vs t i fc fe))) := by
  subst hvs
  have row := di_seq (W := W) (tg := tg) (de_name hx)
  obtain ⟨wi, p0, q0⟩ := row.ex
  have p1 := ps_setLc (own := own) (g := tDG X t) (tt := tDT X W0 fc) (te := tD X W0 fe) hc hN hy hyl hsw p0 ok (fun s H C cl fp => (hg s H C cl fp).canon) (fun s H C cl fp => (ht s H C cl fp).canon) (fun s H C cl fp => (he s H C cl fp).canon) hs
  have pk := ps_setLc (own := own) (g := tDG X t) (tt := tDT X W0 fc) (te := tD X W0 fe) hc hN hy hyl hsw (pi_keys hx) ok (fun s H C cl fp => (hg s H C cl fp).canon) (fun s H C cl fp => (ht s H C cl fp).canon) (fun s H C cl fp => (he s H C cl fp).canon) hs
  refine ⟨_, PS.or (PS.or (ps_lock pk) pk) p1, fun Z σ G H r D S hp => ?_⟩
  have one : ∀ (Z : Fr0) (G : Hp) (r : Ev), RS X.K Z G H r σ → EPost X W Z σ G H r (fun v H' => D.nx (σ.set j (some v)) H') (eLcN (own.map (·.2)) t i fc fe r) →
      (tLockE (tLc (L2.iKeys (tVar i)) (tDG X t) (tDT X W0 fc) (tD X W0 fe) (own.map (·.2))) σ H (fun v H' => D.nx (σ.set j (some v)) H') ∨ tLc (L2.iKeys (tVar i)) (tDG X t) (tDT X W0 fc) (tD X W0 fe) (own.map (·.2)) σ H (fun v H' => D.nx (σ.set j (some v)) H')) ∨
      tLc wi (tDG X t) (tDT X W0 fc) (tD X W0 fe) (own.map (·.2)) σ H (fun v H' => D.nx (σ.set j (some v)) H') := by
    intro Z G r S hp
    by_cases hk : isK r[i]? = true
    · refine .inl (keys_post (X := X) (W := W) (i := i) (T := fun wi => tLc wi (tDG X t) (tDT X W0 fc) (tD X W0 fe) (own.map (·.2))) (F := fun fi => eLc (own.map (·.2)) t fi fc fe) (Q := fun v H' => D.nx (σ.set j (some v)) H') (fun qi S hp => lc_post hts qi S hp) (fun r c r' => by
         unfold eLc
         split
         · split
           · exact lcGo_ne _ _ _ _ _
           · exact nofun
         · rename_i h1
           unfold iKeysD at h1
           split at h1 <;> cases h1
         · exact nofun) S hk ?_)
      unfold eLcN at hp
      rw [if_pos hk] at hp
      exact hp
    · refine .inr (lc_post hts (fun R => q0 Z σ G H r R S) S ?_)
      unfold eLcN at hp
      rw [if_neg hk] at hp
      exact hp
  unfold sSet at hp
  have hp2 : EPost X W Z σ G H r (fun v H' => D.nx (σ.set j (some v)) H') (eQ (eLcN (own.map (·.2)) t i fc fe) r) := set_post hp (.inr trivial)
  rcases hp2.quiet S with q | q
  · exact one _ _ _ S.still q
  · exact one _ _ _ S q
end
end DL
end

section
set_option Elab.async false
set_option linter.all false
set_option maxRecDepth 100000
set_option autoImplicit false
/-! DL23: the order of data. -/
namespace DL
open PySem PySem.Spec PyProof.Rows L2
/-! ### the order is the model's -/
theorem b_lt (a b : Bool) : (!a && b) = decide (PyProof.Rows.b2i a < PyProof.Rows.b2i b) := by cases a <;> cases b <;> rfl
mutual
theorem alD_alike : ∀ x y : D, alD x y = true → PySem.W.alike (toP x) (toP y) = true
  | x, y, h => by
    cases x <;> cases y <;> first
      | (cases h; done)
      | rfl
      | exact alDs_alike _ _ h
theorem alDs_alike : ∀ xs ys : List D, alDs xs ys = true → PySem.W.alikeAll (toPs xs) (toPs ys) = true
  | [], _, _ => by unfold toPs PySem.W.alikeAll; rfl
  | _ :: _, [], _ => by unfold toPs PySem.W.alikeAll; rfl
  | x :: xs, y :: ys, h => by
    unfold alDs at h
    rw [Bool.and_eq_true] at h
    show (PySem.W.alike (toP x) (toP y) && PySem.W.alikeAll (toPs xs) (toPs ys)) = true
    rw [alD_alike x y h.1, alDs_alike xs ys h.2]; rfl
end
mutual
theorem ltD_data : ∀ (n m : Nat) (x y : D), okD n x = true → okD m y = true → alD x y = true → PySem.W.dataLt (toP x) (toP y) = ltD x y
  | n, m, .non, y, _, _, h => by
    cases y <;> first
      | (cases h; done)
      | exact PyProof.Rows.lex_irrefl _
  | n, m, .bl a, y, _, _, h => by
    cases y <;> first
      | (cases h; done)
      | (rw [show toP (.bl a) = .bool a from rfl, show toP (.bl _) = .bool _ from rfl, PySem.W.dataLt_bool, ← b_lt]; rfl)
  | n, m, .int a, y, _, _, h => by
    cases y <;> first
      | (cases h; done)
      | (rw [show toP (.int a) = .int a from rfl, show toP (.int _) = .int _ from rfl, PySem.W.dataLt_int]; rfl)
  | n, m, .str a, y, _, _, h => by
    cases y <;> first
      | (cases h; done)
      | (rw [show toP (.str a) = .str a from rfl, show toP (.str _) = .str _ from rfl, PySem.W.dataLt_str]; rfl)
  | n, m, .dct _, y, h, _, _ => by cases n <;> cases h
  | n, m, .dtt _, y, h, _, _ => by cases n <;> cases h
  | n, m, .tup xs, y, hx, hy, h => by
    cases y <;> first
      | (cases h; done)
      | (cases n <;> first | (cases hx; done) | (cases m <;> first | (cases hy; done) | exact (PySem.W.dataLt_tuple _ _).trans (ltDs_data _ _ _ _ hx hy h)))
  | n, m, .ktp xs, y, hx, hy, h => by
    cases y <;> first
      | (cases h; done)
      | (cases n <;> first | (cases hx; done) | (cases m <;> first | (cases hy; done) | exact (PySem.W.dataLt_tuple _ _).trans (ltDs_data _ _ _ _ hx hy h)))
  | n, m, .lst xs, y, hx, hy, h => by
    cases y <;> first
      | (cases h; done)
      | (cases n <;> first | (cases hx; done) | (cases m <;> first | (cases hy; done) | exact (PySem.W.dataLt_list _ _).trans (ltDs_data _ _ _ _ hx hy h)))
  | n, m, .kls xs, y, hx, hy, h => by
    cases y <;> first
      | (cases h; done)
      | (cases n <;> first | (cases hx; done) | (cases m <;> first | (cases hy; done) | exact (PySem.W.dataLt_list _ _).trans (ltDs_data _ _ _ _ hx hy h)))
theorem ltDs_data : ∀ (n m : Nat) (xs ys : List D), okDs n xs = true → okDs m ys = true → alDs xs ys = true → PyProof.Rows.lexLt PyProof.Rows.itemOrd (PySem.W.keyToksAll (toPs xs)) (PySem.W.keyToksAll (toPs ys)) = ltDs xs ys
  | _, _, [], [], _, _, _ => PyProof.Rows.lex_irrefl _
  | _, _, [], y :: ys, _, _, _ => by
    show PyProof.Rows.lexLt PyProof.Rows.itemOrd (PySem.W.keyToksAll []) (PySem.W.keyToksAll (toP y :: toPs ys)) = true
    simp only [PySem.W.keyToksAll]
    rw [PySem.W.lex_atom (by decide), PySem.W.lex_one]; rfl
  | _, _, x :: xs, [], _, _, _ => by
    show PyProof.Rows.lexLt PyProof.Rows.itemOrd (PySem.W.keyToksAll (toP x :: toPs xs)) (PySem.W.keyToksAll []) = false
    simp only [PySem.W.keyToksAll]
    rw [PySem.W.lex_atom (by decide), PySem.W.lex_one]; rfl
  | n, m, x :: xs, y :: ys, hx, hy, h => by
    unfold okDs at hx hy
    unfold alDs at h
    rw [Bool.and_eq_true] at hx hy h
    show PyProof.Rows.lexLt PyProof.Rows.itemOrd (PySem.W.keyToksAll (toP x :: toPs xs)) (PySem.W.keyToksAll (toP y :: toPs ys)) = if eqD x y = true then ltDs xs ys else ltD x y
    rw [PySem.W.dataLt_cons (alD_alike x y h.1), eqD_eqv x y hx.1 hy.1, ltDs_data n m xs ys hx.2 hy.2 h.2, ltD_data n m x y hx.1 hy.1 h.1]
end
section
variable {X : Cx} {Z : Fr0} {σ : L2.St} {G H : Hp} {r : Ev}
def rCmp (K : FG) (f : PyData → PyData → Bool) : R2 := fun x y H Q => ∃ d e, Dp K H x d ∧ Dp K H y e ∧ PySem.W.alike d e = true ∧ d ≠ .none ∧ d.depth ≤ 64 ∧ Q (.bl (f d e)) H
theorem op_ltW (hu : X.A.units + 64 < cLine) : OpR X (compareOp .Lt) (rCmp X.K fun d e => PySem.W.dataLt d e) := by
  intro pins s σ H x y v u Q I rx ry h
  obtain ⟨d, e, hd, he, al, nn, dp, q⟩ := h
  obtain ⟨as, r1⟩ := Dp.reads I d x v hd rx
  obtain ⟨bs, r2⟩ := Dp.reads I e y u he ry
  exact PySem.W.lt_data r1 r2 al nn (Nat.lt_of_le_of_lt (Nat.add_le_add_left (Nat.le_trans (Nat.min_le_left _ _) dp) _) hu) ⟨.bl _, H, I, rfl, q⟩
theorem op_gtW (hu : X.A.units + 64 < cLine) : OpR X (compareOp .Gt) (rCmp X.K fun d e => PySem.W.dataLt e d) := by
  intro pins s σ H x y v u Q I rx ry h
  obtain ⟨d, e, hd, he, al, nn, dp, q⟩ := h
  obtain ⟨as, r1⟩ := Dp.reads I d x v hd rx
  obtain ⟨bs, r2⟩ := Dp.reads I e y u he ry
  exact PySem.W.gt_data r1 r2 al nn (Nat.lt_of_le_of_lt (Nat.add_le_add_left (Nat.le_trans (Nat.min_le_left _ _) dp) _) hu) ⟨.bl _, H, I, rfl, q⟩
theorem op_leW (hu : X.A.units + 64 < cLine) : OpR X (compareOp .LtE) (rCmp X.K fun d e => !PySem.W.dataLt e d) := by
  intro pins s σ H x y v u Q I rx ry h
  obtain ⟨d, e, hd, he, al, nn, dp, q⟩ := h
  obtain ⟨as, r1⟩ := Dp.reads I d x v hd rx
  obtain ⟨bs, r2⟩ := Dp.reads I e y u he ry
  exact PySem.W.le_data r1 r2 al nn (Nat.lt_of_le_of_lt (Nat.add_le_add_left (Nat.le_trans (Nat.min_le_left _ _) dp) _) hu) ⟨.bl _, H, I, rfl, q⟩
theorem op_geW (hu : X.A.units + 64 < cLine) : OpR X (compareOp .GtE) (rCmp X.K fun d e => !PySem.W.dataLt d e) := by
  intro pins s σ H x y v u Q I rx ry h
  obtain ⟨d, e, hd, he, al, nn, dp, q⟩ := h
  obtain ⟨as, r1⟩ := Dp.reads I d x v hd rx
  obtain ⟨bs, r2⟩ := Dp.reads I e y u he ry
  exact PySem.W.ge_data r1 r2 al nn (Nat.lt_of_le_of_lt (Nat.add_le_add_left (Nat.le_trans (Nat.min_le_left _ _) dp) _) hu) ⟨.bl _, H, I, rfl, q⟩
theorem alD_comm : ∀ x y : D, alD x y = true → alD y x = true := by
  have H : ∀ n : Nat, ∀ x y : D, sizeOf x ≤ n → alD x y = true → alD y x = true := by
    intro n
    induction n with
    | zero => intro x y h; cases x <;> simp at h
    | succ n ih =>
      have L : ∀ xs ys : List D, sizeOf xs ≤ n → alDs xs ys = true → alDs ys xs = true := by
        intro xs
        induction xs with
        | nil => intro ys _ _; cases ys <;> rfl
        | cons x xs ih2 =>
          intro ys hs h
          cases ys with
          | nil => rfl
          | cons y ys =>
            unfold alDs at h ⊢
            rw [Bool.and_eq_true] at h ⊢
            simp at hs
            exact ⟨ih x y (by omega) h.1, ih2 ys (by omega) h.2⟩
      intro x y hs h
      cases x <;> cases y <;> first
        | (cases h; done)
        | rfl
        | (simp at hs; exact L _ _ (by omega) h)
  exact fun x y => H _ x y (Nat.le_refl _)
theorem toP_non {x : D} {n : Nat} (h : okD n x = true) (k : isNon x = false) : toP x ≠ .none := by
  cases x <;> first
    | (cases k; done)
    | (cases n <;> cases h; done)
    | (intro z; cases z; done)
theorem cmpD {f : Value → Value → Sem Value} {g : D → D → Option Op} {F : PyData → PyData → Bool} {B : D → D → Bool} (a : OpD X f g) (b : OpR X f (rCmp X.K F)) (hB : ∀ x y, okD 64 x = true → okD 64 y = true → alD x y = true → F (toP x) (toP y) = B x y) : OpD X f (fun x y => (g x y).or (cmpB x y (B x y))) := by
  refine a.or ⟨_, b, ?_⟩
  intro Z σ G H r x y dx dy o Q S hx hy e h
  have e : cmpB dx dy (B dx dy) = some o := e
  unfold cmpB at e
  split at e <;> cases e
  rename_i c
  unfold cmpOk at c
  simp only [Bool.and_eq_true, Bool.not_eq_true'] at c
  obtain ⟨⟨⟨c1, c2⟩, c3⟩, c4⟩ := c
  refine ⟨_, _, hx.dp S.sg c1, hy.dp S.sg c2, alD_alike _ _ c3, toP_non c1 c4, (okD_lay c1).2, ?_⟩
  rw [hB dx dy c1 c2 c3]
  exact h.bl S
theorem opd_ltA (hu0 : X.A.units < cLine) (hu : X.A.units + 64 < cLine) : OpD X (compareOp .Lt) gLtA := cmpD (opd_lt hu0) (op_ltW hu) fun x y a b c => ltD_data _ _ x y a b c
theorem opd_leA (hu : X.A.units + 64 < cLine) : OpD X (compareOp .LtE) gLeA := cmpD opd_le (op_leW hu) fun x y a b c => by rw [ltD_data _ _ y x b a (alD_comm _ _ c)]
theorem opd_gtA (hu : X.A.units + 64 < cLine) : OpD X (compareOp .Gt) gGtA := cmpD opd_gt (op_gtW hu) fun x y a b c => by rw [ltD_data _ _ y x b a (alD_comm _ _ c)]
theorem opd_geA (hu : X.A.units + 64 < cLine) : OpD X (compareOp .GtE) gGeA := cmpD opd_ge (op_geW hu) fun x y a b c => by rw [ltD_data _ _ x y a b c]
/-! ### in, of tuples -/
def rInT (K : FG) (neg : Bool) : R2 := fun x y H Q => ∃ d ds, Dp K H x d ∧ Dp K H y (.tuple ds) ∧ SeqAt.shaped d = true ∧ SeqAt.shaped (.tuple ds) = true ∧ Q (.bl (if neg then !ds.any (fun z => PyData.eqv z d) else ds.any fun z => PyData.eqv z d)) H
theorem op_inT (hu : X.A.units + 65 < cLine) : OpR X (compareOp .In) (rInT X.K false) := by
  intro pins s σ H x y v u Q I rx ry h
  obtain ⟨d, ds, hd, he, sd, se, q⟩ := h
  obtain ⟨as, r1⟩ := Dp.reads I d x v hd rx
  obtain ⟨bs, r2⟩ := Dp.reads I (.tuple ds) y u he ry
  have p1 : PyData.plainAll ds = true := by
    have := PyData.plain_of_canLay0 _ (SeqAt.canLay_of_shaped se)
    simpa [PyData.plain] using this
  exact SeqAt.in_tuple_data r2 r1 p1 (PyData.plain_of_canLay0 _ (SeqAt.canLay_of_shaped sd)) (room_in_shaped sd hu) ⟨.bl _, H, I, rfl, q⟩
theorem op_notInT (hu : X.A.units + 65 < cLine) : OpR X (compareOp .NotIn) (rInT X.K true) := by
  intro pins s σ H x y v u Q I rx ry h
  obtain ⟨d, ds, hd, he, sd, se, q⟩ := h
  obtain ⟨as, r1⟩ := Dp.reads I d x v hd rx
  obtain ⟨bs, r2⟩ := Dp.reads I (.tuple ds) y u he ry
  have p1 : PyData.plainAll ds = true := by
    have := PyData.plain_of_canLay0 _ (SeqAt.canLay_of_shaped se)
    simpa [PyData.plain] using this
  exact SeqAt.notIn_tuple_data r2 r1 p1 (PyData.plain_of_canLay0 _ (SeqAt.canLay_of_shaped sd)) (room_in_shaped sd hu) ⟨.bl _, H, I, rfl, q⟩
theorem inT_post {neg : Bool} {x y : V} {dx dy : D} {o : Op} {Q : VK} (S : RS X.K Z G H r σ) (hx : RH X.K G H dx x) (hy : RH X.K G H dy y) (e : inT neg dx dy = some o) (h : ResOk X.K Z σ G H r Q o) : rInT X.K neg x y H Q := by
  unfold inT at e
  have go : ∀ ys : List D, okDs 63 ys = true → okD 64 dx = true → Dp X.K H y (.tuple (toPs ys)) → o = .fz (.bl (if neg then !ys.any (fun z => eqD z dx) else ys.any fun z => eqD z dx)) → SeqAt.shaped (.tuple (toPs ys)) = true → rInT X.K neg x y H Q := by
    intro ys h1 h2 h3 h4 h5
    subst h4
    refine ⟨toP dx, toPs ys, hx.dp S.sg h2, h3, okD_shaped h2, h5, ?_⟩
    rw [eqs_any h2 h1]
    exact h.bl S
  split at e
  · split at e <;> cases e
    rename_i ys c
    rw [Bool.and_eq_true] at c
    exact go ys c.2 c.1 (hy.dp S.sg c.2) rfl (okD_shaped c.2)
  · split at e <;> cases e
    rename_i ys c
    rw [Bool.and_eq_true] at c
    exact go ys c.2 c.1 (hy.dp S.sg c.2) rfl (okD_shaped c.2)
  · cases e
theorem opd_inA (hu : X.A.units + 65 < cLine) : OpD X (compareOp .In) gInA := (opd_in hu).or ⟨_, op_inT hu, fun Z σ G H r x y dx dy o Q S hx hy e h => inT_post S hx hy e h⟩
theorem opd_notInA (hu : X.A.units + 65 < cLine) : OpD X (compareOp .NotIn) gNotInA := (opd_notIn hu).or ⟨_, op_notInT hu, fun Z σ G H r x y dx dy o Q S hx hy e h => inT_post S hx hy e h⟩
end
end DL

section
set_option Elab.async false
set_option linter.all false
set_option maxRecDepth 100000
set_option autoImplicit false
/-! DL24: sorted of rows of data, of a dict keyed by tuples. -/
namespace DL
open PySem PySem.Spec PyProof.Rows L2
mutual
theorem Reads.below {h : Heap} : ∀ {v : Value} {d : PyData} {as : List Addr}, Reads h v d as → ∀ b ∈ as, b < h.objs.size
  | _, _, _, .none, _, hb => by cases hb
  | _, _, _, .bool _, _, hb => by cases hb
  | _, _, _, .int _ _, _, hb => by cases hb
  | _, _, _, .str _ _, _, hb => by cases hb
  | _, _, _, .list h1 _ _ r, b, hb => by
    rcases List.mem_cons.mp hb with e | e
    · subst e; exact Heap.lt_size h1
    · exact Reads.belows r b e
  | _, _, _, .tuple _ _ _ r, b, hb => Reads.belows r b hb
  | _, _, _, .dict h1 _ _ r1 r2, b, hb => by
    rcases List.mem_append.mp hb with e | e
    · rcases List.mem_cons.mp e with e | e
      · subst e; exact Heap.lt_size h1
      · exact Reads.belows r1 b e
    · exact Reads.belows r2 b e
theorem Reads.belows {h : Heap} : ∀ {vs : List Value} {ds : List PyData} {as : List Addr}, ReadsAll h vs ds as → ∀ b ∈ as, b < h.objs.size
  | _, _, _, .nil, _, hb => by cases hb
  | _, _, _, .cons r t, b, hb => by
    rcases List.mem_append.mp hb with e | e
    · exact Reads.below r b e
    · exact Reads.belows t b e
end
section
variable {X : Cx}
theorem eachV : ∀ {bs : List (V × D)} {us : List Value}, Vals (bs.map (·.1)) us → PySem.W.EachIs (fun (v : Value) (b : V × D) => RelV b.1 v) us bs
  | [], us, h => by
    have h : Vals [] us := h
    cases h; exact .nil
  | b :: bs, us, h => by
    have h : Vals (b.1 :: bs.map (·.1)) us := h
    cases h with
    | cons a t => exact .cons a (eachV t)
theorem valsE : ∀ {bs : List (V × D)} {us : List Value}, PySem.W.EachIs (fun (v : Value) (b : V × D) => RelV b.1 v) us bs → Vals (bs.map (·.1)) us
  | _, _, .nil => .nil
  | _, _, .cons a t => .cons a (valsE t)
theorem eachRd {σ : L2.St} {pins : List (Addr × Obj)} {s : Shared} {H : Hp} (I : Inv X pins σ H s) : ∀ {bs : List (V × D)} {us : List Value}, (∀ b ∈ bs, Dp X.K H b.1 (toP b.2)) → PySem.W.EachIs (fun (v : Value) (b : V × D) => RelV b.1 v) us bs → PySem.W.EachIs (fun (v : Value) (b : V × D) => ∃ as, Reads s.heap v (toP b.2) as) us bs
  | _, _, _, .nil => .nil
  | _, _, h, .cons a t => .cons (Dp.reads I _ _ _ (h _ List.mem_cons_self) a) (eachRd I (fun b hb => h b (List.mem_cons_of_mem _ hb)) t)
def srtB (bs : List (V × D)) : List (V × D) := bs.mergeSort fun a b => !PySem.W.dataLt (toP b.2) (toP a.2)
structure SrtH (K : FG) (H : Hp) (bs : List (V × D)) : Prop where
  dp : ∀ b ∈ bs, Dp K H b.1 (toP b.2)
  al : PySem.W.AllAlike (bs.map fun b => toP b.2)
  so : PySem.W.Sortable (bs.map fun b => toP b.2)
  de : ∀ b ∈ bs, (toP b.2).depth ≤ 61
theorem cr_sortedG (hu : X.A.units + 64 < cLine) : CallR X (.builtin "sorted") (fun xs H Q => ∃ (a : Addr) (bs : List (V × D)), xs = [.ref a] ∧ SqL X.K H a (bs.map (·.1)) ∧ SrtH X.K H bs ∧ ∀ p : Addr, H p = none → Q (.ref p) (upd H p (.lst ((srtB bs).map (·.1))))) := by
  intro pins s σ H xs us Q I r h
  obtain ⟨a, bs, rfl, hs, sh, q⟩ := h
  obtain ⟨its, rv, hl, hz⟩ := I.list hs
  rw [Vals.ref1 r]
  have e := eachV rv
  refine PySem.W.sorted_data hl.isList e (eachRd I sh.dp e) sh.al sh.so (by rw [List.length_map] at hz; exact hz) (fun b hb => by have := sh.de b hb; omega) fun out h1 h2 => ?_
  obtain ⟨ep, he'⟩ := PyProof.Rows.sortedAll_at s.heap its out.toArray
  have h3 : Vals ((srtB bs).map (·.1)) out := valsE h2
  have hlen : ((srtB bs).map (·.1)).length ≤ sizeLine := by
    rw [List.length_map] at hz ⊢
    unfold srtB; rw [List.length_mergeSort]; exact hz
  exact ⟨.ref _, upd H (s.heap.objs.size + 1) (.lst ((srtB bs).map (·.1))), I.laid (t' := s.toks) (fun _ _ => PyProof.Rows.sortedAll_old) (Nat.le_succ _) ⟨hlen, out, ep, h3, he'⟩, rfl, q _ (I.hok.fresh (Nat.le_succ _))⟩
theorem cr_sortedGT (hc : X.calm = true) (hu : X.A.units + 64 < cLine) : CallR X (.builtin "sorted") (fun xs H Q => ∃ (d : Addr) (kvs : List (List Key × V)), xs = [.ref d] ∧ Rd H d (.dT kvs) ∧ ∀ as : List Addr, IsKeys H kvs as → ∃ bs : List (V × D), bs.map (·.1) = as.map V.ref ∧ SrtH X.K H bs ∧ ∀ p : Addr, H p = none → Q (.ref p) (upd H p (.lst ((srtB bs).map (·.1))))) := by
  intro pins s σ H xs us Q I r h
  obtain ⟨d, kvs, rfl, hd, q⟩ := h
  rw [Vals.ref1 r]
  obtain ⟨z, hs, ks, pr, o, es, ep, ho, hx, hdt, he, hn⟩ := (show ObjOk X.prog X.w H s.heap d (.dT kvs) from hd.ok I.hok)
  have l1 : es.size = ks.length := size_of_entries he
  have l2 : kvs.length = ks.length := Paired.length pr
  obtain ⟨bs, hb, sh, q⟩ := q (ks.map fun x => x.2.1) (isKeys_of pr)
  refine sorted_src (kdl_raw hs hx hdt) (I.ok.hd hc) ho (by omega) fun h' tk its hk hgrow hl hv => ?_
  have eb : its = (ks.map fun x => x.2.1).map Value.ref := by
    rw [List.map_map]
    apply List.ext_getElem?
    intro j
    rw [List.getElem?_map]
    cases hj : its[j]? with
    | none =>
      have h1 := List.getElem?_eq_none_iff.mp hj
      rw [List.getElem?_eq_none (by omega)]
      all_goals rfl
    | some v =>
      obtain ⟨en, hen, hv⟩ := hv j v hj
      have qe := entry_at he j
      rw [hen] at qe
      cases hb : ks[j]? with
      | none =>
        rw [hb] at qe
        exact nomatch (show some en = none from qe)
      | some b =>
        rw [hb] at qe
        have e2 : en = entryOfKey (tupleKind (mixKind X.prog X.w)) b := Option.some.inj qe
        rw [hv, e2]
        all_goals rfl
  have rv : Vals (bs.map (·.1)) its := by rw [eb, hb]; exact vals_refs _
  have e := eachV rv
  have er := eachRd I sh.dp e
  have hsz : s.heap.objs.size ≤ h'.objs.size := Nat.le_of_lt hgrow
  have hob : (h'.push { cls := .type "list", data := .seq its.toArray }).get? h'.objs.size = some (PyProof.Rows.seqObj "list" its.toArray 0) := Heap.get?_push_size _ rfl
  have hzb : bs.length ≤ sizeLine := by
    have := congrArg List.length hb
    simp only [List.length_map] at this
    omega
  have er2 : PySem.W.EachIs (fun (v : Value) (b : V × D) => ∃ as, Reads (h'.push { cls := .type "list", data := .seq its.toArray }) v (toP b.2) as ∧ h'.objs.size ∉ as) its bs := by
    have er3 := PySem.W.each_mem er
    refine er3.mono fun v b ⟨⟨as, r1⟩, _⟩ => ?_
    refine ⟨as, PyProof.Rows.Reads.keeps (fun b o hb => Heap.get?_push_of_some _ (hk b o hb)) r1, fun m => ?_⟩
    exact Nat.lt_irrefl _ (Nat.lt_of_lt_of_le (Reads.below r1 _ m) hsz)
  refine PySem.W.list_sort_data hob e er2 sh.al sh.so hzb (fun b hb => by have := sh.de b hb; show X.A.units + 1 + 1 + _ < _; omega) fun out h1 h2 => ?_
  obtain ⟨ep2, he'⟩ := PyProof.Rows.sortedHeap_at (vs := its) (out := out.toArray) hob
  have h3 : Vals ((srtB bs).map (·.1)) out := valsE h2
  have hlen : ((srtB bs).map (·.1)).length ≤ sizeLine := by
    rw [List.length_map]
    unfold srtB; rw [List.length_mergeSort]; exact hzb
  refine ⟨.ref h'.objs.size, upd H h'.objs.size (.lst ((srtB bs).map (·.1))), I.laid (fun b u hb => ?_) hsz ⟨hlen, out, ep2, h3, he'⟩, rfl, q _ (I.hok.fresh hsz)⟩
  have hb2 := hk b u hb
  have hlt := Heap.lt_size hb2
  rw [PyProof.Rows.sortedHeap_old (Nat.ne_of_lt hlt) (by rw [size_push']; exact Nat.lt_succ_of_lt hlt)]
  exact Heap.get?_push_of_some _ hb2
end
end DL

section
set_option Elab.async false
set_option linter.all false
set_option maxRecDepth 100000
set_option autoImplicit false
/-! DL25: sorted over data. -/
namespace DL
open PySem PySem.Spec PyProof.Rows L2
section
variable {K : FG} {Z : Fr0} {σ : L2.St} {G H : Hp} {r : Ev}
/-- a tuple that stands in H is known to G from now on -/
theorem RS.seeT (S : RS K Z G H r σ) {a : Addr} {vs : List V} {ds : List D} (h : H a = some (.tup vs)) (rd : RDs K G ds vs) : ∃ G', RS K Z G' H r σ ∧ EX σ G H r G' H r ∧ RD K G' (.tup ds) (.ref a) := by
  cases q : G a with
  | some o =>
    have e := S.sg a o q
    rw [h] at e; cases e
    exact ⟨G, S, .refl, .tup q rd⟩
  | none =>
    have sm : Same G (upd G a (.tup vs)) := same_new q
    refine ⟨upd G a (.tup vs), ⟨S.len, same_in S.sg h, S.g0.trans sm, S.h0, S.dm, fun b o e => ?_, fun i d e => ?_, fun i b d e => ?_, S.inj⟩, ⟨sm, fun _ _ h _ => h, fun _ h => h, fun b o e => ?_, fun _ h => h⟩, .tup upd_same (rd.mono sm)⟩
    · by_cases z : b = a
      · subst z
        rw [upd_same] at e; cases e
        cases w : Z.H0 b with
        | none => exact .inr (.inl (.inl w))
        | some u =>
          by_cases hi : b ∈ Z.io
          · exact .inr (.inr hi)
          · have := S.h0 b u w hi
            rw [h] at this; cases this
            exact .inr (.inl (.inr ⟨w, vs, rfl⟩))
      · rw [upd_ne z] at e; exact S.fr b o e
    · obtain ⟨v, e1, e2⟩ := S.va i d e
      exact ⟨v, e1, e2.mono sm⟩
    · obtain ⟨b', e1, e2, e3, e4⟩ := S.ow i b d e
      have ne : b' ≠ a := fun z => by subst z; exact e3.notTup h
      exact ⟨b', e1, by rw [upd_ne ne]; exact e2, e3.at sm rfl, e4⟩
    · by_cases z : b = a
      · subst z
        rw [upd_same] at e; cases e
        exact .inr (.inl (.inr ⟨h, vs, rfl⟩))
      · rw [upd_ne z] at e; exact .inl e
theorem keyRD {G : Hp} (k : DK) : RD K G (kD k) (kV k) := by
  cases k with
  | inl i => exact .int i
  | inr x => exact .str x
theorem keysRD {G : Hp} : ∀ ks : List DK, RDs K G (ks.map kD) (ks.map kV)
  | [] => .nil
  | k :: ks => .cons (keyRD k) (keysRD ks)
theorem RS.seeTs : ∀ {kvs : List (List Key × V)} {as : List Addr} {G : Hp}, RS K Z G H r σ → IsKeys H kvs as → ∃ G', RS K Z G' H r σ ∧ EX σ G H r G' H r ∧ ∃ bs : List (V × D), bs.map (·.1) = as.map V.ref ∧ bs.map (·.2) = kvs.map (fun p => .tup (p.1.map kD)) ∧ ∀ b ∈ bs, RD K G' b.2 b.1 := by
  intro kvs
  induction kvs with
  | nil =>
    intro as G S h
    have h : Paired _ [] as := h
    cases h
    exact ⟨G, S, .refl, [], rfl, rfl, fun b hb => by cases hb⟩
  | cons p kvs ih =>
    intro as G S h
    have h : Paired _ (p :: kvs) as := h
    cases h with
    | cons h1 t =>
      obtain ⟨G1, S1, X1, R1⟩ := S.seeT h1 (keysRD p.1)
      obtain ⟨G2, S2, X2, bs, e1, e2, hb⟩ := ih S1 t
      refine ⟨G2, S2, X1.trans X2, (V.ref _, .tup (p.1.map kD)) :: bs, by rw [List.map_cons, e1]; rfl, by rw [List.map_cons, e2]; rfl, fun b hm => ?_⟩
      rcases List.mem_cons.mp hm with e | e
      · subst e; exact R1.mono X2.g
      · exact hb b e
theorem RDs.zipB {G : Hp} : ∀ {ds : List D} {vs : List V}, RDs K G ds vs → ∃ bs : List (V × D), bs.map (·.1) = vs ∧ bs.map (·.2) = ds ∧ ∀ b ∈ bs, RD K G b.2 b.1
  | _, _, .nil => ⟨[], rfl, rfl, fun b hb => by cases hb⟩
  | _, _, .cons (d := d) (v := v) a t => by
    obtain ⟨bs, e1, e2, h⟩ := t.zipB
    refine ⟨(v, d) :: bs, by rw [List.map_cons, e1], by rw [List.map_cons, e2], fun b hb => ?_⟩
    rcases List.mem_cons.mp hb with e | e
    · subst e; exact a
    · exact h b e
theorem RDs.ofB {G : Hp} : ∀ {bs : List (V × D)}, (∀ b ∈ bs, RD K G b.2 b.1) → RDs K G (bs.map (·.2)) (bs.map (·.1))
  | [], _ => .nil
  | b :: bs, h => .cons (h b List.mem_cons_self) (RDs.ofB fun c hc => h c (List.mem_cons_of_mem _ hc))
theorem srtB_snd {bs : List (V × D)} (h : srtOk (bs.map (·.2)) = true) : (srtB bs).map (·.2) = srtD (bs.map (·.2)) := by
  unfold srtB srtD
  unfold srtOk at h
  simp only [Bool.and_eq_true] at h
  obtain ⟨⟨h1, h2⟩, _⟩ := h
  refine List.map_mergeSort fun a ha b hb => ?_
  have ma : a.2 ∈ bs.map (·.2) := List.mem_map.mpr ⟨a, ha, rfl⟩
  have mb : b.2 ∈ bs.map (·.2) := List.mem_map.mpr ⟨b, hb, rfl⟩
  have al := List.all_eq_true.mp (List.all_eq_true.mp h2 _ mb) _ ma
  rw [ltD_data 60 60 b.2 a.2 (okDs_iff.mp h1 _ mb) (okDs_iff.mp h1 _ ma) al]
theorem srtH_of {bs : List (V × D)} (sg : Same G H) (h : srtOk (bs.map (·.2)) = true) (rd : ∀ b ∈ bs, RD K G b.2 b.1) : SrtH K H bs := by
  unfold srtOk at h
  simp only [Bool.and_eq_true, Bool.or_eq_true] at h
  obtain ⟨⟨h1, h2⟩, h3⟩ := h
  have ok : ∀ b ∈ bs, okD 60 b.2 = true := fun b hb => okDs_iff.mp h1 _ (List.mem_map.mpr ⟨b, hb, rfl⟩)
  refine ⟨fun b hb => RD.dp sg (rd b hb) (ok b hb), fun d hd e he => ?_, ?_, fun b hb => by have := (okD_lay (ok b hb)).2; omega⟩
  · obtain ⟨b, hb, rfl⟩ := List.mem_map.mp hd
    obtain ⟨c, hc, rfl⟩ := List.mem_map.mp he
    exact alD_alike _ _ (List.all_eq_true.mp (List.all_eq_true.mp h2 _ (List.mem_map.mpr ⟨b, hb, rfl⟩)) _ (List.mem_map.mpr ⟨c, hc, rfl⟩))
  · rcases h3 with h3 | h3
    · refine .inl fun d hd => ?_
      obtain ⟨b, hb, rfl⟩ := List.mem_map.mp hd
      have k := List.all_eq_true.mp h3 _ (List.mem_map.mpr ⟨b, hb, rfl⟩)
      cases q : b.2 with
      | tup xs => rw [q] at k; cases xs with
        | nil => cases k
        | cons x xs => exact ⟨toP x, toPs xs, rfl⟩
      | ktp xs => rw [q] at k; cases xs with
        | nil => cases k
        | cons x xs => exact ⟨toP x, toPs xs, rfl⟩
      | _ => rw [q] at k; cases k
    · refine .inr fun d hd => ?_
      obtain ⟨b, hb, rfl⟩ := List.mem_map.mp hd
      have k := List.all_eq_true.mp h3 _ (List.mem_map.mpr ⟨b, hb, rfl⟩)
      have o := ok b hb
      cases q : b.2 with
      | non => rw [q] at k; cases k
      | tup _ => rw [q] at k; cases k
      | ktp _ => rw [q] at k; cases k
      | dct _ => rw [q] at o; cases o
      | dtt _ => rw [q] at o; cases o
      | _ => exact ⟨nofun, nofun⟩
theorem ResOk.pre {Q : VK} {o : Op} {G' H' : Hp} (X1 : EX σ G H r G' H' r) (h : ResOk K Z σ G H r Q o) : ResOk K Z σ G' H' r Q o := fun v G2 H2 S2 X2 R2 => h v G2 H2 S2 (X1.trans X2) (R2.base X1.n)
end
section
variable {X : Cx}
theorem cd_sortedA (hu : X.A.units + 64 < cLine) : CallD X (.builtin "sorted") gSortedA := by
  refine ⟨_, cr_sortedG hu, ?_⟩
  intro Z σ G H r xs ds o Q S hs e h
  unfold gSortedA at e
  split at e
  · rename_i ys
    split at e <;> cases e
    rename_i c
    obtain ⟨v, rfl, k⟩ := rh1 hs
    obtain ⟨a, vs, rfl, h1, h2⟩ := k
    obtain ⟨bs, e1, e2, hb⟩ := h2.zipB
    subst e1 e2
    refine ⟨a, bs, rfl, .of h1, srtH_of S.sg c hb, fun p hp => ?_⟩
    rw [← srtB_snd c] at h
    refine h.lst S (RDs.ofB fun b hm => hb b ?_) hp
    unfold srtB at hm
    exact List.mem_mergeSort.mp hm
  · cases e
theorem cd_sortedT (hc : X.calm = true) (hu : X.A.units + 64 < cLine) : CallD X (.builtin "sorted") gSortedT := by
  refine ⟨_, cr_sortedGT hc hu, ?_⟩
  intro Z σ G H r xs ds o Q S hs e h
  unfold gSortedT at e
  split at e
  · rename_i kvs
    split at e <;> cases e
    rename_i c
    obtain ⟨v, rfl, k⟩ := rh1 hs
    obtain ⟨a, ws, rfl, h1, h2, h3⟩ := k
    refine ⟨a, ws, rfl, .inl h1, fun as ik => ?_⟩
    obtain ⟨G', S', X', bs, e1, e2, hb⟩ := S.seeTs ik
    have e3 : bs.map (·.2) = kvs.map fun p => D.tup (p.1.map kD) := by
      rw [e2]
      have := congrArg (List.map fun k : List DK => D.tup (k.map kD)) h2
      rw [List.map_map, List.map_map] at this
      exact this
    rw [← e3] at c h
    refine ⟨bs, e1, srtH_of S'.sg c hb, fun p hp => ?_⟩
    rw [← srtB_snd c] at h
    refine (h.pre X').lst S' (RDs.ofB fun b hm => hb b ?_) hp
    unfold srtB at hm
    exact List.mem_mergeSort.mp hm
  · cases e
theorem CallD.or {f : Value} {g g' : List D → Option Op} (a : CallD X f g) (b : CallD X f g') : CallD X f (fun ds => (g ds).or (g' ds)) := by
  obtain ⟨r1, p1, q1⟩ := a
  obtain ⟨r2, p2, q2⟩ := b
  refine ⟨_, p1.or p2, fun Z σ G H r xs ds o Q S hx e h => ?_⟩
  cases e1 : g ds with
  | some o' =>
    have e : (g ds).or (g' ds) = some o := e
    rw [e1] at e
    have e' : o' = o := by simpa using e
    subst e'
    exact .inl (q1 Z σ G H r xs ds _ Q S hx e1 h)
  | none =>
    have e : (g ds).or (g' ds) = some o := e
    rw [e1] at e
    exact .inr (q2 Z σ G H r xs ds o Q S hx (by simpa using e) h)
theorem cd_sortedE (hc : X.calm = true) (hu : X.A.units + 64 < cLine) : CallD X (.builtin "sorted") gSortedE := (cd_sortedD hc).or ((cd_sortedA hu).or (cd_sortedT hc hu))
end
end DL
end

section
set_option Elab.async false
set_option linter.all false
set_option maxRecDepth 100000
set_option autoImplicit false
/-! DL26: x[::-1] of a tuple. -/
namespace HT
open PySem PySem.Spec PyProof.Rows
section
variable {prog : Program} {w : World} {A : Around} {E : Value → Shared → Prop} {s : Shared}
theorem sliceApplied_rev {sl : Addr} {vl vu vs : Value} {n : Nat} {Q : Int × Int × Nat → Shared → Prop} (hs : s.heap.IsSliceOf sl vl vu vs) (pl : IsPart vl none) (pu : IsPart vu none) (ps : IsPart vs (some (-1)))
    (h : Q ((n : Int) - 1, -1, n) s) : wpAny (model prog w) A (Builtin.Slice.sliceApplied (.ref sl) (pure (n : Int))) Q E s := by
  obtain ⟨os, hos, hcs, hds⟩ := id hs
  unfold Builtin.Slice.sliceApplied Builtin.Slice.sliceFields
  refine wpAny_bind (wpAny_bind (wpAny_field hos hds (x := vl) rfl (wpAny_bind (wpAny_field hos hds (x := vu) rfl (wpAny_bind (wpAny_field hos hds (x := vs) rfl (wpAny_pure ?_)))))))
  refine wpAny_bind (slicePart_ ps ?_)
  show wpAny _ _ (if ((-1 : Int) == 0) = true then _ else _) _ _ s
  rw [if_neg (by decide)]
  refine wpAny_bind (slicePart_ pl (wpAny_bind (slicePart_ pu (wpAny_bind (wpAny_pure ?_)))))
  show wpAny _ _ (pure ((n : Int) - 1, (-1 : Int), Builtin.Slice.slicePlaces ((n : Int) - 1) (-1) (-1))) _ _ s
  have e : Builtin.Slice.slicePlaces ((n : Int) - 1) (-1) (-1) = n := by
    unfold Builtin.Slice.slicePlaces
    rw [if_neg (by decide)]
    by_cases hn : n = 0
    · subst hn; rfl
    · rw [if_pos (by omega)]
      show (((n : Int) - 1 - -1 - 1) / 1 + 1).toNat = n
      rw [Int.ediv_one]; omega
  rw [e]
  exact wpAny_pure h
theorem pick_rev (xs : Array Value) : ((List.range xs.size).filterMap fun (m : Nat) => xs[((xs.size : Int) - 1 + (m : Int) * (-1)).toNat]?).toArray = xs.toList.reverse.toArray := by
  congr 1
  have e : ((List.range xs.size).filterMap fun (m : Nat) => xs[((xs.size : Int) - 1 + (m : Int) * (-1)).toNat]?) = (List.range xs.size).filterMap fun (m : Nat) => xs[xs.size - 1 - m]? := by
    congr 1
    funext m
    rw [show ((xs.size : Int) - 1 + (m : Int) * (-1)).toNat = xs.size - 1 - m by omega]
  have e2 : (fun (m : Nat) => xs[xs.size - 1 - m]?) = (fun m => xs[m]?) ∘ fun m => xs.size - 1 - m := rfl
  rw [e, e2, ← List.filterMap_map, PySem.W.krv_range, List.filterMap_reverse]
  congr 1
  exact PySem.W.krv_all xs
theorem getItem_tuple_rev {t sl : Addr} {items : Array Value} {vl vu vs : Value} {Q : Value → Shared → Prop} (ht : IsTup s.heap t items) (hs : s.heap.IsSliceOf sl vl vu vs) (pl : IsPart vl none) (pu : IsPart vu none) (ps : IsPart vs (some (-1)))
    (h : Q (.ref s.heap.objs.size) { s with heap := s.heap.push { cls := .type "tuple", data := .seq items.toList.reverse.toArray } })
    (hsz : items.size ≤ sizeLine) : wpAny (model prog w) A (getItem (.ref t) (.ref sl)) Q E s := by
  have htake : sizeOk (.seq items.toList.reverse.toArray) := by
    show items.toList.reverse.toArray.size ≤ sizeLine
    rw [List.size_toArray, List.length_reverse, Array.length_toList]
    exact hsz
  obtain ⟨os, hos, hcs, hds⟩ := id hs
  have hTs : s.TypeIs (.ref sl) "slice" := ⟨os, hos, hcs⟩
  unfold getItem
  try with_reducible refine wpAny_holding ?_
  first | refine wpAny_bind (wpAny_pure ?_) | skip
  refine wpAny_bind (wpAny_sequenceKey ht.typeIs (by decide) ?_)
  refine wpAny_bind (wpAny_callSpecial?_slot (name := Str.ofString "__getitem__") ht.typeIs PyProof.Rows.slot_tuple_getitem
    (wpAny_call_entry PyProof.Rows.slot_tuple_getitem ht.typeIs entry_tuple_getitem ?_ (args_tuple_getitem _ _)))
  show wpAny _ _ (Builtin.Tuple.tupleItemsOf (.ref t) >>= _) _ _ s
  refine wpAny_bind (tupleItemsOf_ ht ?_)
  refine wpAny_bind (wpAny_typeOf hTs ?_)
  rw [if_pos (by decide)]
  refine wpAny_bind (sliceApplied_rev hs pl pu ps ?_)
  have hno : ¬ ((((items.size : Int) - 1) == 0 && (-1 : Int) == 1 && items.size == items.size) = true) := by
    intro q
    rw [Bool.and_eq_true, Bool.and_eq_true] at q
    exact absurd q.1.2 (by decide)
  show wpAny _ _ (if (((items.size : Int) - 1) == 0 && (-1 : Int) == 1 && items.size == items.size) = true then _ else _) _ _ s
  rw [if_neg hno, pick_rev]
  first
    | exact wpAny_bind (m := Builtin.Tuple.tupleExact _) (wpAny_newObj_type (wpAny_pure ⟨_, rfl, wpAny_pure h⟩) htake)
    | exact wpAny_bind (m := Builtin.Tuple.tupleExact _) (wpAny_newObj_type (wpAny_bind (wpAny_pure (wpAny_pure ⟨_, rfl, wpAny_pure h⟩))) htake)
    | exact wpAny_bind (wpAny_bind (m := Builtin.Tuple.tupleExact _) (wpAny_newObj_type (wpAny_pure (wpAny_pure ⟨_, rfl, wpAny_pure h⟩)) htake))
    | exact wpAny_bind (wpAny_bind (m := Builtin.Tuple.tupleExact _) (wpAny_newObj_type (wpAny_pure ⟨_, rfl, wpAny_pure h⟩) htake))
end
end HT
namespace DL
open PySem PySem.Spec PyProof.Rows L2
section
variable {X : Cx} {W : WX} {a : Expr} {fa : E} {pos : Pos}
theorem pe_revT {e : Expr} {te : TE} {k : Nat} {p1 p2 p3 pos : Pos} (he : PE X e te) : PE X (.Subscript e (.Slice none none (some (.UnaryOp .USub (.Constant (.int 1) k p1) p2)) p3) pos) (fun σ H Q => te σ H fun x H1 => ∃ a xs, x = .ref a ∧ SqT X.K H1 a xs ∧ ∀ p, H1 p = none → Q (.ref p) (upd H1 p (.tup xs.reverse))) := by
  refine ⟨fun pins s σ H Q I h => ?_⟩
  refine Subscript_ (thn (he.run pins s σ H _ I h) fun v s1 ⟨x, H1, I1, r1, q1⟩ => ?_)
  obtain ⟨a, xs, ex, hx, q⟩ := q1
  subst ex
  cases r1
  have hst : PO X (some (.UnaryOp .USub (.Constant (.int 1) k p1) p2)) (tPart (tUn (rU fun i => .int (-i)) (tC (.int 1)))) := po_some (pe_un un_neg pe_int)
  refine wpAny_Slice (thn (po_none.run pins s1 σ H1 (fun o H2 => o = none ∧ H2 = H1) I1 ⟨rfl, rfl⟩) fun vl s2 ⟨l, H2, I2, pl, el, e2⟩ => ?_)
  subst el e2
  refine thn (po_none.run pins s2 σ H2 (fun o H3 => o = none ∧ H3 = H2) I2 ⟨rfl, rfl⟩) fun vu s3 ⟨u, H3, I3, pu, eu, e3⟩ => ?_
  subst eu e3
  refine thn (hst.run pins s3 σ H3 (fun o H4 => o = some (-1) ∧ H4 = H3) I3 ⟨1, rfl, -1, rfl, rfl, rfl⟩) fun vs s4 ⟨o, H4, I4, ps, eo, e4⟩ => ?_
  subst eo e4
  have I5 : Inv X pins σ H4 { s4 with heap := s4.heap.push { cls := .type "slice", data := .fields #[vl, vu, vs] } } := I4.kept (t' := s4.toks) fun b ob q => Heap.get?_push_of_some _ q
  obtain ⟨its, r, ht, hz⟩ := I5.tuple hx
  have hlen := r.length
  show wpAny (model X.prog X.w) X.A (subscriptTail e (.Slice none none (some (.UnaryOp .USub (.Constant (.int 1) k p1) p2)) p3) (.ref a) (.ref s4.heap.objs.size)) (EP X pins σ Q) X.xe { s4 with heap := s4.heap.push { cls := .type "slice", data := .fields #[vl, vu, vs] } }
  refine tail_any (ops := [.ref a, .ref s4.heap.objs.size]) ht.typeIs (PyProof.Rows.slot_tuple_getitem.lookup) ?_ (by with_unfolding_all rfl)
  refine HT.getItem_tuple_rev ht (Heap.IsSliceOf.new _ vl vu vs) pl pu ps ?_ (by rw [List.size_toArray]; omega)
  refine ⟨.ref _, _, I5.laid (t' := s4.toks) (o := .tup xs.reverse) (fun b ob q => Heap.get?_push_of_some _ q) (Nat.le_refl _) ?_, rfl, q _ (I5.hok.fresh (Nat.le_refl _))⟩
  exact ⟨by rw [List.length_reverse]; exact hz, _, r.reverse, IsTup.new _ _⟩
theorem de_rev {k : Nat} {p1 p2 p3 : Pos} (ha : DE X W a fa) : DE X W (.Subscript a (.Slice none none (some (.UnaryOp .USub (.Constant (.int 1) k p1) p2)) p3) pos) (eUn gRevA fa) := by
  obtain ⟨ta, pa, qa⟩ := ha.ex
  refine ⟨_, PE.or (pe_revL pa) (pe_revT pa), fun Z σ G H r Q S p => ?_⟩
  have both : ∀ (dx : D) (o : Op) (e : gRevA dx = some o), (∃ ys, dx = .tup ys ∧ o = .fz (.tup ys.reverse)) ∨ gRev dx = some o := fun dx o e => by
    unfold gRevA at e
    split at e
    · cases e; exact .inl ⟨_, rfl, rfl⟩
    · exact .inr e
  have ty : (∃ o r1 ys, fa r = .ok o r1 ∧ rsv r1 o = some (.tup ys)) ∨ ¬ ∃ o r1 ys, fa r = .ok o r1 ∧ rsv r1 o = some (.tup ys) := Classical.em _
  rcases ty with ⟨o, r1, ys, e1, e2⟩ | ty
  · refine .inr (qa Z σ G H r _ S ?_)
    unfold eUn at p
    rw [e1] at p ⊢
    dsimp only at p
    rw [e2] at p
    dsimp only [gRevA] at p
    intro v G1 H1 S1 X1 R1
    have k := R1.rsv S1 e2
    cases k with | tup h1 h2 =>
    refine ⟨_, _, rfl, .inl (.inl (S1.sg _ _ h1)), fun q hq => ?_⟩
    obtain ⟨S2, X2, R2⟩ := S1.newT hq h2.reverse
    exact p _ _ _ S2 (X1.trans X2) R2
  · refine .inl (one_op (X := X) (W := W) (fa := fa) (g := gRev) (rr := fun x H1 Q => ∃ a xs, x = .ref a ∧ SqL X.K H1 a xs ∧ ∀ p, H1 p = none → Q (.ref p) (upd H1 p (.lst xs.reverse))) qa (fun Z σ G H r x dx o Q S hx e h => ?_) S ?_)
    · unfold gRev at e
      cases dx <;> first | (cases e; done) | skip
      · cases e
        obtain ⟨a, vs, rfl, h1, h2⟩ := hx
        exact ⟨a, vs, rfl, .of h1, fun p hp => h.lst S h2.reverse hp⟩
      · cases e
        cases hx with | kls h1 h2 =>
        exact ⟨_, _, rfl, S.sg.seq h1, fun p hp => h.lst S h2.reverse hp⟩
    · unfold eUn at p ⊢
      cases e1 : fa r with
      | ok o r1 =>
        simp only [e1] at p ⊢
        cases e2 : rsv r1 o with
        | none => simp only [e2] at p; exact p
        | some d =>
          simp only [e2] at p ⊢
          have e3 : gRevA d = gRev d := by
            unfold gRevA
            split
            · exact (ty ⟨o, r1, _, e1, e2⟩).elim
            · rfl
          rw [e3] at p; exact p
      | err c r1 => simp only [e1] at p ⊢; exact p
      | bad => simp only [e1] at p; exact p
end
end DL
namespace DL
open PySem PySem.Spec PyProof.Rows L2
section
variable {X : Cx} {W : WX} {a : Expr} {fa : E} {pos : Pos}
theorem de_tupR1 {p p2 pos2 : Pos} (hc : X.calm = true) (hg : Gl X "tuple") (hm : X.mg "tuple" = none) (hg2 : Gl X "range") (hm2 : X.mg "range" = none) (ha : DE X W a fa) (na : starEach [a] X.env = (false, eval a X.env) :: starEach [] X.env := by rfl)
    (nb : starEach [.Call (.Name "range" p2) [a] [] pos2] X.env = (false, eval (.Call (.Name "range" p2) [a] [] pos2) X.env) :: starEach [] X.env := by rfl) : DE X W (.Call (.Name "tuple" p) [.Call (.Name "range" p2) [a] [] pos2] [] pos) (eTupR1 fa) := by
  obtain ⟨ta, pa, qa⟩ := ha.ex
  refine ⟨_, pe_tupRg hc hg hm (prg_1 hg2 hm2 pa na) nb, fun Z σ G H r Q S hp => qa Z σ G H r _ S ?_⟩
  unfold eTupR1 at hp
  cases e1 : fa r with
  | ok o r1 =>
    simp only [e1] at hp
    cases o <;> first | (exact hp.elim) | skip
    rename_i d
    cases d <;> first | (exact hp.elim) | skip
    rename_i j
    intro v G1 H1 S1 X1 R1
    cases R1
    dsimp only at hp
    split at hp
    · rename_i hj
      refine ⟨j, rfl, ⟨by decide, by decide, hj.1.1, hj.1.2, by rw [Int.sub_zero]; exact hj.2⟩, fun q hq => ?_⟩
      have rd := rgV_R (K := X.K) (G := G1) 0 j
      rw [Int.sub_zero] at rd
      obtain ⟨S2, X2, R2⟩ := S1.newT hq rd
      exact hp _ _ _ S2 (X1.trans X2) R2
    · exact hp.elim
  | err c r1 => simp only [e1] at hp; exact hp
  | bad => simp only [e1] at hp; exact hp.elim
end
end DL
namespace DL
open PySem PySem.Spec PyProof.Rows L2
section
variable {X : Cx} {W : WX} {pos : Pos}
theorem de_call0 {k : Nat} {fA : Addr} {fd : FuncData} {F : FD} {x : Str} {p : Pos} (FO : FnOk X.prog X.w X.K X.mg X.base (L2.CX X.prog X.w) k fA fd [] (spD X.mg X.K [] F)) (hr : Room k X.A) (tk : Takes X W) (hg : Gl X x) (hm : X.mg x = some (.ref fA))
    (hk : PySem.W.keepIn X.K (.ref fA) = true) (hb : Binds X.K fd [] []) (hdb : (x == ("__debug__" : Str)) = false := by decide) : DE X W (.Call (.Name x p) [] [] pos) (eCall [] F aNil) := by
  have pc : PE X (.Call (.Name x p) [] [] pos) (tCallSD (spD X.mg X.K [] F) [] (WE W) tNil) := by
    refine ⟨fun pins s σ H Q I h => ?_⟩
    refine wpAny_Call_Name_kw (ld_glob I hg hm ?_ hdb)
    exact PySem.W.callWith_K0 I.kIn hk (run_fnSD (us := []) FO hr hb .nil (passAt tk σ) I .nil h)
  refine ⟨_, pc, fun Z σ G H r Q S hp => ?_⟩
  refine ⟨G, [], S.sg, .nil, .nil, ?_⟩
  unfold eCall aNil at hp
  have hp : EPost X W Z σ G H r Q (match F [] with
      | .ok o ios => .ok o r
      | .err c ios => .err c r
      | .bad => .bad) := by
    have e1 : argsOf [] [] r = some ([], r) := rfl
    have e2 : iosOf [] [] = [] := rfl
    simp only [e1, e2] at hp
    rw [if_pos ⟨.nil, fun i hi => by cases hi⟩] at hp
    unfold putIos at hp
    exact hp
  have hia : ∀ {G' H' : Hp}, CE [] G H G' H' → RS X.K Z G' H' r σ ∧ EX σ G H r G' H' r := fun c => by
    have := S.called (is := []) (ds := []) (ia := []) .nil c (fun a ha => by cases ha) .nil
    unfold putIos at this
    exact this
  cases e3 : F [] with
  | ok o ios =>
    rw [e3] at hp
    intro v G' H' c ir fr
    obtain ⟨S3, X3⟩ := hia c
    refine hp v G' H' S3 X3 ?_
    cases o with
    | fz d => exact fr
    | br i => exact fr.elim
    | tm d =>
      obtain ⟨a, ea, g0, h1, rm⟩ := fr
      refine ⟨a, ea, g0, ⟨S.dm a h1, h1⟩, fun k => ?_, rm⟩
      obtain ⟨i, k1, k2⟩ := X3.o a k
      obtain ⟨b, d', k3⟩ := isOw_some k1
      obtain ⟨a', w1, _, w3, _⟩ := S.ow i b d' k3
      rw [k2] at w1; cases w1
      obtain ⟨u, hu⟩ := w3.there
      rw [h1] at hu; cases hu
  | err c ios =>
    rw [e3] at hp
    intro C G' H' ce ir hC
    obtain ⟨S3, X3⟩ := hia ce
    exact hp C G' H' S3 X3 hC
  | bad => rw [e3] at hp; exact hp.elim
end
end DL
end

section
set_option autoImplicit false
set_option linter.all false
/-! DLK: the combinators step by step. A step looks at one part's outcome alone. -/
namespace DL.K
open DL PySem
def bin1 (g : D → D → Option Op) (b : E) (x_ : EOut) : EOut := match x_ with
  | .ok o r1 => (match b r1 with | .ok p r2 => (match rsv r2 o, rsv r2 p with | some x, some y => (match g x y with | some z => .ok z r2 | none => .bad) | _, _ => .bad) | .err c r2 => .err c r2 | .bad => .bad)
  | .err c r1 => .err c r1
  | .bad => .bad
theorem bin1_congr (g : D → D → Option Op) (b : E) {x_ y_ : EOut} (h_ : x_ = y_) : bin1 g b x_ = bin1 g b y_ := by rw [h_]
theorem eBin_K (g : D → D → Option Op) (a b : E) (r : Ev) : eBin g a b r = bin1 g b (a r) := id rfl
def bin2 (g : D → D → Option Op) (o : Op) (x_ : EOut) : EOut := match x_ with
  | .ok p r2 => (match rsv r2 o, rsv r2 p with | some x, some y => (match g x y with | some z => .ok z r2 | none => .bad) | _, _ => .bad)
  | .err c r2 => .err c r2
  | .bad => .bad
theorem bin2_congr (g : D → D → Option Op) (o : Op) {x_ y_ : EOut} (h_ : x_ = y_) : bin2 g o x_ = bin2 g o y_ := by rw [h_]
theorem bin1_ok (g : D → D → Option Op) (b : E) (o : Op) (r : Ev) : bin1 g b (.ok o r) = bin2 g o (b r) := id rfl
theorem bin1_err (g : D → D → Option Op) (b : E) (c : Str) (r : Ev) : bin1 g b (.err c r) = .err c r := id rfl
def opt (r : Ev) (x : Option Op) : EOut := match x with
  | some z => .ok z r
  | none => .bad
theorem opt_congr (r : Ev) {x y : Option Op} (h : x = y) : opt r x = opt r y := by rw [h]
theorem opt_some (r : Ev) (z : Op) : opt r (some z) = .ok z r := id rfl
def bin3 (g : D → D → Option Op) (r : Ev) (x y : Option D) : EOut := match x, y with
  | some x, some y => opt r (g x y)
  | _, _ => .bad
theorem bin3_congr (g : D → D → Option Op) (r : Ev) {x y x2 y2 : Option D} (h : x = x2) (h2 : y = y2) : bin3 g r x y = bin3 g r x2 y2 := by rw [h, h2]
theorem bin2_ok (g : D → D → Option Op) (o p : Op) (r : Ev) : bin2 g o (.ok p r) = bin3 g r (rsv r o) (rsv r p) := by
  unfold bin2 bin3 opt; rfl
theorem bin2_err (g : D → D → Option Op) (o : Op) (c : Str) (r : Ev) : bin2 g o (.err c r) = .err c r := id rfl
theorem bin3_some (g : D → D → Option Op) (r : Ev) (x y : D) : bin3 g r (some x) (some y) = opt r (g x y) := id rfl
def un1 (g : D → Option Op) (x_ : EOut) : EOut := match x_ with
  | .ok o r1 => (match rsv r1 o with | some d => opt r1 (g d) | none => .bad)
  | .err c r1 => .err c r1
  | .bad => .bad
theorem un1_congr (g : D → Option Op) {x_ y_ : EOut} (h_ : x_ = y_) : un1 g x_ = un1 g y_ := by rw [h_]
theorem eUn_K (g : D → Option Op) (a : E) (r : Ev) : eUn g a r = un1 g (a r) := by
  unfold eUn un1 opt; rfl
def un2 (g : D → Option Op) (r : Ev) (x : Option D) : EOut := match x with
  | some d => opt r (g d)
  | none => .bad
theorem un2_congr (g : D → Option Op) (r : Ev) {x y : Option D} (h : x = y) : un2 g r x = un2 g r y := by rw [h]
theorem un1_ok (g : D → Option Op) (o : Op) (r : Ev) : un1 g (.ok o r) = un2 g r (rsv r o) := id rfl
theorem un1_err (g : D → Option Op) (c : Str) (r : Ev) : un1 g (.err c r) = .err c r := id rfl
theorem un2_some (g : D → Option Op) (r : Ev) (d : D) : un2 g r (some d) = opt r (g d) := id rfl
def cons1 (b : A) (x_ : EOut) : AOut := match x_ with
  | .ok o r1 => (match b r1 with | .ok os r2 => .ok (o :: os) r2 | .err c r2 => .err c r2 | .bad => .bad)
  | .err c r1 => .err c r1
  | .bad => .bad
theorem cons1_congr (b : A) {x_ y_ : EOut} (h_ : x_ = y_) : cons1 b x_ = cons1 b y_ := by rw [h_]
def cons2 (o : Op) (x_ : AOut) : AOut := match x_ with
  | .ok os r2 => .ok (o :: os) r2
  | .err c r2 => .err c r2
  | .bad => .bad
theorem cons2_congr (o : Op) {x_ y_ : AOut} (h_ : x_ = y_) : cons2 o x_ = cons2 o y_ := by rw [h_]
theorem aCons_K (a : E) (b : A) (r : Ev) : aCons a b r = cons1 b (a r) := id rfl
theorem cons1_ok (b : A) (o : Op) (r : Ev) : cons1 b (.ok o r) = cons2 o (b r) := id rfl
theorem cons1_err (b : A) (c : Str) (r : Ev) : cons1 b (.err c r) = .err c r := id rfl
theorem cons2_ok (o : Op) (os : List Op) (r : Ev) : cons2 o (.ok os r) = .ok (o :: os) r := id rfl
theorem cons2_err (o : Op) (c : Str) (r : Ev) : cons2 o (.err c r) = .err c r := id rfl
theorem aNil_K (r : Ev) : aNil r = .ok [] r := id rfl
def pure1 (g : List D → Option Op) (x_ : AOut) : EOut := match x_ with
  | .ok os r1 => (match rsvs r1 os with | some ds => opt r1 (g ds) | none => .bad)
  | .err c r1 => .err c r1
  | .bad => .bad
theorem pure1_congr (g : List D → Option Op) {x_ y_ : AOut} (h_ : x_ = y_) : pure1 g x_ = pure1 g y_ := by rw [h_]
def pure2 (g : List D → Option Op) (r : Ev) (x : Option (List D)) : EOut := match x with
  | some ds => opt r (g ds)
  | none => .bad
theorem pure2_congr (g : List D → Option Op) (r : Ev) {x y : Option (List D)} (h : x = y) : pure2 g r x = pure2 g r y := by rw [h]
theorem ePure_K (g : List D → Option Op) (a : A) (r : Ev) : ePure g a r = pure1 g (a r) := by
  unfold ePure pure1 opt; rfl
theorem pure1_ok (g : List D → Option Op) (os : List Op) (r : Ev) : pure1 g (.ok os r) = pure2 g r (rsvs r os) := id rfl
theorem pure1_err (g : List D → Option Op) (c : Str) (r : Ev) : pure1 g (.err c r) = .err c r := id rfl
theorem pure2_some (g : List D → Option Op) (r : Ev) (ds : List D) : pure2 g r (some ds) = opt r (g ds) := id rfl
def tup1  (x_ : AOut) : EOut := match x_ with
  | .ok os r1 => (match fzos os r1 with | some (ds, r2) => if ds.length ≤ SZ then .ok (.fz (.tup ds)) r2 else .bad | none => .bad)
  | .err c r1 => .err c r1
  | .bad => .bad
theorem tup1_congr  {x_ y_ : AOut} (h_ : x_ = y_) : tup1  x_ = tup1  y_ := by rw [h_]
def tup2 (x : Option (List D × Ev)) : EOut := match x with
  | some (ds, r2) => if ds.length ≤ SZ then .ok (.fz (.tup ds)) r2 else .bad
  | none => .bad
theorem eTup_K (a : A) (r : Ev) : eTup a r = tup1 (a r) := id rfl
theorem tup1_ok (os : List Op) (r : Ev) : tup1 (.ok os r) = tup2 (fzos os r) := id rfl
theorem tup1_err (c : Str) (r : Ev) : tup1 (.err c r) = .err c r := id rfl
theorem tup2_some (ds : List D) (r : Ev) : tup2 (some (ds, r)) = if ds.length ≤ SZ then .ok (.fz (.tup ds)) r else .bad := id rfl
def lst1  (x_ : AOut) : EOut := match x_ with
  | .ok os r1 => (match fzos os r1 with | some (ds, r2) => if ds.length ≤ SZ then .ok (.tm (.lst ds)) r2 else .bad | none => .bad)
  | .err c r1 => .err c r1
  | .bad => .bad
theorem lst1_congr  {x_ y_ : AOut} (h_ : x_ = y_) : lst1  x_ = lst1  y_ := by rw [h_]
def lst2 (x : Option (List D × Ev)) : EOut := match x with
  | some (ds, r2) => if ds.length ≤ SZ then .ok (.tm (.lst ds)) r2 else .bad
  | none => .bad
theorem eLst_K (a : A) (r : Ev) : eLst a r = lst1 (a r) := id rfl
theorem lst1_ok (os : List Op) (r : Ev) : lst1 (.ok os r) = lst2 (fzos os r) := id rfl
theorem lst1_err (c : Str) (r : Ev) : lst1 (.err c r) = .err c r := id rfl
theorem lst2_some (ds : List D) (r : Ev) : lst2 (some (ds, r)) = if ds.length ≤ SZ then .ok (.tm (.lst ds)) r else .bad := id rfl
def name1 (i : Nat) (r : Ev) (x : Option Sl) : EOut := match x with
  | some (.va d) => .ok (.fz d) r
  | some (.ow _ _) => .ok (.br i) r
  | _ => .bad
theorem name1_congr (i : Nat) (r : Ev) {x y : Option Sl} (h : x = y) : name1 i r x = name1 i r y := by rw [h]
theorem eName_K (i : Nat) (r : Ev) : eName i r = name1 i r r[i]? := id rfl
theorem name1_va (i : Nat) (r : Ev) (d : D) : name1 i r (some (.va d)) = .ok (.fz d) r := id rfl
theorem name1_ow (i : Nat) (r : Ev) (b : Bool) (d : D) : name1 i r (some (.ow b d)) = .ok (.br i) r := id rfl
theorem eC_K (d : D) (r : Ev) : eC d r = .ok (.fz d) r := id rfl
theorem rsv_fz (r : Ev) (d : D) : rsv r (.fz d) = some d := id rfl
theorem rsv_tm (r : Ev) (d : D) : rsv r (.tm d) = some d := id rfl
def rsv1 (x : Option Sl) : Option D := match x with
  | some (.ow _ d) => some d
  | some (.va d) => some d
  | _ => none
theorem rsv_br (r : Ev) (i : Nat) : rsv r (.br i) = rsv1 r[i]? := id rfl
theorem rsv1_ow (b : Bool) (d : D) : rsv1 (some (.ow b d)) = some d := id rfl
theorem rsv1_va (d : D) : rsv1 (some (.va d)) = some d := id rfl
theorem rsvs_nil (r : Ev) : rsvs r [] = some [] := id rfl
def rsvs1 (r : Ev) (os : List Op) (x : Option D) : Option (List D) := match x with
  | some d => match rsvs r os with
    | some ds => some (d :: ds)
    | none => none
  | none => none
def rsvs2 (d : D) (x : Option (List D)) : Option (List D) := match x with
  | some ds => some (d :: ds)
  | none => none
theorem rsvs_cons (r : Ev) (o : Op) (os : List Op) : rsvs r (o :: os) = rsvs1 r os (rsv r o) := id rfl
theorem rsvs1_some (r : Ev) (os : List Op) (d : D) : rsvs1 r os (some d) = rsvs2 d (rsvs r os) := id rfl
theorem rsvs2_some (d : D) (ds : List D) : rsvs2 d (some ds) = some (d :: ds) := id rfl
theorem fzo_fz (r : Ev) (d : D) : fzo r (.fz d) = some (d, r) := id rfl
theorem fzo_tm (r : Ev) (d : D) : fzo r (.tm d) = some (d, r) := id rfl
def fzo1 (i : Nat) (r : Ev) (x : Option Sl) : Option (D × Ev) := match x with
  | some (.ow false d) => some (d, r.set i (.va d))
  | some (.va d) => some (d, r)
  | _ => none
theorem fzo_br (r : Ev) (i : Nat) : fzo r (.br i) = fzo1 i r r[i]? := id rfl
theorem fzo1_ow (i : Nat) (r : Ev) (d : D) : fzo1 i r (some (.ow false d)) = some (d, r.set i (.va d)) := id rfl
theorem fzo1_va (i : Nat) (r : Ev) (d : D) : fzo1 i r (some (.va d)) = some (d, r) := id rfl
theorem fzos_nil (r : Ev) : fzos [] r = some ([], r) := id rfl
def fzos1 (os : List Op) (x : Option (D × Ev)) : Option (List D × Ev) := match x with
  | some (d, r1) => match fzos os r1 with
    | some (ds, r2) => some (d :: ds, r2)
    | none => none
  | none => none
def fzos2 (d : D) (x : Option (List D × Ev)) : Option (List D × Ev) := match x with
  | some (ds, r2) => some (d :: ds, r2)
  | none => none
theorem fzos_cons (o : Op) (os : List Op) (r : Ev) : fzos (o :: os) r = fzos1 os (fzo r o) := id rfl
theorem fzos1_some (os : List Op) (d : D) (r : Ev) : fzos1 os (some (d, r)) = fzos2 d (fzos os r) := id rfl
theorem fzos2_some (d : D) (ds : List D) (r : Ev) : fzos2 d (some (ds, r)) = some (d :: ds, r) := id rfl
def tru1  (x_ : EOut) : TOut := match x_ with
  | .ok o r1 => (match rsv r1 o with | some d => (match dtr d with | some b => .ok b r1 | none => .bad) | none => .bad)
  | .err c r1 => .err c r1
  | .bad => .bad
theorem tru1_congr  {x_ y_ : EOut} (h_ : x_ = y_) : tru1  x_ = tru1  y_ := by rw [h_]
def tru2 (r : Ev) (x : Option D) : TOut := match x with
  | some d => match dtr d with
    | some b => .ok b r
    | none => .bad
  | none => .bad
def tru3 (r : Ev) (x : Option Bool) : TOut := match x with
  | some b => .ok b r
  | none => .bad
theorem tTru_K (a : E) (r : Ev) : tTru a r = tru1 (a r) := id rfl
theorem tru1_ok (o : Op) (r : Ev) : tru1 (.ok o r) = tru2 r (rsv r o) := id rfl
theorem tru1_err (c : Str) (r : Ev) : tru1 (.err c r) = .err c r := id rfl
theorem tru2_some (r : Ev) (d : D) : tru2 r (some d) = tru3 r (dtr d) := id rfl
theorem tru3_some (r : Ev) (b : Bool) : tru3 r (some b) = .ok b r := id rfl
def tbl1  (x_ : EOut) : TOut := match x_ with
  | .ok (.fz (.bl b)) r1 => .ok b r1
  | .ok _ _ => .bad
  | .err c r1 => .err c r1
  | .bad => .bad
theorem tbl1_congr  {x_ y_ : EOut} (h_ : x_ = y_) : tbl1  x_ = tbl1  y_ := by rw [h_]
theorem tBl_K (a : E) (r : Ev) : tBl a r = tbl1 (a r) := id rfl
theorem tbl1_ok (b : Bool) (r : Ev) : tbl1 (.ok (.fz (.bl b)) r) = .ok b r := id rfl
theorem tbl1_err (c : Str) (r : Ev) : tbl1 (.err c r) = .err c r := id rfl
def and1 (b : T) (x_ : TOut) : TOut := match x_ with
  | .ok true r1 => b r1
  | x => x
theorem and1_congr (b : T) {x_ y_ : TOut} (h_ : x_ = y_) : and1 b x_ = and1 b y_ := by rw [h_]
theorem tAnd_K (a b : T) (r : Ev) : tAnd a b r = and1 b (a r) := id rfl
theorem and1_t (b : T) (r : Ev) : and1 b (.ok true r) = b r := id rfl
theorem and1_f (b : T) (r : Ev) : and1 b (.ok false r) = .ok false r := id rfl
theorem and1_err (b : T) (c : Str) (r : Ev) : and1 b (.err c r) = .err c r := id rfl
def or1 (b : T) (x_ : TOut) : TOut := match x_ with
  | .ok false r1 => b r1
  | x => x
theorem or1_congr (b : T) {x_ y_ : TOut} (h_ : x_ = y_) : or1 b x_ = or1 b y_ := by rw [h_]
theorem tOr_K (a b : T) (r : Ev) : tOr a b r = or1 b (a r) := id rfl
theorem or1_t (b : T) (r : Ev) : or1 b (.ok true r) = .ok true r := id rfl
theorem or1_f (b : T) (r : Ev) : or1 b (.ok false r) = b r := id rfl
theorem or1_err (b : T) (c : Str) (r : Ev) : or1 b (.err c r) = .err c r := id rfl
def not1  (x_ : TOut) : TOut := match x_ with
  | .ok b r1 => .ok (!b) r1
  | x => x
theorem not1_congr  {x_ y_ : TOut} (h_ : x_ = y_) : not1  x_ = not1  y_ := by rw [h_]
theorem tNot_K (a : T) (r : Ev) : tNot a r = not1 (a r) := id rfl
theorem not1_ok (b : Bool) (r : Ev) : not1 (.ok b r) = .ok (!b) r := id rfl
theorem not1_err (c : Str) (r : Ev) : not1 (.err c r) = .err c r := id rfl
theorem tYes_K (r : Ev) : tYes r = .ok true r := id rfl
def eand1 (b : E) (x_ : EOut) : EOut := match x_ with
  | .ok (.fz (.bl true)) r1 => b r1
  | .ok (.fz (.bl false)) r1 => .ok (.fz (.bl false)) r1
  | .ok _ _ => .bad
  | .err c r1 => .err c r1
  | .bad => .bad
theorem eand1_congr (b : E) {x_ y_ : EOut} (h_ : x_ = y_) : eand1 b x_ = eand1 b y_ := by rw [h_]
theorem eAnd_K (a b : E) (r : Ev) : eAnd a b r = eand1 b (a r) := id rfl
theorem eand1_t (b : E) (r : Ev) : eand1 b (.ok (.fz (.bl true)) r) = b r := id rfl
theorem eand1_f (b : E) (r : Ev) : eand1 b (.ok (.fz (.bl false)) r) = .ok (.fz (.bl false)) r := id rfl
theorem eand1_err (b : E) (c : Str) (r : Ev) : eand1 b (.err c r) = .err c r := id rfl
def eor1 (b : E) (x_ : EOut) : EOut := match x_ with
  | .ok (.fz (.bl true)) r1 => .ok (.fz (.bl true)) r1
  | .ok (.fz (.bl false)) r1 => b r1
  | .ok _ _ => .bad
  | .err c r1 => .err c r1
  | .bad => .bad
theorem eor1_congr (b : E) {x_ y_ : EOut} (h_ : x_ = y_) : eor1 b x_ = eor1 b y_ := by rw [h_]
theorem eOr_K (a b : E) (r : Ev) : eOr a b r = eor1 b (a r) := id rfl
theorem eor1_t (b : E) (r : Ev) : eor1 b (.ok (.fz (.bl true)) r) = .ok (.fz (.bl true)) r := id rfl
theorem eor1_f (b : E) (r : Ev) : eor1 b (.ok (.fz (.bl false)) r) = b r := id rfl
theorem eor1_err (b : E) (c : Str) (r : Ev) : eor1 b (.err c r) = .err c r := id rfl
def enot1  (x_ : TOut) : EOut := match x_ with
  | .ok b r1 => .ok (.fz (.bl (!b))) r1
  | .err c r1 => .err c r1
  | .bad => .bad
theorem enot1_congr  {x_ y_ : TOut} (h_ : x_ = y_) : enot1  x_ = enot1  y_ := by rw [h_]
theorem eNot_K (a : T) (r : Ev) : eNot a r = enot1 (a r) := id rfl
theorem eNotE_K (a : E) (r : Ev) : eNotE a r = enot1 (tTru a r) := id rfl
theorem enot1_ok (b : Bool) (r : Ev) : enot1 (.ok b r) = .ok (.fz (.bl (!b))) r := id rfl
theorem enot1_err (c : Str) (r : Ev) : enot1 (.err c r) = .err c r := id rfl
def eif1 (a : E) (b : E) (x_ : TOut) : EOut := match x_ with
  | .ok true r1 => a r1
  | .ok false r1 => b r1
  | .err c r1 => .err c r1
  | .bad => .bad
theorem eif1_congr (a : E) (b : E) {x_ y_ : TOut} (h_ : x_ = y_) : eif1 a b x_ = eif1 a b y_ := by rw [h_]
theorem eIf_K (c : T) (a b : E) (r : Ev) : eIf c a b r = eif1 a b (c r) := id rfl
theorem eif1_t (a b : E) (r : Ev) : eif1 a b (.ok true r) = a r := id rfl
theorem eif1_f (a b : E) (r : Ev) : eif1 a b (.ok false r) = b r := id rfl
theorem eif1_err (a b : E) (c : Str) (r : Ev) : eif1 a b (.err c r) = .err c r := id rfl
def ch1 (k : Ch) (x_ : EOut) : EOut := match x_ with
  | .ok o r1 => k o r1
  | .err c r1 => .err c r1
  | .bad => .bad
theorem ch1_congr (k : Ch) {x_ y_ : EOut} (h_ : x_ = y_) : ch1 k x_ = ch1 k y_ := by rw [h_]
theorem eCh_K (a : E) (k : Ch) (r : Ev) : eCh a k r = ch1 k (a r) := id rfl
theorem ch1_ok (k : Ch) (o : Op) (r : Ev) : ch1 k (.ok o r) = k o r := id rfl
theorem ch1_err (k : Ch) (c : Str) (r : Ev) : ch1 k (.err c r) = .err c r := id rfl
theorem chLast_K (g : D → D → Option Op) (b : E) (o : Op) (r : Ev) : chLast g b o r = bin2 g o (b r) := id rfl
def link1 (g : D → D → Option Op) (k : Ch) (o : Op) (x_ : EOut) : EOut := match x_ with
  | .ok p r1 => (match rsv r1 o, rsv r1 p with | some x, some y => (match g x y with | some (.fz (.bl true)) => k p r1 | some (.fz (.bl false)) => .ok (.fz (.bl false)) r1 | _ => .bad) | _, _ => .bad)
  | .err c r1 => .err c r1
  | .bad => .bad
theorem link1_congr (g : D → D → Option Op) (k : Ch) (o : Op) {x_ y_ : EOut} (h_ : x_ = y_) : link1 g k o x_ = link1 g k o y_ := by rw [h_]
theorem chLink_K (g : D → D → Option Op) (b : E) (k : Ch) (o : Op) (r : Ev) : chLink g b k o r = link1 g k o (b r) := id rfl
def link2 (g : D → D → Option Op) (k : Ch) (p : Op) (r : Ev) (x y : Option D) : EOut := match x, y with
  | some x, some y => (match g x y with
    | some (.fz (.bl true)) => k p r
    | some (.fz (.bl false)) => .ok (.fz (.bl false)) r
    | _ => .bad)
  | _, _ => .bad
theorem link2_congr (g : D → D → Option Op) (k : Ch) (p : Op) (r : Ev) {x y x2 y2 : Option D} (h : x = x2) (h2 : y = y2) : link2 g k p r x y = link2 g k p r x2 y2 := by rw [h, h2]
def link3 (k : Ch) (p : Op) (r : Ev) (x : Option Op) : EOut := match x with
  | some (.fz (.bl true)) => k p r
  | some (.fz (.bl false)) => .ok (.fz (.bl false)) r
  | _ => .bad
theorem link3_congr (k : Ch) (p : Op) (r : Ev) {x y : Option Op} (h : x = y) : link3 k p r x = link3 k p r y := by rw [h]
theorem link1_ok (g : D → D → Option Op) (k : Ch) (o p : Op) (r : Ev) : link1 g k o (.ok p r) = link2 g k p r (rsv r o) (rsv r p) := id rfl
theorem link2_some (g : D → D → Option Op) (k : Ch) (p : Op) (r : Ev) (x y : D) : link2 g k p r (some x) (some y) = link3 k p r (g x y) := id rfl
theorem link3_t (k : Ch) (p : Op) (r : Ev) : link3 k p r (some (.fz (.bl true))) = k p r := id rfl
theorem link3_f (k : Ch) (p : Op) (r : Ev) : link3 k p r (some (.fz (.bl false))) = .ok (.fz (.bl false)) r := id rfl
def call1 (m : List Bool) (F : FD) (x_ : AOut) : EOut := match x_ with
  | .ok os r1 => (match argsOf m os r1 with | some (ds, r2) => (if (iosOf m os).Nodup ∧ (∀ i ∈ iosOf m os, isOw r2[i]? = true) then (match F ds with | .ok o ios => .ok o (putIos (iosOf m os) ios r2) | .err c ios => .err c (putIos (iosOf m os) ios r2) | .bad => .bad) else .bad) | none => .bad)
  | .err c r1 => .err c r1
  | .bad => .bad
theorem call1_congr (m : List Bool) (F : FD) {x_ y_ : AOut} (h_ : x_ = y_) : call1 m F x_ = call1 m F y_ := by rw [h_]
def call3 (is : List Nat) (r2 : Ev) (x : FOut) : EOut := match x with
  | .ok o ios => .ok o (putIos is ios r2)
  | .err c ios => .err c (putIos is ios r2)
  | .bad => .bad
theorem call3_congr (is : List Nat) (r2 : Ev) {x y : FOut} (h : x = y) : call3 is r2 x = call3 is r2 y := by rw [h]
def call2 (F : FD) (is : List Nat) (x : Option (List D × Ev)) : EOut := match x with
  | some (ds, r2) => if is.Nodup ∧ (∀ i ∈ is, isOw r2[i]? = true) then call3 is r2 (F ds) else .bad
  | none => .bad
theorem call2_congr (F : FD) {is js : List Nat} {x y : Option (List D × Ev)} (h0 : is = js) (h : x = y) : call2 F is x = call2 F js y := by rw [h, h0]
theorem eCall_K (m : List Bool) (F : FD) (a : A) (r : Ev) : eCall m F a r = call1 m F (a r) := id rfl
theorem call1_ok (m : List Bool) (F : FD) (os : List Op) (r : Ev) : call1 m F (.ok os r) = call2 F (iosOf m os) (argsOf m os r) := by
  unfold call1 call2 call3; rfl
theorem call1_err (m : List Bool) (F : FD) (c : Str) (r : Ev) : call1 m F (.err c r) = .err c r := id rfl
theorem call2_nil (F : FD) (ds : List D) (r : Ev) : call2 F [] (some (ds, r)) = call3 [] r (F ds) := by
  unfold call2; simp
theorem call2_one (F : FD) (i : Nat) (ds : List D) (r : Ev) : call2 F [i] (some (ds, r)) = if isOw r[i]? = true then call3 [i] r (F ds) else .bad := by
  unfold call2; simp
theorem call3_ok0 (r : Ev) (o : Op) (ios : List D) : call3 [] r (.ok o ios) = .ok o r := by
  unfold call3 putIos; simp
theorem call3_err0 (r : Ev) (c : Str) (ios : List D) : call3 [] r (.err c ios) = .err c r := by
  unfold call3 putIos; simp
def put1 (r : Ev) (i : Nat) (d : D) (x : Option Sl) : Ev := match x with
  | some (.ow b _) => r.set i (.ow b d)
  | _ => r
theorem call3_ok1 (r : Ev) (i : Nat) (o : Op) (d : D) : call3 [i] r (.ok o [d]) = .ok o (put1 r i d r[i]?) := by
  unfold call3 putIos put1 putIos; rfl
theorem call3_err1 (r : Ev) (i : Nat) (c : Str) (d : D) : call3 [i] r (.err c [d]) = .err c (put1 r i d r[i]?) := by
  unfold call3 putIos put1 putIos; rfl
theorem put1_ow (r : Ev) (i : Nat) (d e : D) (b : Bool) : put1 r i d (some (.ow b e)) = r.set i (.ow b d) := id rfl
theorem isOw_ow (b : Bool) (d : D) : isOw (some (.ow b d)) = true := id rfl
theorem iosOf_nil (m : List Bool) : iosOf m [] = [] := by cases m with
  | nil => rfl
  | cons b _ => cases b <;> rfl
theorem iosOf_f (m : List Bool) (o : Op) (os : List Op) : iosOf (false :: m) (o :: os) = iosOf m os := id rfl
theorem iosOf_t (m : List Bool) (i : Nat) (os : List Op) : iosOf (true :: m) (.br i :: os) = i :: iosOf m os := id rfl
theorem argsOf_nil (r : Ev) : argsOf [] [] r = some ([], r) := id rfl
def args1 (m : List Bool) (os : List Op) (x : Option (D × Ev)) : Option (List D × Ev) := match x with
  | some (d, r1) => (match argsOf m os r1 with
    | some (ds, r2) => some (d :: ds, r2)
    | none => none)
  | none => none
def args2 (d : D) (x : Option (List D × Ev)) : Option (List D × Ev) := match x with
  | some (ds, r2) => some (d :: ds, r2)
  | none => none
def args3 (m : List Bool) (os : List Op) (r : Ev) (x : Option Sl) : Option (List D × Ev) := match x with
  | some (.ow _ d) => args2 d (argsOf m os r)
  | _ => none
theorem argsOf_f (m : List Bool) (o : Op) (os : List Op) (r : Ev) : argsOf (false :: m) (o :: os) r = args1 m os (fzo r o) := id rfl
theorem args1_some (m : List Bool) (os : List Op) (d : D) (r : Ev) : args1 m os (some (d, r)) = args2 d (argsOf m os r) := id rfl
theorem args2_some (d : D) (ds : List D) (r : Ev) : args2 d (some (ds, r)) = some (d :: ds, r) := id rfl
theorem argsOf_t (m : List Bool) (i : Nat) (os : List Op) (r : Ev) : argsOf (true :: m) (.br i :: os) r = args3 m os r r[i]? := by
  unfold args3 args2; rfl
theorem args3_ow (m : List Bool) (os : List Op) (r : Ev) (b : Bool) (d : D) : args3 m os r (some (.ow b d)) = args2 d (argsOf m os r) := id rfl
def seq1 (b : S) (x_ : SOut) : SOut := match x_ with
  | .nx r1 => b r1
  | x => x
theorem seq1_congr (b : S) {x_ y_ : SOut} (h_ : x_ = y_) : seq1 b x_ = seq1 b y_ := by rw [h_]
theorem sSeq_K (a b : S) (r : Ev) : sSeq a b r = seq1 b (a r) := id rfl
theorem seq1_nx (b : S) (r : Ev) : seq1 b (.nx r) = b r := id rfl
theorem seq1_ret (b : S) (o : Op) (r : Ev) : seq1 b (.ret o r) = .ret o r := id rfl
theorem seq1_brk (b : S) (r : Ev) : seq1 b (.brk r) = .brk r := id rfl
theorem seq1_cnt (b : S) (r : Ev) : seq1 b (.cnt r) = .cnt r := id rfl
theorem seq1_err (b : S) (c : Str) (r : Ev) : seq1 b (.err c r) = .err c r := id rfl
theorem sNext_K (r : Ev) : sNext r = .nx r := id rfl
theorem sBreak_K (r : Ev) : sBreak r = .brk r := id rfl
theorem sCont_K (r : Ev) : sCont r = .cnt r := id rfl
theorem sRetN_K (r : Ev) : sRetN r = .ret (.fz .non) r := id rfl
theorem sRaise_K (c : Str) (r : Ev) : sRaise c r = .err c r := id rfl
def expr1  (x_ : EOut) : SOut := match x_ with
  | .ok _ r1 => .nx r1
  | .err c r1 => .err c r1
  | .bad => .bad
theorem expr1_congr  {x_ y_ : EOut} (h_ : x_ = y_) : expr1  x_ = expr1  y_ := by rw [h_]
theorem sExpr_K (a : E) (r : Ev) : sExpr a r = expr1 (a r) := id rfl
theorem expr1_ok (o : Op) (r : Ev) : expr1 (.ok o r) = .nx r := id rfl
theorem expr1_err (c : Str) (r : Ev) : expr1 (.err c r) = .err c r := id rfl
def set1 (i : Nat) (x_ : EOut) : SOut := match x_ with
  | .ok o r1 => (match keep i o r1 with | some r2 => .nx r2 | none => .bad)
  | .err c r1 => .err c r1
  | .bad => .bad
theorem set1_congr (i : Nat) {x_ y_ : EOut} (h_ : x_ = y_) : set1 i x_ = set1 i y_ := by rw [h_]
def nxo (x : Option Ev) : SOut := match x with
  | some r2 => .nx r2
  | none => .bad
theorem sSet_K (i : Nat) (a : E) (r : Ev) : sSet i a r = set1 i (a r) := id rfl
theorem set1_fz (i : Nat) (d : D) (r : Ev) : set1 i (.ok (.fz d) r) = .nx (r.set i (.va d)) := id rfl
theorem set1_tm (i : Nat) (d : D) (r : Ev) : set1 i (.ok (.tm d) r) = .nx (r.set i (.ow false d)) := id rfl
def set2 (i : Nat) (x : Option (D × Ev)) : SOut := match x with
  | some (d, r1) => .nx (r1.set i (.va d))
  | none => .bad
theorem set1_br (i j : Nat) (r : Ev) : set1 i (.ok (.br j) r) = set2 i (fzo r (.br j)) := by
  show (match (match fzo r (.br j) with | some (d, r1) => some (r1.set i (.va d)) | none => none) with | some r2 => SOut.nx r2 | none => .bad) = _
  unfold set2
  cases fzo r (.br j) <;> rfl
theorem set2_some (i : Nat) (d : D) (r : Ev) : set2 i (some (d, r)) = .nx (r.set i (.va d)) := id rfl
theorem set1_err (i : Nat) (c : Str) (r : Ev) : set1 i (.err c r) = .err c r := id rfl
def unp1 (t : Tg) (x_ : EOut) : SOut := match x_ with
  | .ok o r1 => (match fzo r1 o with | some (d, r2) => (match t.put d r2 with | some r3 => .nx r3 | none => .bad) | none => .bad)
  | .err c r1 => .err c r1
  | .bad => .bad
theorem unp1_congr (t : Tg) {x_ y_ : EOut} (h_ : x_ = y_) : unp1 t x_ = unp1 t y_ := by rw [h_]
def unp2 (t : Tg) (x : Option (D × Ev)) : SOut := match x with
  | some (d, r2) => nxo (t.put d r2)
  | none => .bad
theorem sUnp_K (t : Tg) (a : E) (r : Ev) : sUnp t a r = unp1 t (a r) := id rfl
theorem unp1_ok (t : Tg) (o : Op) (r : Ev) : unp1 t (.ok o r) = unp2 t (fzo r o) := by
  unfold unp1 unp2 nxo; rfl
theorem unp1_err (t : Tg) (c : Str) (r : Ev) : unp1 t (.err c r) = .err c r := id rfl
theorem unp2_some (t : Tg) (d : D) (r : Ev) : unp2 t (some (d, r)) = nxo (t.put d r) := id rfl
theorem nxo_some (r : Ev) : nxo (some r) = .nx r := id rfl
theorem put_one (i : Nat) (d : D) (r : Ev) : (Tg.one i).put d r = some (r.set i (.va d)) := id rfl
theorem put_tup (is : List Nat) (ds : List D) (r : Ev) : (Tg.many is).put (.tup ds) r = setAll is ds r := id rfl
theorem put_ktp (is : List Nat) (ds : List D) (r : Ev) : (Tg.many is).put (.ktp ds) r = setAll is ds r := id rfl
theorem setAll_nil (r : Ev) : setAll [] [] r = some r := id rfl
theorem setAll_cons (i : Nat) (is : List Nat) (d : D) (ds : List D) (r : Ev) : setAll (i :: is) (d :: ds) r = setAll is ds (r.set i (.va d)) := id rfl
def par1 (i : Nat) (j : Nat) (b : E) (x_ : EOut) : SOut := match x_ with
  | .ok o r1 => (match b r1 with | .ok p r2 => (match keep2 i o r2 with | some r3 => (match keep2 j p r3 with | some r4 => .nx r4 | none => .bad) | none => .bad) | .err c r2 => .err c r2 | .bad => .bad)
  | .err c r1 => .err c r1
  | .bad => .bad
theorem par1_congr (i : Nat) (j : Nat) (b : E) {x_ y_ : EOut} (h_ : x_ = y_) : par1 i j b x_ = par1 i j b y_ := by rw [h_]
def par2 (i : Nat) (j : Nat) (o : Op) (x_ : EOut) : SOut := match x_ with
  | .ok p r2 => (match keep2 i o r2 with | some r3 => nxo (keep2 j p r3) | none => .bad)
  | .err c r2 => .err c r2
  | .bad => .bad
theorem par2_congr (i : Nat) (j : Nat) (o : Op) {x_ y_ : EOut} (h_ : x_ = y_) : par2 i j o x_ = par2 i j o y_ := by rw [h_]
def par3 (j : Nat) (p : Op) (x : Option Ev) : SOut := match x with
  | some r3 => nxo (keep2 j p r3)
  | none => .bad
theorem sPar_K (i j : Nat) (a b : E) (r : Ev) : sPar i j a b r = par1 i j b (a r) := id rfl
theorem par1_ok (i j : Nat) (b : E) (o : Op) (r : Ev) : par1 i j b (.ok o r) = par2 i j o (b r) := by
  unfold par1 par2 nxo; rfl
theorem par1_err (i j : Nat) (b : E) (c : Str) (r : Ev) : par1 i j b (.err c r) = .err c r := id rfl
theorem par2_ok (i j : Nat) (o p : Op) (r : Ev) : par2 i j o (.ok p r) = par3 j p (keep2 i o r) := id rfl
theorem par2_err (i j : Nat) (o : Op) (c : Str) (r : Ev) : par2 i j o (.err c r) = .err c r := id rfl
theorem par3_some (j : Nat) (p : Op) (r : Ev) : par3 j p (some r) = nxo (keep2 j p r) := id rfl
theorem keep2_fz (i : Nat) (d : D) (r : Ev) : keep2 i (.fz d) r = some (r.set i (.va d)) := id rfl
theorem keep2_tm (i : Nat) (d : D) (r : Ev) : keep2 i (.tm d) r = some (r.set i (.ow false d)) := id rfl
def aug0 (i : Nat) (g : D → D → Option Op) (a : E) (r : Ev) (x : Option Sl) : SOut := match x with
  | some (.va x) => (match a r with
    | .ok o r1 => (match rsv r1 o with
      | some y => (match g x y with
        | some (.fz z) => .nx (r1.set i (.va z))
        | _ => .bad)
      | none => .bad)
    | .err c r1 => .err c r1
    | .bad => .bad)
  | _ => .bad
theorem aug0_congr (i : Nat) (g : D → D → Option Op) (a : E) (r : Ev) {x y : Option Sl} (h : x = y) : aug0 i g a r x = aug0 i g a r y := by rw [h]
def aug1 (i : Nat) (g : D → D → Option Op) (d : D) (x_ : EOut) : SOut := match x_ with
  | .ok o r1 => (match rsv r1 o with | some y => (match g d y with | some (.fz z) => .nx (r1.set i (.va z)) | _ => .bad) | none => .bad)
  | .err c r1 => .err c r1
  | .bad => .bad
theorem aug1_congr (i : Nat) (g : D → D → Option Op) (d : D) {x_ y_ : EOut} (h_ : x_ = y_) : aug1 i g d x_ = aug1 i g d y_ := by rw [h_]
def aug2 (i : Nat) (g : D → D → Option Op) (d : D) (r : Ev) (x : Option D) : SOut := match x with
  | some y => (match g d y with
    | some (.fz z) => .nx (r.set i (.va z))
    | _ => .bad)
  | none => .bad
def aug3 (i : Nat) (r : Ev) (x : Option Op) : SOut := match x with
  | some (.fz z) => .nx (r.set i (.va z))
  | _ => .bad
theorem sAug_K (i : Nat) (g : D → D → Option Op) (a : E) (r : Ev) : sAug i g a r = aug0 i g a r r[i]? := id rfl
theorem aug0_va (i : Nat) (g : D → D → Option Op) (a : E) (r : Ev) (d : D) : aug0 i g a r (some (.va d)) = aug1 i g d (a r) := id rfl
theorem aug1_ok (i : Nat) (g : D → D → Option Op) (d : D) (o : Op) (r : Ev) : aug1 i g d (.ok o r) = aug2 i g d r (rsv r o) := id rfl
theorem aug1_err (i : Nat) (g : D → D → Option Op) (d : D) (c : Str) (r : Ev) : aug1 i g d (.err c r) = .err c r := id rfl
theorem aug2_some (i : Nat) (g : D → D → Option Op) (d : D) (r : Ev) (y : D) : aug2 i g d r (some y) = aug3 i r (g d y) := id rfl
theorem aug3_some (i : Nat) (r : Ev) (z : D) : aug3 i r (some (.fz z)) = .nx (r.set i (.va z)) := id rfl
def ret1  (x_ : EOut) : SOut := match x_ with
  | .ok (.fz d) r1 => .ret (.fz d) r1
  | .ok (.tm d) r1 => .ret (.tm d) r1
  | .ok (.br i) r1 => (match r1[i]? with | some (.ow false d) => .ret (.tm d) (r1.set i .no) | some (.va d) => .ret (.fz d) r1 | _ => .bad)
  | .err c r1 => .err c r1
  | .bad => .bad
theorem ret1_congr  {x_ y_ : EOut} (h_ : x_ = y_) : ret1  x_ = ret1  y_ := by rw [h_]
def ret2 (i : Nat) (r : Ev) (x : Option Sl) : SOut := match x with
  | some (.ow false d) => .ret (.tm d) (r.set i .no)
  | some (.va d) => .ret (.fz d) r
  | _ => .bad
theorem sRet_K (a : E) (r : Ev) : sRet a r = ret1 (a r) := id rfl
theorem ret1_fz (d : D) (r : Ev) : ret1 (.ok (.fz d) r) = .ret (.fz d) r := id rfl
theorem ret1_tm (d : D) (r : Ev) : ret1 (.ok (.tm d) r) = .ret (.tm d) r := id rfl
theorem ret1_br (i : Nat) (r : Ev) : ret1 (.ok (.br i) r) = ret2 i r r[i]? := id rfl
theorem ret1_err (c : Str) (r : Ev) : ret1 (.err c r) = .err c r := id rfl
theorem ret2_ow (i : Nat) (r : Ev) (d : D) : ret2 i r (some (.ow false d)) = .ret (.tm d) (r.set i .no) := id rfl
theorem ret2_va (i : Nat) (r : Ev) (d : D) : ret2 i r (some (.va d)) = .ret (.fz d) r := id rfl
def if1 (a : S) (b : S) (x_ : TOut) : SOut := match x_ with
  | .ok true r1 => a r1
  | .ok false r1 => b r1
  | .err c r1 => .err c r1
  | .bad => .bad
theorem if1_congr (a : S) (b : S) {x_ y_ : TOut} (h_ : x_ = y_) : if1 a b x_ = if1 a b y_ := by rw [h_]
theorem sIf_K (c : T) (a b : S) (r : Ev) : sIf c a b r = if1 a b (c r) := id rfl
theorem if1_t (a b : S) (r : Ev) : if1 a b (.ok true r) = a r := id rfl
theorem if1_f (a b : S) (r : Ev) : if1 a b (.ok false r) = b r := id rfl
theorem if1_err (a b : S) (c : Str) (r : Ev) : if1 a b (.err c r) = .err c r := id rfl
def sub1 (i : Nat) (g : D → D → D → Option D) (k : E) (x_ : EOut) : SOut := match x_ with
  | .ok o r1 => (if isOw r1[i]? = true then (match k r1 with | .ok p r2 => (match fzo r2 o with | some (dv, r3) => (match rsv r3 p with | some dk => (match r3[i]? with | some (.ow b d) => (match g d dk dv with | some d' => .nx (r3.set i (.ow b d')) | none => .bad) | _ => .bad) | none => .bad) | none => .bad) | .err c r2 => .err c r2 | .bad => .bad) else .bad)
  | .err c r1 => .err c r1
  | .bad => .bad
theorem sub1_congr (i : Nat) (g : D → D → D → Option D) (k : E) {x_ y_ : EOut} (h_ : x_ = y_) : sub1 i g k x_ = sub1 i g k y_ := by rw [h_]
theorem sSub_K (i : Nat) (g : D → D → D → Option D) (k v : E) (r : Ev) : sSub i g k v r = sub1 i g k (v r) := id rfl
def sub2 (i : Nat) (g : D → D → D → Option D) (o : Op) (x_ : EOut) : SOut := match x_ with
  | .ok p r2 => (match fzo r2 o with | some (dv, r3) => (match rsv r3 p with | some dk => (match r3[i]? with | some (.ow b d) => (match g d dk dv with | some d' => .nx (r3.set i (.ow b d')) | none => .bad) | _ => .bad) | none => .bad) | none => .bad)
  | .err c r2 => .err c r2
  | .bad => .bad
theorem sub2_congr (i : Nat) (g : D → D → D → Option D) (o : Op) {x_ y_ : EOut} (h_ : x_ = y_) : sub2 i g o x_ = sub2 i g o y_ := by rw [h_]
theorem sub1_ok (i : Nat) (g : D → D → D → Option D) (k : E) (o : Op) (r : Ev) : sub1 i g k (.ok o r) = if isOw r[i]? = true then sub2 i g o (k r) else .bad := id rfl
theorem sub1_err (i : Nat) (g : D → D → D → Option D) (k : E) (c : Str) (r : Ev) : sub1 i g k (.err c r) = .err c r := id rfl
def sub3 (i : Nat) (g : D → D → D → Option D) (p : Op) (x : Option (D × Ev)) : SOut := match x with
  | some (dv, r3) => (match rsv r3 p with
    | some dk => (match r3[i]? with
      | some (.ow b d) => (match g d dk dv with
        | some d' => .nx (r3.set i (.ow b d'))
        | none => .bad)
      | _ => .bad)
    | none => .bad)
  | none => .bad
def sub4 (i : Nat) (g : D → D → D → Option D) (dv : D) (r : Ev) (x : Option D) (y : Option Sl) : SOut := match x with
  | some dk => (match y with
    | some (.ow b d) => (match g d dk dv with
      | some d' => .nx (r.set i (.ow b d'))
      | none => .bad)
    | _ => .bad)
  | none => .bad
def sub5 (i : Nat) (r : Ev) (b : Bool) (x : Option D) : SOut := match x with
  | some d => .nx (r.set i (.ow b d))
  | none => .bad
theorem sub2_ok (i : Nat) (g : D → D → D → Option D) (o p : Op) (r : Ev) : sub2 i g o (.ok p r) = sub3 i g p (fzo r o) := id rfl
theorem sub2_err (i : Nat) (g : D → D → D → Option D) (o : Op) (c : Str) (r : Ev) : sub2 i g o (.err c r) = .err c r := id rfl
theorem sub3_some (i : Nat) (g : D → D → D → Option D) (p : Op) (d : D) (r : Ev) : sub3 i g p (some (d, r)) = sub4 i g d r (rsv r p) r[i]? := id rfl
theorem sub4_some (i : Nat) (g : D → D → D → Option D) (dv : D) (r : Ev) (dk : D) (b : Bool) (d : D) : sub4 i g dv r (some dk) (some (.ow b d)) = sub5 i r b (g d dk dv) := id rfl
theorem sub5_some (i : Nat) (r : Ev) (b : Bool) (d : D) : sub5 i r b (some d) = .nx (r.set i (.ow b d)) := id rfl
def mut0 (i : Nat) (g : D → List D → Option (D × Op)) (x : AOut) : EOut := match x with
  | .ok os r1 => (match fzos os r1 with
    | some (ds, r2) => (match r2[i]? with
      | some (.ow b d) => (match g d ds with
        | some (d', o) => .ok o (r2.set i (.ow b d'))
        | none => .bad)
      | _ => .bad)
    | none => .bad)
  | .err c r1 => .err c r1
  | .bad => .bad
def mut1 (i : Nat) (g : D → List D → Option (D × Op)) (x : Option (List D × Ev)) : EOut := match x with
  | some (ds, r2) => (match r2[i]? with
    | some (.ow b d) => (match g d ds with
      | some (d', o) => .ok o (r2.set i (.ow b d'))
      | none => .bad)
    | _ => .bad)
  | none => .bad
def mut2 (i : Nat) (g : D → List D → Option (D × Op)) (ds : List D) (r : Ev) (x : Option Sl) : EOut := match x with
  | some (.ow b d) => (match g d ds with
    | some (d', o) => .ok o (r.set i (.ow b d'))
    | none => .bad)
  | _ => .bad
def mut3 (i : Nat) (r : Ev) (b : Bool) (x : Option (D × Op)) : EOut := match x with
  | some (d, o) => .ok o (r.set i (.ow b d))
  | none => .bad
theorem eMut_K (i : Nat) (g : D → List D → Option (D × Op)) (a : A) (r : Ev) : eMut i g a r = if isL r[i]? = true then mut0 i g (a r) else .bad := id rfl
theorem isL_lst (b : Bool) (xs : List D) : isL (some (.ow b (.lst xs))) = true := id rfl
theorem mut0_ok (i : Nat) (g : D → List D → Option (D × Op)) (os : List Op) (r : Ev) : mut0 i g (.ok os r) = mut1 i g (fzos os r) := id rfl
theorem mut0_err (i : Nat) (g : D → List D → Option (D × Op)) (c : Str) (r : Ev) : mut0 i g (.err c r) = .err c r := id rfl
theorem mut1_some (i : Nat) (g : D → List D → Option (D × Op)) (ds : List D) (r : Ev) : mut1 i g (some (ds, r)) = mut2 i g ds r r[i]? := id rfl
theorem mut2_some (i : Nat) (g : D → List D → Option (D × Op)) (ds : List D) (r : Ev) (b : Bool) (d : D) : mut2 i g ds r (some (.ow b d)) = mut3 i r b (g d ds) := id rfl
theorem mut3_some (i : Nat) (r : Ev) (b : Bool) (d : D) (o : Op) : mut3 i r b (some (d, o)) = .ok o (r.set i (.ow b d)) := id rfl
def for1 (t : Tg) (b : S) (x_ : IOut) : SOut := match x_ with
  | .ok ds r1 => forGo t b ds r1
  | .err c r1 => .err c r1
  | .bad => .bad
theorem for1_congr (t : Tg) (b : S) {x_ y_ : IOut} (h_ : x_ = y_) : for1 t b x_ = for1 t b y_ := by rw [h_]
theorem sFor_K (t : Tg) (it : I) (b : S) (r : Ev) : sFor t it b r = for1 t b (it r) := id rfl
theorem for1_ok (t : Tg) (b : S) (ds : List D) (r : Ev) : for1 t b (.ok ds r) = forGo t b ds r := id rfl
theorem for1_err (t : Tg) (b : S) (c : Str) (r : Ev) : for1 t b (.err c r) = .err c r := id rfl
def go1 (t : Tg) (b : S) (ds : List D) (x_ : SOut) : SOut := match x_ with
  | .nx r2 => forGo t b ds r2
  | .cnt r2 => forGo t b ds r2
  | .brk r2 => .nx r2
  | x => x
theorem go1_congr (t : Tg) (b : S) (ds : List D) {x_ y_ : SOut} (h_ : x_ = y_) : go1 t b ds x_ = go1 t b ds y_ := by rw [h_]
def go0 (t : Tg) (b : S) (ds : List D) (x : Option Ev) : SOut := match x with
  | some r1 => go1 t b ds (b r1)
  | none => .bad
theorem go0_congr (t : Tg) (b : S) (ds : List D) {x y : Option Ev} (h : x = y) : go0 t b ds x = go0 t b ds y := by rw [h]
theorem forGo_nil (t : Tg) (b : S) (r : Ev) : forGo t b [] r = .nx r := id rfl
theorem forGo_cons (t : Tg) (b : S) (d : D) (ds : List D) (r : Ev) : forGo t b (d :: ds) r = go0 t b ds (t.put d r) := by
  rw [forGo]; unfold go0 go1; rfl
theorem go0_some (t : Tg) (b : S) (ds : List D) (r : Ev) : go0 t b ds (some r) = go1 t b ds (b r) := id rfl
theorem go1_nx (t : Tg) (b : S) (ds : List D) (r : Ev) : go1 t b ds (.nx r) = forGo t b ds r := id rfl
theorem go1_cnt (t : Tg) (b : S) (ds : List D) (r : Ev) : go1 t b ds (.cnt r) = forGo t b ds r := id rfl
theorem go1_brk (t : Tg) (b : S) (ds : List D) (r : Ev) : go1 t b ds (.brk r) = .nx r := id rfl
theorem go1_ret (t : Tg) (b : S) (ds : List D) (o : Op) (r : Ev) : go1 t b ds (.ret o r) = .ret o r := id rfl
theorem go1_err (t : Tg) (b : S) (ds : List D) (c : Str) (r : Ev) : go1 t b ds (.err c r) = .err c r := id rfl
def wh2 (c : T) (b : S) (n : Nat) (x_ : SOut) : SOut := match x_ with
  | .nx r2 => whN c b n r2
  | .cnt r2 => whN c b n r2
  | .brk r2 => .nx r2
  | x => x
theorem wh2_congr (c : T) (b : S) (n : Nat) {x_ y_ : SOut} (h_ : x_ = y_) : wh2 c b n x_ = wh2 c b n y_ := by rw [h_]
def wh1 (c : T) (b : S) (n : Nat) (x_ : TOut) : SOut := match x_ with
  | .ok true r1 => wh2 c b n (b r1)
  | .ok false r1 => .nx r1
  | .err e r1 => .err e r1
  | .bad => .bad
theorem wh1_congr (c : T) (b : S) (n : Nat) {x_ y_ : TOut} (h_ : x_ = y_) : wh1 c b n x_ = wh1 c b n y_ := by rw [h_]
theorem whN_K (c : T) (b : S) (n : Nat) (r : Ev) : whN c b (n + 1) r = wh1 c b n (c r) := by
  rw [whN]; unfold wh1 wh2; rfl
theorem wh1_t (c : T) (b : S) (n : Nat) (r : Ev) : wh1 c b n (.ok true r) = wh2 c b n (b r) := id rfl
theorem wh1_f (c : T) (b : S) (n : Nat) (r : Ev) : wh1 c b n (.ok false r) = .nx r := id rfl
theorem wh2_nx (c : T) (b : S) (n : Nat) (r : Ev) : wh2 c b n (.nx r) = whN c b n r := id rfl
theorem wh2_cnt (c : T) (b : S) (n : Nat) (r : Ev) : wh2 c b n (.cnt r) = whN c b n r := id rfl
theorem wh2_brk (c : T) (b : S) (n : Nat) (r : Ev) : wh2 c b n (.brk r) = .nx r := id rfl
theorem wh2_ret (c : T) (b : S) (n : Nat) (o : Op) (r : Ev) : wh2 c b n (.ret o r) = .ret o r := id rfl
theorem wh2_err (c : T) (b : S) (n : Nat) (e : Str) (r : Ev) : wh2 c b n (.err e r) = .err e r := id rfl
def iseq1  (x_ : EOut) : IOut := match x_ with
  | .ok o r1 => (match fzo r1 o with | some (.lst ds, r2) => .ok ds r2 | some (.tup ds, r2) => .ok ds r2 | some (.kls ds, r2) => .ok ds r2 | some (.ktp ds, r2) => .ok ds r2 | _ => .bad)
  | .err c r1 => .err c r1
  | .bad => .bad
theorem iseq1_congr  {x_ y_ : EOut} (h_ : x_ = y_) : iseq1  x_ = iseq1  y_ := by rw [h_]
def iseq2 (x : Option (D × Ev)) : IOut := match x with
  | some (.lst ds, r2) => .ok ds r2
  | some (.tup ds, r2) => .ok ds r2
  | some (.kls ds, r2) => .ok ds r2
  | some (.ktp ds, r2) => .ok ds r2
  | _ => .bad
theorem iSeq_K (a : E) (r : Ev) : iSeq a r = iseq1 (a r) := id rfl
theorem iseq1_ok (o : Op) (r : Ev) : iseq1 (.ok o r) = iseq2 (fzo r o) := id rfl
theorem iseq1_err (c : Str) (r : Ev) : iseq1 (.err c r) = .err c r := id rfl
theorem iseq2_lst (ds : List D) (r : Ev) : iseq2 (some (.lst ds, r)) = .ok ds r := id rfl
theorem iseq2_tup (ds : List D) (r : Ev) : iseq2 (some (.tup ds, r)) = .ok ds r := id rfl
theorem iseq2_kls (ds : List D) (r : Ev) : iseq2 (some (.kls ds, r)) = .ok ds r := id rfl
theorem iseq2_ktp (ds : List D) (r : Ev) : iseq2 (some (.ktp ds, r)) = .ok ds r := id rfl
def rg1  (x_ : EOut) : IOut := match x_ with
  | .ok (.fz (.int j)) r1 => (if -(2 ^ 62) ≤ j ∧ j < 2 ^ 62 then .ok (upFrom 0 j.toNat) r1 else .bad)
  | .ok _ _ => .bad
  | .err c r1 => .err c r1
  | .bad => .bad
theorem rg1_congr  {x_ y_ : EOut} (h_ : x_ = y_) : rg1  x_ = rg1  y_ := by rw [h_]
theorem iRng1_K (a : E) (r : Ev) : iRng1 a r = rg1 (a r) := id rfl
theorem rg1_ok {j : Int} (r : Ev) (h0 : -4611686018427387904 ≤ j) (h1 : j < 4611686018427387904) : rg1 (.ok (.fz (.int j)) r) = .ok (upFrom 0 j.toNat) r := by
  unfold rg1
  exact if_pos ⟨h0, h1⟩
theorem rg1_err (c : Str) (r : Ev) : rg1 (.err c r) = .err c r := id rfl
def rg2 (b : E) (x_ : EOut) : IOut := match x_ with
  | .ok (.fz (.int i)) r1 => (match b r1 with | .ok (.fz (.int j)) r2 => (if (-(2 ^ 62) ≤ i ∧ i < 2 ^ 62) ∧ -(2 ^ 62) ≤ j ∧ j < 2 ^ 62 then .ok (upFrom i (j - i).toNat) r2 else .bad) | .ok _ _ => .bad | .err c r2 => .err c r2 | .bad => .bad)
  | .ok _ _ => .bad
  | .err c r1 => .err c r1
  | .bad => .bad
theorem rg2_congr (b : E) {x_ y_ : EOut} (h_ : x_ = y_) : rg2 b x_ = rg2 b y_ := by rw [h_]
def rg3 (i : Int) (x_ : EOut) : IOut := match x_ with
  | .ok (.fz (.int j)) r2 => (if (-(2 ^ 62) ≤ i ∧ i < 2 ^ 62) ∧ -(2 ^ 62) ≤ j ∧ j < 2 ^ 62 then .ok (upFrom i (j - i).toNat) r2 else .bad)
  | .ok _ _ => .bad
  | .err c r2 => .err c r2
  | .bad => .bad
theorem rg3_congr (i : Int) {x_ y_ : EOut} (h_ : x_ = y_) : rg3 i x_ = rg3 i y_ := by rw [h_]
theorem iRng2_K (a b : E) (r : Ev) : iRng2 a b r = rg2 b (a r) := id rfl
theorem rg2_ok (b : E) (i : Int) (r : Ev) : rg2 b (.ok (.fz (.int i)) r) = rg3 i (b r) := id rfl
theorem rg2_err (b : E) (c : Str) (r : Ev) : rg2 b (.err c r) = .err c r := id rfl
theorem rg3_ok {i j : Int} (r : Ev) (h0 : -4611686018427387904 ≤ i) (h1 : i < 4611686018427387904) (h2 : -4611686018427387904 ≤ j) (h3 : j < 4611686018427387904) : rg3 i (.ok (.fz (.int j)) r) = .ok (upFrom i (j - i).toNat) r := by
  unfold rg3
  exact if_pos ⟨⟨h0, h1⟩, h2, h3⟩
theorem rg3_err (i : Int) (c : Str) (r : Ev) : rg3 i (.err c r) = .err c r := id rfl
theorem pNo_K (r : Ev) : pNo r = .ok none r := id rfl
def psome1  (x_ : EOut) : POut := match x_ with
  | .ok (.fz (.int i)) r1 => .ok (some i) r1
  | .ok _ _ => .bad
  | .err c r1 => .err c r1
  | .bad => .bad
theorem psome1_congr  {x_ y_ : EOut} (h_ : x_ = y_) : psome1  x_ = psome1  y_ := by rw [h_]
theorem pSome_K (a : E) (r : Ev) : pSome a r = psome1 (a r) := id rfl
theorem psome1_ok (i : Int) (r : Ev) : psome1 (.ok (.fz (.int i)) r) = .ok (some i) r := id rfl
def sl1 (lo : P) (hi : P) (x_ : EOut) : EOut := match x_ with
  | .ok o r1 => (match lo r1 with | .ok l r2 => (match hi r2 with | .ok h r3 => (match rsv r3 o with | some d => (match gSlice d l h with | some z => .ok z r3 | none => .bad) | none => .bad) | .err c r3 => .err c r3 | .bad => .bad) | .err c r2 => .err c r2 | .bad => .bad)
  | .err c r1 => .err c r1
  | .bad => .bad
theorem sl1_congr (lo : P) (hi : P) {x_ y_ : EOut} (h_ : x_ = y_) : sl1 lo hi x_ = sl1 lo hi y_ := by rw [h_]
def sl2 (hi : P) (o : Op) (x_ : POut) : EOut := match x_ with
  | .ok l r2 => (match hi r2 with | .ok h r3 => (match rsv r3 o with | some d => (match gSlice d l h with | some z => .ok z r3 | none => .bad) | none => .bad) | .err c r3 => .err c r3 | .bad => .bad)
  | .err c r2 => .err c r2
  | .bad => .bad
theorem sl2_congr (hi : P) (o : Op) {x_ y_ : POut} (h_ : x_ = y_) : sl2 hi o x_ = sl2 hi o y_ := by rw [h_]
def sl3 (l : Option Int) (o : Op) (x_ : POut) : EOut := match x_ with
  | .ok h r3 => un2 (fun d => gSlice d l h) r3 (rsv r3 o)
  | .err c r3 => .err c r3
  | .bad => .bad
theorem sl3_congr (l : Option Int) (o : Op) {x_ y_ : POut} (h_ : x_ = y_) : sl3 l o x_ = sl3 l o y_ := by rw [h_]
theorem eSlice_K (a : E) (lo hi : P) (r : Ev) : eSlice a lo hi r = sl1 lo hi (a r) := id rfl
theorem sl1_ok (lo hi : P) (o : Op) (r : Ev) : sl1 lo hi (.ok o r) = sl2 hi o (lo r) := id rfl
theorem sl1_err (lo hi : P) (c : Str) (r : Ev) : sl1 lo hi (.err c r) = .err c r := id rfl
theorem sl2_ok (hi : P) (o : Op) (l : Option Int) (r : Ev) : sl2 hi o (.ok l r) = sl3 l o (hi r) := by
  unfold sl2 sl3 un2 opt; rfl
theorem sl3_ok (l h : Option Int) (o : Op) (r : Ev) : sl3 l o (.ok h r) = un2 (fun d => gSlice d l h) r (rsv r o) := id rfl
def lc0 (vs : List Nat) (t : Tg) (c : T) (e : E) (x : IOut) : EOut := match x with
  | .ok ds r1 => if vs.all (fun v => !isOw r1[v]?) then lcGo vs t c e r1 ds [] r1 else .bad
  | .err c r1 => .err c r1
  | .bad => .bad
theorem eLc_K (vs : List Nat) (t : Tg) (it : I) (c : T) (e : E) (r : Ev) : eLc vs t it c e r = lc0 vs t c e (it r) := id rfl
theorem lc0_err (vs : List Nat) (t : Tg) (c : T) (e : E) (x : Str) (r : Ev) : lc0 vs t c e (.err x r) = .err x r := id rfl
theorem lc0_ok (vs : List Nat) (t : Tg) (c : T) (e : E) (ds : List D) (r : Ev) : lc0 vs t c e (.ok ds r) = if vs.all (fun v => !isOw r[v]?) = true then lcGo vs t c e r ds [] r else .bad := id rfl
theorem lcGo_nil (vs : List Nat) (t : Tg) (c : T) (e : E) (r0 : Ev) (acc : List D) (r : Ev) : lcGo vs t c e r0 [] acc r = .ok (.tm (.lst acc)) (backE r0 r vs) := id rfl
def lc4 (vs : List Nat) (t : Tg) (c : T) (e : E) (r0 : Ev) (ds acc : List D) (x : Option (D × Ev)) : EOut := match x with
  | some (x, r4) => if acc.length < SZ then lcGo vs t c e r0 ds (acc ++ [x]) r4 else .bad
  | none => .bad
def lc3 (vs : List Nat) (t : Tg) (c : T) (e : E) (r0 : Ev) (ds acc : List D) (x : EOut) : EOut := match x with
  | .ok o r3 => lc4 vs t c e r0 ds acc (fzo r3 o)
  | _ => .bad
def lc2 (vs : List Nat) (t : Tg) (c : T) (e : E) (r0 : Ev) (ds acc : List D) (x : TOut) : EOut := match x with
  | .ok true r2 => lc3 vs t c e r0 ds acc (e r2)
  | .ok false r2 => lcGo vs t c e r0 ds acc r2
  | _ => .bad
def lc1 (vs : List Nat) (t : Tg) (c : T) (e : E) (r0 : Ev) (ds acc : List D) (x : Option Ev) : EOut := match x with
  | some r1 => lc2 vs t c e r0 ds acc (c r1)
  | none => .bad
theorem lcGo_cons (vs : List Nat) (t : Tg) (c : T) (e : E) (r0 : Ev) (d : D) (ds acc : List D) (r : Ev) : lcGo vs t c e r0 (d :: ds) acc r = lc1 vs t c e r0 ds acc (t.put d (wipeE r vs)) := by
  rw [lcGo]; unfold lc1 lc2 lc3 lc4; rfl
theorem lc1_some (vs : List Nat) (t : Tg) (c : T) (e : E) (r0 : Ev) (ds acc : List D) (r : Ev) : lc1 vs t c e r0 ds acc (some r) = lc2 vs t c e r0 ds acc (c r) := id rfl
theorem lc2_t (vs : List Nat) (t : Tg) (c : T) (e : E) (r0 : Ev) (ds acc : List D) (r : Ev) : lc2 vs t c e r0 ds acc (.ok true r) = lc3 vs t c e r0 ds acc (e r) := id rfl
theorem lc2_f (vs : List Nat) (t : Tg) (c : T) (e : E) (r0 : Ev) (ds acc : List D) (r : Ev) : lc2 vs t c e r0 ds acc (.ok false r) = lcGo vs t c e r0 ds acc r := id rfl
theorem lc3_ok (vs : List Nat) (t : Tg) (c : T) (e : E) (r0 : Ev) (ds acc : List D) (o : Op) (r : Ev) : lc3 vs t c e r0 ds acc (.ok o r) = lc4 vs t c e r0 ds acc (fzo r o) := id rfl
theorem lc4_some (vs : List Nat) (t : Tg) (c : T) (e : E) (r0 : Ev) (ds acc : List D) (d : D) (r : Ev) : lc4 vs t c e r0 ds acc (some (d, r)) = if acc.length < SZ then lcGo vs t c e r0 ds (acc ++ [d]) r else .bad := id rfl
theorem wipeE_nil (r : Ev) : wipeE r [] = r := id rfl
theorem wipeE_cons (r : Ev) (v : Nat) (vs : List Nat) : wipeE r (v :: vs) = (wipeE r vs).set v .no := id rfl
theorem backE_nil (r0 r : Ev) : backE r0 r [] = r := id rfl
def backSl (x : Option Sl) : Sl := match x with
  | some s => s
  | none => .no
theorem backE_cons (r0 r : Ev) (v : Nat) (vs : List Nat) : backE r0 r (v :: vs) = (backE r0 r vs).set v (backSl r0[v]?) := by
  show (backE r0 r vs).set v (r0.getD v .no) = _
  unfold backSl
  rw [List.getD_eq_getElem?_getD]
  cases r0[v]? <;> rfl
theorem backSl_some (s : Sl) : backSl (some s) = s := id rfl
theorem isOw_va (d : D) : isOw (some (.va d)) = false := id rfl
theorem isOw_no : isOw (some .no) = false := id rfl
theorem upFrom_z (lo : Int) : upFrom lo 0 = [] := id rfl
theorem upFrom_s (lo : Int) (n : Nat) : upFrom lo (n + 1) = .int lo :: upFrom (lo + 1) n := id rfl
theorem lcGo_spec {vs : List Nat} {t : Tg} {c : T} {e : E} {r0 w : Ev} (f : D → Option D) (hb : ∀ r, wipeE r vs = w → backE r0 r vs = r0) : ∀ (ds acc : List D) (r : Ev), wipeE r vs = w → (∀ d ∈ ds, ∃ r1, t.put d w = some r1 ∧ ((f d = none ∧ ∃ r2, c r1 = .ok false r2 ∧ wipeE r2 vs = w) ∨ ∃ x r2 o r3 r4, f d = some x ∧ c r1 = .ok true r2 ∧ e r2 = .ok o r3 ∧ fzo r3 o = some (x, r4) ∧ wipeE r4 vs = w)) → acc.length + ds.length ≤ SZ → lcGo vs t c e r0 ds acc r = .ok (.tm (.lst (acc ++ ds.filterMap f))) r0
  | [], acc, r, hw, _, _ => by rw [lcGo_nil, hb r hw, List.filterMap_nil, List.append_nil]
  | d :: ds, acc, r, hw, h, hl => by
    obtain ⟨r1, e1, e2⟩ := h d List.mem_cons_self
    have hl2 : acc.length + ds.length + 1 ≤ SZ := hl
    rw [lcGo_cons, hw, e1, lc1_some]
    rcases e2 with ⟨f0, r2, c0, w2⟩ | ⟨x, r2, o, r3, r4, f1, c1, e3, e4, w4⟩
    · rw [c0, lc2_f, lcGo_spec f hb ds acc r2 w2 (fun x hx => h x (List.mem_cons_of_mem _ hx)) (by omega), List.filterMap_cons, f0]
    · rw [c1, lc2_t, e3, lc3_ok, e4, lc4_some, if_pos (by omega), lcGo_spec f hb ds (acc ++ [x]) r4 w4 (fun x hx => h x (List.mem_cons_of_mem _ hx)) (by simp; omega), List.filterMap_cons, f1, List.append_assoc]; rfl
theorem eNewK_K (r : Ev) : eNewK r = .ok (.tm (.dct [])) r := id rfl
theorem eNewT_K (r : Ev) : eNewT r = .ok (.tm (.dtt [])) r := id rfl
def disp3 (dk : D) (x : Option (D × Ev)) : EOut := match keyD dk with
  | some key => match x with
    | some (dv, r3) => .ok (.tm (.dct [(key, dv)])) r3
    | none => .bad
  | none => .bad
def disp2 (o : Op) (x : EOut) : EOut := match x with
  | .ok p r2 => match rsv r2 o with
    | some dk => match keyD dk with
      | some key => match fzo r2 p with
        | some (dv, r3) => .ok (.tm (.dct [(key, dv)])) r3
        | none => .bad
      | none => .bad
    | none => .bad
  | .err c r2 => .err c r2
  | .bad => .bad
def disp1 (v : E) (x : EOut) : EOut := match x with
  | .ok o r1 => disp2 o (v r1)
  | .err c r1 => .err c r1
  | .bad => .bad
theorem eDisp1_K (k v : E) (r : Ev) : eDisp1 k v r = disp1 v (k r) := by
  unfold eDisp1 disp1 disp2; rfl
theorem disp1_ok (v : E) (o : Op) (r : Ev) : disp1 v (.ok o r) = disp2 o (v r) := id rfl
def disp4 (x : Option D) (y : Option (D × Ev)) : EOut := match x with
  | some dk => disp3 dk y
  | none => .bad
theorem disp2_ok (o p : Op) (r : Ev) : disp2 o (.ok p r) = disp4 (rsv r o) (fzo r p) := by
  unfold disp2 disp4 disp3; rfl
theorem disp4_i (i : Int) (d : D) (r : Ev) : disp4 (some (.int i)) (some (d, r)) = .ok (.tm (.dct [(.inl i, d)])) r := id rfl
theorem gDictOf_K (kvs : List (DK × D)) : gDictOf [.dct kvs] = some (.tm (.dct kvs)) := id rfl
theorem gRev_lst (xs : List D) : gRevA (.lst xs) = some (.tm (.lst xs.reverse)) := id rfl
def lstr1 (x : EOut) : EOut := match x with
  | .ok (.fz (.int j)) r1 => if (-(2 ^ 62) ≤ j ∧ j < 2 ^ 62) ∧ j.toNat ≤ SZ then .ok (.tm (.lst (upFrom 0 j.toNat))) r1 else .bad
  | .ok _ _ => .bad
  | .err c r1 => .err c r1
  | .bad => .bad
theorem eLstR1_K (a : E) (r : Ev) : eLstR1 a r = lstr1 (a r) := id rfl
theorem lstr1_ok {j : Int} (r : Ev) (h0 : 0 ≤ j) (h1 : j < 4096) : lstr1 (.ok (.fz (.int j)) r) = .ok (.tm (.lst (upFrom 0 j.toNat))) r := by
  unfold lstr1
  exact if_pos ⟨by omega, by unfold SZ; omega⟩
def zip4 (x y : D) (r : Ev) : IOut := match asL x, asL y with
  | some xs, some ys => .ok (zipD xs ys) r
  | _, _ => match asT x, asT y with
    | some xs, some ys => .ok (zipD xs ys) r
    | _, _ => .bad
def zip3 (p : Op) (x : Option (D × Ev)) : IOut := match x with
  | some (x, r3) => match fzo r3 p with
    | some (y, r4) => zip4 x y r4
    | none => .bad
  | none => .bad
def zip3b (x : D) (y : Option (D × Ev)) : IOut := match y with
  | some (y, r4) => zip4 x y r4
  | none => .bad
def zip2 (o : Op) (x : EOut) : IOut := match x with
  | .ok p r2 => zip3 p (fzo r2 o)
  | .err c r2 => .err c r2
  | .bad => .bad
def zip1 (b : E) (x : EOut) : IOut := match x with
  | .ok o r1 => zip2 o (b r1)
  | .err c r1 => .err c r1
  | .bad => .bad
theorem iZip_K (a b : E) (r : Ev) : iZip a b r = zip1 b (a r) := by
  unfold iZip zip1 zip2 zip3 zip4; rfl
theorem zip1_ok (b : E) (o : Op) (r : Ev) : zip1 b (.ok o r) = zip2 o (b r) := id rfl
theorem zip2_ok (o p : Op) (r : Ev) : zip2 o (.ok p r) = zip3 p (fzo r o) := id rfl
theorem zip3_some (p : Op) (x : D) (r : Ev) : zip3 p (some (x, r)) = zip3b x (fzo r p) := id rfl
theorem zip3b_some (x y : D) (r : Ev) : zip3b x (some (y, r)) = zip4 x y r := id rfl
theorem zip4_lstlst (xs ys : List D) (r : Ev) : zip4 (.lst xs) (.lst ys) r = .ok (zipD xs ys) r := id rfl
theorem zip4_lstkls (xs ys : List D) (r : Ev) : zip4 (.lst xs) (.kls ys) r = .ok (zipD xs ys) r := id rfl
theorem zip4_klslst (xs ys : List D) (r : Ev) : zip4 (.kls xs) (.lst ys) r = .ok (zipD xs ys) r := id rfl
theorem zip4_klskls (xs ys : List D) (r : Ev) : zip4 (.kls xs) (.kls ys) r = .ok (zipD xs ys) r := id rfl
theorem zip4_tuptup (xs ys : List D) (r : Ev) : zip4 (.tup xs) (.tup ys) r = .ok (zipD xs ys) r := id rfl
theorem zip4_tupktp (xs ys : List D) (r : Ev) : zip4 (.tup xs) (.ktp ys) r = .ok (zipD xs ys) r := id rfl
theorem zip4_ktptup (xs ys : List D) (r : Ev) : zip4 (.ktp xs) (.tup ys) r = .ok (zipD xs ys) r := id rfl
theorem zip4_ktpktp (xs ys : List D) (r : Ev) : zip4 (.ktp xs) (.ktp ys) r = .ok (zipD xs ys) r := id rfl
def enum2 (x : Option (D × Ev)) : IOut := match x with
  | some (x, r2) => match asL x with
    | some xs => .ok (enumD 0 xs) r2
    | none => .bad
  | none => .bad
def enum1 (x : EOut) : IOut := match x with
  | .ok o r1 => enum2 (fzo r1 o)
  | .err c r1 => .err c r1
  | .bad => .bad
theorem iEnum_K (a : E) (r : Ev) : iEnum a r = enum1 (a r) := by
  unfold iEnum enum1 enum2; rfl
theorem enum1_ok (o : Op) (r : Ev) : enum1 (.ok o r) = enum2 (fzo r o) := id rfl
theorem enum2_lst (xs : List D) (r : Ev) : enum2 (some (.lst xs, r)) = .ok (enumD 0 xs) r := id rfl
theorem enum2_kls (xs : List D) (r : Ev) : enum2 (some (.kls xs, r)) = .ok (enumD 0 xs) r := id rfl
def lcn2 (vs : List Nat) (t : Tg) (i : Nat) (c : T) (e : E) (x : Option (D × Ev)) : EOut := match x with
  | some (_, r1) => eLc vs t (iKeysD i) c e r1
  | none => .bad
theorem eLcN_K (vs : List Nat) (t : Tg) (i : Nat) (c : T) (e : E) (r : Ev) : eLcN vs t i c e r = if isK r[i]? = true then lcn2 vs t i c e (fzo r (.br i)) else eLc vs t (iSeq (eName i)) c e r := by
  unfold eLcN lcn2; rfl
theorem lcn2_some (vs : List Nat) (t : Tg) (i : Nat) (c : T) (e : E) (d : D) (r : Ev) : lcn2 vs t i c e (some (d, r)) = eLc vs t (iKeysD i) c e r := id rfl
def kd1 (r : Ev) (x : Option Sl) : IOut := match x with
  | some (.va (.dct kvs)) => .ok (kvs.map fun p => kD p.1) r
  | _ => .bad
theorem iKeysD_K (i : Nat) (r : Ev) : iKeysD i r = kd1 r r[i]? := id rfl
theorem kd1_va (r : Ev) (kvs : List (DK × D)) : kd1 r (some (.va (.dct kvs))) = .ok (kvs.map fun p => kD p.1) r := id rfl
theorem isK_vaint (i : Int) : isK (some (.va (.int i))) = false := id rfl
theorem isK_owint (b : Bool) (i : Int) : isK (some (.ow b (.int i))) = false := id rfl
theorem isK_vastr (i : Str) : isK (some (.va (.str i))) = false := id rfl
theorem isK_owstr (b : Bool) (i : Str) : isK (some (.ow b (.str i))) = false := id rfl
theorem isK_vatup (i : List D) : isK (some (.va (.tup i))) = false := id rfl
theorem isK_owtup (b : Bool) (i : List D) : isK (some (.ow b (.tup i))) = false := id rfl
theorem isK_valst (i : List D) : isK (some (.va (.lst i))) = false := id rfl
theorem isK_owlst (b : Bool) (i : List D) : isK (some (.ow b (.lst i))) = false := id rfl
theorem isK_vakls (i : List D) : isK (some (.va (.kls i))) = false := id rfl
theorem isK_owkls (b : Bool) (i : List D) : isK (some (.ow b (.kls i))) = false := id rfl
theorem isK_vaktp (i : List D) : isK (some (.va (.ktp i))) = false := id rfl
theorem isK_owktp (b : Bool) (i : List D) : isK (some (.ow b (.ktp i))) = false := id rfl
theorem isK_vabl (i : Bool) : isK (some (.va (.bl i))) = false := id rfl
theorem isK_owbl (b : Bool) (i : Bool) : isK (some (.ow b (.bl i))) = false := id rfl
theorem isK_vanon : isK (some (.va .non)) = false := id rfl
theorem isK_vadct (k : List (DK × D)) : isK (some (.va (.dct k))) = true := id rfl
theorem isK_owdct (b : Bool) (k : List (DK × D)) : isK (some (.ow b (.dct k))) = true := id rfl
theorem gLen_dct (k : List (DK × D)) : gLen [.dct k] = some (.fz (.int k.length)) := id rfl
theorem gIn_dct (i : Int) (k : List (DK × D)) : gInA (.int i) (.dct k) = some (.fz (.bl (valD k (.inl i)).isSome)) := id rfl
theorem gNotIn_dct (i : Int) (k : List (DK × D)) : gNotInA (.int i) (.dct k) = some (.fz (.bl (!(valD k (.inl i)).isSome))) := id rfl
def ixd (x : Option D) : Option Op := match x with
  | some d => some (.fz d)
  | none => none
theorem gIx_dct (i : Int) (k : List (DK × D)) : gIx (.dct k) (.int i) = ixd (valD k (.inl i)) := by
  show (match (some (valD k (.inl i)) : Option (Option D)) with | some (some d) => some (Op.fz d) | _ => none) = _
  unfold ixd
  cases valD k (Sum.inl i) <;> rfl
theorem ixd_some (d : D) : ixd (some d) = some (.fz d) := id rfl
theorem gSet_dct {i : Int} {k : List (DK × D)} (d : D) (h : k.length < SZ) : gSet (.dct k) (.int i) d = some (.dct (putD k (.inl i) d)) := by
  show (if k.length < SZ then _ else _) = _
  rw [if_pos h]
theorem gSortedD_lst {ns : List Int} : gSortedE [.lst (ns.map .int)] = some (.tm (.lst ((sortI ns).map .int))) := by
  unfold gSortedE gSortedD gSorted
  simp only [intsD_map, Option.some_or]
def try2 (x : SOut) : SOut := match x with
  | .err _ _ => .bad
  | x => x
def try1 (sub : Str → Option Bool) (h : Str → S) (x : SOut) : SOut := match x with
  | .err c r1 => (match sub c with
    | some true => try2 (h c r1)
    | some false => .err c r1
    | none => .bad)
  | x => x
theorem try1_congr (sub : Str → Option Bool) (h : Str → S) {x y : SOut} (e : x = y) : try1 sub h x = try1 sub h y := by rw [e]
theorem sTry_K (sub : Str → Option Bool) (b : S) (h : Str → S) (r : Ev) : sTry sub b h r = try1 sub h (b r) := by
  unfold sTry try1 try2; rfl
theorem try1_nx (sub : Str → Option Bool) (h : Str → S) (r : Ev) : try1 sub h (.nx r) = .nx r := id rfl
theorem try1_ret (sub : Str → Option Bool) (h : Str → S) (o : Op) (r : Ev) : try1 sub h (.ret o r) = .ret o r := id rfl
theorem try1_brk (sub : Str → Option Bool) (h : Str → S) (r : Ev) : try1 sub h (.brk r) = .brk r := id rfl
theorem try1_cnt (sub : Str → Option Bool) (h : Str → S) (r : Ev) : try1 sub h (.cnt r) = .cnt r := id rfl
def try3 (x : Option Bool) (h : S) (c : Str) (r : Ev) : SOut := match x with
  | some true => try2 (h r)
  | some false => .err c r
  | none => .bad
theorem try1_err (sub : Str → Option Bool) (h : Str → S) (c : Str) (r : Ev) : try1 sub h (.err c r) = try3 (sub c) (h c) c r := id rfl
theorem try3_t (h : S) (c : Str) (r : Ev) : try3 (some true) h c r = try2 (h r) := id rfl
theorem try3_f (h : S) (c : Str) (r : Ev) : try3 (some false) h c r = .err c r := id rfl
theorem try2_nx (r : Ev) : try2 (.nx r) = .nx r := id rfl
theorem try2_ret (o : Op) (r : Ev) : try2 (.ret o r) = .ret o r := id rfl
theorem try2_brk (r : Ev) : try2 (.brk r) = .brk r := id rfl
theorem try2_cnt (r : Ev) : try2 (.cnt r) = .cnt r := id rfl
def fn3 (x : Option (List D)) (o : Op) : FOut := match x with
  | some ios => .ok o ios
  | none => .bad
def fn4 (x : Option (List D)) (c : Str) : FOut := match x with
  | some ios => .err c ios
  | none => .bad
def fn1 (m : List Bool) (x_ : SOut) : FOut := match x_ with
  | .ret o r => fn3 (iosAt m 0 r) o
  | .nx r => fn3 (iosAt m 0 r) (.fz .non)
  | .err c r => fn4 (iosAt m 0 r) c
  | _ => .bad
theorem fn1_congr (m : List Bool) {x_ y_ : SOut} (h_ : x_ = y_) : fn1 m x_ = fn1 m y_ := by rw [h_]
theorem fnD_K (n : Nat) (m : List Bool) (b : S) (ds : List D) : fnD n m b ds = if ds.length = m.length then fn1 m (b (argSl m ds ++ List.replicate (n - m.length) .no)) else .bad := by
  unfold fnD fn1 fn3 fn4; rfl
theorem fn1_ret (m : List Bool) (o : Op) (r : Ev) : fn1 m (.ret o r) = fn3 (iosAt m 0 r) o := id rfl
theorem fn1_nx (m : List Bool) (r : Ev) : fn1 m (.nx r) = fn3 (iosAt m 0 r) (.fz .non) := id rfl
theorem fn1_err (m : List Bool) (c : Str) (r : Ev) : fn1 m (.err c r) = fn4 (iosAt m 0 r) c := id rfl
theorem fn3_some (o : Op) (ios : List D) : fn3 (some ios) o = .ok o ios := id rfl
theorem fn4_some (c : Str) (ios : List D) : fn4 (some ios) c = .err c ios := id rfl
theorem iosAt_nil (k : Nat) (r : Ev) : iosAt [] k r = some [] := id rfl
theorem iosAt_f (m : List Bool) (k : Nat) (r : Ev) : iosAt (false :: m) k r = iosAt m (k + 1) r := id rfl
def ios1 (m : List Bool) (k : Nat) (r : Ev) (x : Option Sl) : Option (List D) := match x with
  | some (.ow true d) => rsvs2 d (iosAt m (k + 1) r)
  | _ => none
theorem iosAt_t (m : List Bool) (k : Nat) (r : Ev) : iosAt (true :: m) k r = ios1 m k r r[k]? := by
  unfold ios1 rsvs2; rfl
theorem ios1_ow (m : List Bool) (k : Nat) (r : Ev) (d : D) : ios1 m k r (some (.ow true d)) = rsvs2 d (iosAt m (k + 1) r) := id rfl
theorem argSl_f (m : List Bool) (d : D) (ds : List D) : argSl (false :: m) (d :: ds) = .va d :: argSl m ds := id rfl
theorem argSl_t (m : List Bool) (d : D) (ds : List D) : argSl (true :: m) (d :: ds) = .ow true d :: argSl m ds := id rfl
theorem argSl_nil (m : List Bool) : argSl m [] = [] := by cases m with
  | nil => rfl
  | cons b _ => cases b <;> rfl
theorem gAdd_i (i j : Int) : gAdd (.int i) (.int j) = some (.fz (.int (i + j))) := id rfl
theorem gAdd_t (x y : List D) : gAdd (.tup x) (.tup y) = if x.length + y.length ≤ SZ then some (.fz (.tup (x ++ y))) else none := id rfl
theorem gAdd_l (x y : List D) : gAdd (.lst x) (.lst y) = if x.length + y.length ≤ SZ then some (.tm (.lst (x ++ y))) else none := id rfl
theorem gSub_i (i j : Int) : gSub (.int i) (.int j) = some (.fz (.int (i - j))) := id rfl
theorem gIAdd_i (i j : Int) : gIAdd (.int i) (.int j) = some (.fz (.int (i + j))) := id rfl
theorem gLt_i (i j : Int) : gLtA (.int i) (.int j) = some (.fz (.bl (decide (i < j)))) := id rfl
theorem gLe_i (i j : Int) : gLeA (.int i) (.int j) = some (.fz (.bl (decide (i ≤ j)))) := id rfl
theorem gGt_i (i j : Int) : gGtA (.int i) (.int j) = some (.fz (.bl (decide (j < i)))) := id rfl
theorem gGe_i (i j : Int) : gGeA (.int i) (.int j) = some (.fz (.bl (decide (j ≤ i)))) := id rfl
theorem gMul_r {i j : Int} (h : j.natAbs < 2 ^ 64) : gMul (.int i) (.int j) = some (.fz (.int (i * j))) := by
  show (if mulOk i j then _ else _) = _
  rw [if_pos (.inr (.inl h))]
theorem gMul_l {i j : Int} (h : i.natAbs < 2 ^ 64) : gMul (.int i) (.int j) = some (.fz (.int (i * j))) := by
  show (if mulOk i j then _ else _) = _
  rw [if_pos (.inl h)]
theorem gMul_b {i j : Int} (h : mulOk i j) : gMul (.int i) (.int j) = some (.fz (.int (i * j))) := by
  show (if mulOk i j then _ else _) = _
  rw [if_pos h]
theorem gIMul_b {i j : Int} (h : mulOk i j) : gIMul (.int i) (.int j) = some (.fz (.int (i * j))) := by
  show (if mulOk i j then _ else _) = _
  rw [if_pos h]
theorem gMod_i {i j : Int} (h : j ≠ 0) : gMod (.int i) (.int j) = some (.fz (.int (i.fmod j))) := by
  unfold gMod
  exact if_pos h
theorem gFdiv_i {i j : Int} (h : j ≠ 0) (hl : j.natAbs < 2 ^ 8000) : gFdiv (.int i) (.int j) = some (.fz (.int (i.fdiv j))) := by
  show (if j ≠ 0 ∧ _ then _ else _) = _
  refine if_pos ⟨h, ?_⟩
  rcases Nat.eq_zero_or_pos j.natAbs with h0 | h0
  · rw [h0]; decide
  · exact Nat.lt_trans ((Nat.log2_lt (by omega)).mpr hl) (by decide)
theorem gFdiv_s {i j : Int} (h : j ≠ 0) (hl : j.natAbs < 2 ^ 64) : gFdiv (.int i) (.int j) = some (.fz (.int (i.fdiv j))) :=
  gFdiv_i h (Nat.lt_trans hl (Nat.pow_lt_pow_right (by decide) (by decide)))
theorem lit64 (n : Nat) (h : n < 18446744073709551616) : (n : Int).natAbs < 2 ^ 64 := h
def ix2 (o : Option D) : Option Op := match o with
  | some d => some (.fz d)
  | none => none
def ix1 (xs : List D) (o : Option Nat) : Option Op := match o with
  | some j => ix2 xs[j]?
  | none => none
theorem gIx_lst (xs : List D) (i : Int) : gIx (.lst xs) (.int i) = ix1 xs (ixI xs.length i) := id rfl
theorem gLen_lst (xs : List D) : gLen [.lst xs] = some (.fz (.int xs.length)) := id rfl
theorem gList_lst (xs : List D) : gList [.lst xs] = some (.tm (.lst xs)) := id rfl
theorem gIx_kls (xs : List D) (i : Int) : gIx (.kls xs) (.int i) = ix1 xs (ixI xs.length i) := id rfl
theorem gLen_kls (xs : List D) : gLen [.kls xs] = some (.fz (.int xs.length)) := id rfl
theorem gList_kls (xs : List D) : gList [.kls xs] = some (.tm (.lst xs)) := id rfl
theorem gIx_tup (xs : List D) (i : Int) : gIx (.tup xs) (.int i) = ix1 xs (ixI xs.length i) := id rfl
theorem gLen_tup (xs : List D) : gLen [.tup xs] = some (.fz (.int xs.length)) := id rfl
theorem gList_tup (xs : List D) : gList [.tup xs] = some (.tm (.lst xs)) := id rfl
theorem gIx_ktp (xs : List D) (i : Int) : gIx (.ktp xs) (.int i) = ix1 xs (ixI xs.length i) := id rfl
theorem gLen_ktp (xs : List D) : gLen [.ktp xs] = some (.fz (.int xs.length)) := id rfl
theorem gList_ktp (xs : List D) : gList [.ktp xs] = some (.tm (.lst xs)) := id rfl
theorem ix1_some (xs : List D) (j : Nat) : ix1 xs (some j) = ix2 xs[j]? := id rfl
theorem ix2_some (d : D) : ix2 (some d) = some (.fz d) := id rfl
theorem gSlice_lst (xs : List D) (lo hi : Option Int) : gSlice (.lst xs) lo hi = some (.tm (.lst (cutD xs lo hi))) := id rfl
theorem gSlice_kls (xs : List D) (lo hi : Option Int) : gSlice (.kls xs) lo hi = some (.tm (.lst (cutD xs lo hi))) := id rfl
theorem gSlice_tup (xs : List D) (lo hi : Option Int) : gSlice (.tup xs) lo hi = some (.fz (.tup (cutD xs lo hi))) := id rfl
theorem gTuple_tup (xs : List D) : gTuple [.tup xs] = some (.fz (.tup xs)) := id rfl
theorem gTuple_ktp (xs : List D) : gTuple [.ktp xs] = some (.fz (.ktp xs)) := id rfl
theorem gTuple_lst (xs : List D) : gTuple [.lst xs] = some (.fz (.tup xs)) := id rfl
theorem gTuple_kls (xs : List D) : gTuple [.kls xs] = some (.fz (.tup xs)) := id rfl
theorem gInt_i (i : Int) : gInt [.int i] = some (.fz (.int i)) := id rfl
theorem gAbs_i (i : Int) : gAbs [.int i] = some (.fz (.int (if i < 0 then -i else i))) := id rfl
theorem gNeg_i (i : Int) : gNeg (.int i) = some (.fz (.int (-i))) := id rfl
theorem gGcd_i (i j : Int) : gGcd [.int i, .int j] = some (.fz (.int ((Nat.gcd i.natAbs j.natAbs : Nat) : Int))) := id rfl
theorem gMax_i (i j : Int) : gMax [.int i, .int j] = some (.fz (.int (if i < j then j else i))) := id rfl
theorem gMin_i (i j : Int) : gMin [.int i, .int j] = some (.fz (.int (if j < i then j else i))) := id rfl
theorem natAbs_lit (n : Nat) : Int.natAbs (@OfNat.ofNat Int n _) = @OfNat.ofNat Nat n _ := rfl
theorem gIs_nn : gIs .non .non = some (.fz (.bl true)) := id rfl
theorem gIsNot_nn : gIsNot .non .non = some (.fz (.bl false)) := id rfl
theorem gIs_bb (a b : Bool) : gIs (.bl a) (.bl b) = some (.fz (.bl (a == b))) := id rfl
theorem gIs_intn (i : Int) : gIs (.int i) .non = some (.fz (.bl false)) := id rfl
theorem gIsNot_intn (i : Int) : gIsNot (.int i) .non = some (.fz (.bl true)) := id rfl
theorem gIs_strn (i : Str) : gIs (.str i) .non = some (.fz (.bl false)) := id rfl
theorem gIsNot_strn (i : Str) : gIsNot (.str i) .non = some (.fz (.bl true)) := id rfl
theorem gIs_tupn (i : List D) : gIs (.tup i) .non = some (.fz (.bl false)) := id rfl
theorem gIsNot_tupn (i : List D) : gIsNot (.tup i) .non = some (.fz (.bl true)) := id rfl
theorem gIs_lstn (i : List D) : gIs (.lst i) .non = some (.fz (.bl false)) := id rfl
theorem gIsNot_lstn (i : List D) : gIsNot (.lst i) .non = some (.fz (.bl true)) := id rfl
theorem gIs_klsn (i : List D) : gIs (.kls i) .non = some (.fz (.bl false)) := id rfl
theorem gIsNot_klsn (i : List D) : gIsNot (.kls i) .non = some (.fz (.bl true)) := id rfl
theorem gIs_ktpn (i : List D) : gIs (.ktp i) .non = some (.fz (.bl false)) := id rfl
theorem gIsNot_ktpn (i : List D) : gIsNot (.ktp i) .non = some (.fz (.bl true)) := id rfl
theorem gIs_bln (i : Bool) : gIs (.bl i) .non = some (.fz (.bl false)) := id rfl
theorem gIsNot_bln (i : Bool) : gIsNot (.bl i) .non = some (.fz (.bl true)) := id rfl
theorem gIs_dctn (i : List (DK × D)) : gIs (.dct i) .non = some (.fz (.bl false)) := id rfl
theorem gIsNot_dctn (i : List (DK × D)) : gIsNot (.dct i) .non = some (.fz (.bl true)) := id rfl
theorem gIs_dttn (i : List (List DK × D)) : gIs (.dtt i) .non = some (.fz (.bl false)) := id rfl
theorem gIsNot_dttn (i : List (List DK × D)) : gIsNot (.dtt i) .non = some (.fz (.bl true)) := id rfl
theorem gEq_ii (i j : Int) : gEq (.int i) (.int j) = some (.fz (.bl (decide (i = j)))) := by
  show (if okE (.int i) (.int j) = true then _ else _) = _
  rw [if_pos (by rfl)]
  show some (Op.fz (D.bl (i == j))) = _
  rw [show (i == j) = decide (i = j) from rfl]
theorem gNe_ii (i j : Int) : gNe (.int i) (.int j) = some (.fz (.bl (decide (i ≠ j)))) := by
  show (if okE (.int i) (.int j) = true then _ else _) = _
  rw [if_pos (by rfl)]
  show some (Op.fz (D.bl (!(i == j)))) = _
  rw [show (i == j) = decide (i = j) from rfl, decide_not]
theorem gNe_bb (i j : Bool) : gNe (.bl i) (.bl j) = some (.fz (.bl (!(i == j)))) := id rfl
theorem gEq_bb (i j : Bool) : gEq (.bl i) (.bl j) = some (.fz (.bl (i == j))) := id rfl
theorem dtr_bl (b : Bool) : dtr (.bl b) = some b := id rfl
theorem dtr_int (i : Int) : dtr (.int i) = some (i != 0) := id rfl
theorem dtr_non : dtr .non = some false := id rfl
theorem dtr_lst (xs : List D) : dtr (.lst xs) = some (!xs.isEmpty) := id rfl
theorem dtr_kls (xs : List D) : dtr (.kls xs) = some (!xs.isEmpty) := id rfl
theorem dtr_tup (xs : List D) : dtr (.tup xs) = some (!xs.isEmpty) := id rfl
theorem dtr_ktp (xs : List D) : dtr (.ktp xs) = some (!xs.isEmpty) := id rfl
theorem eIsi_K (t : TyN) (a : E) (r : Ev) : eIsi t a r = eUn (fun d => some (.fz (.bl (isD t d)))) a r := id rfl
def set5 (xs : List D) (v : D) (o : Option Nat) : Option D := match o with
  | some j => some (.lst (xs.set j v))
  | none => none
theorem gSet_lst (xs : List D) (i : Int) (v : D) : gSet (.lst xs) (.int i) v = set5 xs v (ixI xs.length i) := id rfl
theorem set5_some (xs : List D) (v : D) (j : Nat) : set5 xs v (some j) = some (.lst (xs.set j v)) := id rfl
theorem gAppend_K (xs : List D) (d : D) : gAppend (.lst xs) [d] = if xs.length < SZ then some (.lst (xs ++ [d]), .fz .non) else none := id rfl
theorem small0 : (0 : Nat) ≤ SZ := by unfold SZ; omega
theorem less0 : (0 : Nat) < SZ := by unfold SZ; omega
theorem small1 : (1 : Nat) ≤ SZ := by unfold SZ; omega
theorem less1 : (1 : Nat) < SZ := by unfold SZ; omega
theorem small2 : (2 : Nat) ≤ SZ := by unfold SZ; omega
theorem less2 : (2 : Nat) < SZ := by unfold SZ; omega
theorem small3 : (3 : Nat) ≤ SZ := by unfold SZ; omega
theorem less3 : (3 : Nat) < SZ := by unfold SZ; omega
theorem small4 : (4 : Nat) ≤ SZ := by unfold SZ; omega
theorem less4 : (4 : Nat) < SZ := by unfold SZ; omega
theorem small5 : (5 : Nat) ≤ SZ := by unfold SZ; omega
theorem less5 : (5 : Nat) < SZ := by unfold SZ; omega
theorem small6 : (6 : Nat) ≤ SZ := by unfold SZ; omega
theorem less6 : (6 : Nat) < SZ := by unfold SZ; omega
theorem small7 : (7 : Nat) ≤ SZ := by unfold SZ; omega
theorem less7 : (7 : Nat) < SZ := by unfold SZ; omega
theorem small8 : (8 : Nat) ≤ SZ := by unfold SZ; omega
theorem less8 : (8 : Nat) < SZ := by unfold SZ; omega
theorem small9 : (9 : Nat) ≤ SZ := by unfold SZ; omega
theorem less9 : (9 : Nat) < SZ := by unfold SZ; omega
theorem small10 : (10 : Nat) ≤ SZ := by unfold SZ; omega
theorem less10 : (10 : Nat) < SZ := by unfold SZ; omega
theorem small11 : (11 : Nat) ≤ SZ := by unfold SZ; omega
theorem less11 : (11 : Nat) < SZ := by unfold SZ; omega
theorem small12 : (12 : Nat) ≤ SZ := by unfold SZ; omega
theorem less12 : (12 : Nat) < SZ := by unfold SZ; omega
theorem small13 : (13 : Nat) ≤ SZ := by unfold SZ; omega
theorem less13 : (13 : Nat) < SZ := by unfold SZ; omega
theorem small14 : (14 : Nat) ≤ SZ := by unfold SZ; omega
theorem less14 : (14 : Nat) < SZ := by unfold SZ; omega
theorem small15 : (15 : Nat) ≤ SZ := by unfold SZ; omega
theorem less15 : (15 : Nat) < SZ := by unfold SZ; omega
theorem small16 : (16 : Nat) ≤ SZ := by unfold SZ; omega
theorem less16 : (16 : Nat) < SZ := by unfold SZ; omega
theorem isD_bool_non : isD .bool .non = false := id rfl
theorem isD_bool_bl (i : Bool) : isD .bool (.bl i) = true := id rfl
theorem isD_bool_int (i : Int) : isD .bool (.int i) = false := id rfl
theorem isD_bool_str (i : Str) : isD .bool (.str i) = false := id rfl
theorem isD_bool_tup (i : List D) : isD .bool (.tup i) = false := id rfl
theorem isD_bool_lst (i : List D) : isD .bool (.lst i) = false := id rfl
theorem isD_bool_kls (i : List D) : isD .bool (.kls i) = false := id rfl
theorem isD_bool_ktp (i : List D) : isD .bool (.ktp i) = false := id rfl
theorem isD_bool_dct (i : List (DK × D)) : isD .bool (.dct i) = false := id rfl
theorem isD_bool_dtt (i : List (List DK × D)) : isD .bool (.dtt i) = false := id rfl
theorem isD_int_non : isD .int .non = false := id rfl
theorem isD_int_bl (i : Bool) : isD .int (.bl i) = true := id rfl
theorem isD_int_int (i : Int) : isD .int (.int i) = true := id rfl
theorem isD_int_str (i : Str) : isD .int (.str i) = false := id rfl
theorem isD_int_tup (i : List D) : isD .int (.tup i) = false := id rfl
theorem isD_int_lst (i : List D) : isD .int (.lst i) = false := id rfl
theorem isD_int_kls (i : List D) : isD .int (.kls i) = false := id rfl
theorem isD_int_ktp (i : List D) : isD .int (.ktp i) = false := id rfl
theorem isD_int_dct (i : List (DK × D)) : isD .int (.dct i) = false := id rfl
theorem isD_int_dtt (i : List (List DK × D)) : isD .int (.dtt i) = false := id rfl
theorem isD_str_non : isD .str .non = false := id rfl
theorem isD_str_bl (i : Bool) : isD .str (.bl i) = false := id rfl
theorem isD_str_int (i : Int) : isD .str (.int i) = false := id rfl
theorem isD_str_str (i : Str) : isD .str (.str i) = true := id rfl
theorem isD_str_tup (i : List D) : isD .str (.tup i) = false := id rfl
theorem isD_str_lst (i : List D) : isD .str (.lst i) = false := id rfl
theorem isD_str_kls (i : List D) : isD .str (.kls i) = false := id rfl
theorem isD_str_ktp (i : List D) : isD .str (.ktp i) = false := id rfl
theorem isD_str_dct (i : List (DK × D)) : isD .str (.dct i) = false := id rfl
theorem isD_str_dtt (i : List (List DK × D)) : isD .str (.dtt i) = false := id rfl
theorem isD_list_non : isD .list .non = false := id rfl
theorem isD_list_bl (i : Bool) : isD .list (.bl i) = false := id rfl
theorem isD_list_int (i : Int) : isD .list (.int i) = false := id rfl
theorem isD_list_str (i : Str) : isD .list (.str i) = false := id rfl
theorem isD_list_tup (i : List D) : isD .list (.tup i) = false := id rfl
theorem isD_list_lst (i : List D) : isD .list (.lst i) = true := id rfl
theorem isD_list_kls (i : List D) : isD .list (.kls i) = true := id rfl
theorem isD_list_ktp (i : List D) : isD .list (.ktp i) = false := id rfl
theorem isD_list_dct (i : List (DK × D)) : isD .list (.dct i) = false := id rfl
theorem isD_list_dtt (i : List (List DK × D)) : isD .list (.dtt i) = false := id rfl
theorem isD_tuple_non : isD .tuple .non = false := id rfl
theorem isD_tuple_bl (i : Bool) : isD .tuple (.bl i) = false := id rfl
theorem isD_tuple_int (i : Int) : isD .tuple (.int i) = false := id rfl
theorem isD_tuple_str (i : Str) : isD .tuple (.str i) = false := id rfl
theorem isD_tuple_tup (i : List D) : isD .tuple (.tup i) = true := id rfl
theorem isD_tuple_lst (i : List D) : isD .tuple (.lst i) = false := id rfl
theorem isD_tuple_kls (i : List D) : isD .tuple (.kls i) = false := id rfl
theorem isD_tuple_ktp (i : List D) : isD .tuple (.ktp i) = true := id rfl
theorem isD_tuple_dct (i : List (DK × D)) : isD .tuple (.dct i) = false := id rfl
theorem isD_tuple_dtt (i : List (List DK × D)) : isD .tuple (.dtt i) = false := id rfl
theorem isD_dict_non : isD .dict .non = false := id rfl
theorem isD_dict_bl (i : Bool) : isD .dict (.bl i) = false := id rfl
theorem isD_dict_int (i : Int) : isD .dict (.int i) = false := id rfl
theorem isD_dict_str (i : Str) : isD .dict (.str i) = false := id rfl
theorem isD_dict_tup (i : List D) : isD .dict (.tup i) = false := id rfl
theorem isD_dict_lst (i : List D) : isD .dict (.lst i) = false := id rfl
theorem isD_dict_kls (i : List D) : isD .dict (.kls i) = false := id rfl
theorem isD_dict_ktp (i : List D) : isD .dict (.ktp i) = false := id rfl
theorem isD_dict_dct (i : List (DK × D)) : isD .dict (.dct i) = true := id rfl
theorem isD_dict_dtt (i : List (List DK × D)) : isD .dict (.dtt i) = true := id rfl
def tupr1 (x : EOut) : EOut := match x with
  | .ok (.fz (.int j)) r1 => if (-(2 ^ 62) ≤ j ∧ j < 2 ^ 62) ∧ j.toNat ≤ SZ then .ok (.fz (.tup (upFrom 0 j.toNat))) r1 else .bad
  | .ok _ _ => .bad
  | .err c r1 => .err c r1
  | .bad => .bad
theorem eTupR1_K (a : E) (r : Ev) : eTupR1 a r = tupr1 (a r) := id rfl
theorem tupr1_ok {j : Int} (r : Ev) (h0 : 0 ≤ j) (h1 : j < 4096) : tupr1 (.ok (.fz (.int j)) r) = .ok (.fz (.tup (upFrom 0 j.toNat))) r := by
  unfold tupr1
  exact if_pos ⟨by omega, by unfold SZ; omega⟩
theorem gRev_tup (xs : List D) : gRevA (.tup xs) = some (.fz (.tup xs.reverse)) := id rfl
def q1 (f : E) (r : Ev) (x : EOut) : EOut := match x with
  | .ok (.fz d) _ => if flatD d = true then .ok (.fz d) r else f r
  | .ok (.tm (.lst acc)) _ => if acc.all flatD = true then .ok (.tm (.lst acc)) r else f r
  | _ => f r
theorem eQ_K (f : E) (r : Ev) : eQ f r = q1 f r (f (frzAll r)) := id rfl
theorem q1_lst (f : E) (r r1 : Ev) (acc : List D) : q1 f r (.ok (.tm (.lst acc)) r1) = if acc.all flatD = true then .ok (.tm (.lst acc)) r else f r := id rfl
theorem frzAll_cons (s : Sl) (r : Ev) : frzAll (s :: r) = frzS s :: frzAll r := id rfl
theorem frzAll_nil : frzAll [] = [] := id rfl
theorem frzS_va (d : D) : frzS (.va d) = .va d := id rfl
theorem frzS_ow (b : Bool) (d : D) : frzS (.ow b d) = .va d := id rfl
theorem frzS_no : frzS .no = .no := id rfl
end DL.K
end

section
set_option autoImplicit false
set_option linter.all false
/-! DLR: rules for loops and comprehensions over typed rows. -/
namespace DL
open PySem
/-! ### rows of numbers -/
theorem upFrom_eq (lo : Int) : ∀ n : Nat, upFrom lo n = (List.range n).map fun (i : Nat) => D.int (lo + (i : Int))
  | 0 => rfl
  | n + 1 => by
    rw [upFrom, upFrom_eq (lo + 1) n, List.range_succ_eq_map, List.map_cons, List.map_map]
    congr 1
    · show D.int lo = D.int (lo + ((0 : Nat) : Int))
      rw [Int.natCast_zero, Int.add_zero]
    · refine List.map_congr_left fun i _ => ?_
      show D.int (lo + 1 + (i : Int)) = D.int (lo + ((i + 1 : Nat) : Int))
      rw [Int.natCast_add, Int.natCast_one, Int.add_assoc, Int.add_comm 1 (i : Int)]
theorem upFrom0 (n : Nat) : upFrom 0 n = (List.range n).map fun (i : Nat) => D.int (i : Int) := by
  rw [upFrom_eq]; exact List.map_congr_left fun i _ => by rw [Int.zero_add]
theorem upFromN (a n : Nat) : upFrom (a : Int) n = (List.range' a n).map fun (i : Nat) => D.int (i : Int) := by
  rw [upFrom_eq, List.range'_eq_map_range, List.map_map]
  exact List.map_congr_left fun i _ => by show D.int ((a : Int) + (i : Int)) = D.int ((a + i : Nat) : Int); rw [Int.natCast_add]
theorem upFromN1 (a n : Nat) : upFrom ((a : Int) + 1) n = (List.range' (a + 1) n).map fun (i : Nat) => D.int (i : Int) := upFromN (a + 1) n
theorem enumD_eq {β : Type} (g : β → D) : ∀ (xs : List β) (lo : Nat), enumD (lo : Int) (xs.map g) = (xs.zipIdx lo).map fun p => D.tup [.int (p.2 : Int), g p.1]
  | [], _ => rfl
  | x :: xs, lo => by
    rw [List.map_cons, enumD, List.zipIdx_cons, List.map_cons]
    congr 1
    exact enumD_eq g xs (lo + 1)
theorem enumD0 {β : Type} (g : β → D) (xs : List β) : enumD 0 (xs.map g) = xs.zipIdx.map fun p => D.tup [.int (p.2 : Int), g p.1] := enumD_eq g xs 0
theorem zipD_eq {α β : Type} (f : α → D) (g : β → D) : ∀ (xs : List α) (ys : List β), zipD (xs.map f) (ys.map g) = (xs.zip ys).map fun p => D.tup [f p.1, g p.2]
  | [], _ => by cases ‹List β› <;> rfl
  | _ :: _, [] => rfl
  | x :: xs, y :: ys => by
    rw [List.map_cons, List.map_cons, zipD, zipD_eq f g xs ys]; rfl

/-! ### for: a step on typed items; a left state goes on, a right one is the end -/
def foldS {α β ρ : Type} (step : α → β → α ⊕ ρ) : α → List β → α ⊕ ρ
  | a, [] => .inl a
  | a, x :: xs => match step a x with
    | .inl a' => foldS step a' xs
    | .inr q => .inr q
theorem for_fold {α β : Type} {t : Tg} {b : S} (R : α → Ev → Prop) (step : α → β → α) (g : β → D) : ∀ (xs : List β) (a : α) (r : Ev), R a r →
    (∀ x ∈ xs, ∀ a r, R a r → ∃ r1, t.put (g x) r = some r1 ∧ ∃ r2, (b r1 = .nx r2 ∨ b r1 = .cnt r2) ∧ R (step a x) r2) →
    ∃ r', forGo t b (xs.map g) r = .nx r' ∧ R (xs.foldl step a) r'
  | [], a, r, h, _ => ⟨r, K.forGo_nil _ _ _, h⟩
  | x :: xs, a, r, h, hs => by
    obtain ⟨r1, e1, r2, e2, h2⟩ := hs x List.mem_cons_self a r h
    obtain ⟨r3, e3, h3⟩ := for_fold R step g xs (step a x) r2 h2 fun y hy => hs y (List.mem_cons_of_mem _ hy)
    refine ⟨r3, ?_, h3⟩
    rw [List.map_cons, K.forGo_cons, e1, K.go0_some]
    rcases e2 with e | e
    · rw [e, K.go1_nx, e3]
    · rw [e, K.go1_cnt, e3]
/-- with an invariant over the items that are behind -/
theorem for_inv {β : Type} {t : Tg} {b : S} (g : β → D) (I : List β → Ev → Prop) (xs : List β) {r : Ev} (h0 : I [] r)
    (hs : ∀ (pre : List β) (x : β) (post : List β), xs = pre ++ x :: post → ∀ r, I pre r → ∃ r1, t.put (g x) r = some r1 ∧ ∃ r2, (b r1 = .nx r2 ∨ b r1 = .cnt r2) ∧ I (pre ++ [x]) r2) :
    ∃ r', forGo t b (xs.map g) r = .nx r' ∧ I xs r' := by
  suffices H : ∀ (ys pre : List β) (r : Ev), xs = pre ++ ys → I pre r → ∃ r', forGo t b (ys.map g) r = .nx r' ∧ I xs r' from H xs [] r rfl h0
  intro ys
  induction ys with
  | nil => intro pre r e h; rw [List.append_nil] at e; subst e; exact ⟨r, K.forGo_nil _ _ _, h⟩
  | cons x ys ih =>
    intro pre r e h
    obtain ⟨r1, e1, r2, e2, h2⟩ := hs pre x ys e r h
    obtain ⟨r3, e3, h3⟩ := ih (pre ++ [x]) r2 (by rw [e, List.append_assoc]; rfl) h2
    refine ⟨r3, ?_, h3⟩
    rw [List.map_cons, K.forGo_cons, e1, K.go0_some]
    rcases e2 with e | e
    · rw [e, K.go1_nx, e3]
    · rw [e, K.go1_cnt, e3]
/-- a loop that may end early -/
theorem for_stop {α β ρ : Type} {t : Tg} {b : S} (R : α → Ev → Prop) (O : ρ → SOut → Prop) (step : α → β → α ⊕ ρ) (g : β → D)
    (hO : ∀ q r, ¬ O q (.nx r) ∧ ¬ O q (.cnt r) ∧ ¬ O q (.brk r)) : ∀ (xs : List β) (a : α) (r : Ev), R a r →
    (∀ x ∈ xs, ∀ a r, R a r → ∃ r1, t.put (g x) r = some r1 ∧ match step a x with
      | .inl a' => ∃ r2, (b r1 = .nx r2 ∨ b r1 = .cnt r2) ∧ R a' r2
      | .inr q => O q (b r1)) →
    match foldS step a xs with
      | .inl a' => ∃ r', forGo t b (xs.map g) r = .nx r' ∧ R a' r'
      | .inr q => O q (forGo t b (xs.map g) r)
  | [], a, r, h, _ => ⟨r, K.forGo_nil _ _ _, h⟩
  | x :: xs, a, r, h, hs => by
    obtain ⟨r1, e1, h1⟩ := hs x List.mem_cons_self a r h
    unfold foldS
    cases q : step a x with
    | inl a' =>
      simp only [q] at h1
      obtain ⟨r2, e2, h2⟩ := h1
      have ih := for_stop R O step g hO xs a' r2 h2 fun y hy => hs y (List.mem_cons_of_mem _ hy)
      have e3 : forGo t b ((x :: xs).map g) r = forGo t b (xs.map g) r2 := by
        rw [List.map_cons, K.forGo_cons, e1, K.go0_some]
        rcases e2 with e | e
        · rw [e, K.go1_nx]
        · rw [e, K.go1_cnt]
      rw [e3]; exact ih
    | inr p =>
      simp only [q] at h1
      have e3 : forGo t b ((x :: xs).map g) r = b r1 := by
        rw [List.map_cons, K.forGo_cons, e1, K.go0_some]
        cases w : b r1 with
        | nx r2 => rw [w] at h1; exact absurd h1 (hO p r2).1
        | cnt r2 => rw [w] at h1; exact absurd h1 (hO p r2).2.1
        | brk r2 => rw [w] at h1; exact absurd h1 (hO p r2).2.2
        | ret o r2 => rfl
        | err c r2 => rfl
        | bad => rfl
      show O p _
      rw [e3]; exact h1
/-- a loop that gives back one value at the first item without p -/
theorem for_all {β : Type} {t : Tg} {b : S} (R : Ev → Prop) (d : D) (p : β → Bool) (g : β → D) : ∀ (xs : List β) (r : Ev), R r →
    (∀ x ∈ xs, ∀ r, R r → ∃ r1, t.put (g x) r = some r1 ∧ (p x = true → ∃ r2, (b r1 = .nx r2 ∨ b r1 = .cnt r2) ∧ R r2) ∧ (p x = false → ∃ r2, b r1 = .ret (.fz d) r2 ∧ R r2)) →
    (xs.all p = true → ∃ r', forGo t b (xs.map g) r = .nx r' ∧ R r') ∧ (xs.all p = false → ∃ r', forGo t b (xs.map g) r = .ret (.fz d) r' ∧ R r')
  | [], r, h, _ => ⟨fun _ => ⟨r, K.forGo_nil _ _ _, h⟩, fun h => by cases h⟩
  | x :: xs, r, h, hs => by
    obtain ⟨r1, e1, ht, hf⟩ := hs x List.mem_cons_self r h
    rw [List.all_cons]
    cases q : p x with
    | true =>
      obtain ⟨r2, e2, h2⟩ := ht q
      have ih := for_all R d p g xs r2 h2 fun y hy => hs y (List.mem_cons_of_mem _ hy)
      have e3 : forGo t b ((x :: xs).map g) r = forGo t b (xs.map g) r2 := by
        rw [List.map_cons, K.forGo_cons, e1, K.go0_some]
        rcases e2 with e | e
        · rw [e, K.go1_nx]
        · rw [e, K.go1_cnt]
      rw [e3, Bool.true_and]; exact ih
    | false =>
      obtain ⟨r2, e2, h2⟩ := hf q
      refine ⟨fun h => by simp at h, fun _ => ⟨r2, ?_, h2⟩⟩
      rw [List.map_cons, K.forGo_cons, e1, K.go0_some, e2]
      rfl
/-! ### while: a measure -/
theorem while_run {c : T} {b : S} (I : Nat → Ev → Prop) (Q : Ev → Prop)
    (h : ∀ n r, I n r → (∃ r1, c r = .ok false r1 ∧ Q r1) ∨ ∃ r1, c r = .ok true r1 ∧ ∃ r2 m, (b r1 = .nx r2 ∨ b r1 = .cnt r2) ∧ m < n ∧ I m r2) :
    ∀ n r, I n r → ∃ r', sWhile c b r = .nx r' ∧ Q r' := by
  have H : ∀ n r, I n r → ∃ k r', whN c b k r = .nx r' ∧ Q r' := by
    intro n
    induction n using Nat.strongRecOn with
    | ind n ih =>
      intro r hr
      rcases h n r hr with ⟨r1, e1, q⟩ | ⟨r1, e1, r2, m, e2, hm, h2⟩
      · exact ⟨1, r1, by rw [K.whN_K, e1]; rfl, q⟩
      · obtain ⟨k, r', e3, q⟩ := ih m hm r2 h2
        refine ⟨k + 1, r', ?_, q⟩
        rw [K.whN_K, e1, K.wh1_t]
        rcases e2 with e | e
        · rw [e, K.wh2_nx, e3]
        · rw [e]; exact e3
  intro n r hr
  obtain ⟨k, r', e, q⟩ := H n r hr
  exact ⟨r', sWhile_eq e (by exact nofun), q⟩
/-- a while that may end otherwise: O the ends that are wanted -/
theorem while_stop {c : T} {b : S} (I : Nat → Ev → Prop) (O : SOut → Prop)
    (h : ∀ n r, I n r → (∃ r1, c r = .ok false r1 ∧ O (.nx r1)) ∨ (∃ r1 x, c r = .ok true r1 ∧ O x ∧ ((∃ r2, b r1 = .brk r2 ∧ x = .nx r2) ∨ (b r1 = x ∧ ((∃ o r2, x = .ret o r2) ∨ ∃ e r2, x = .err e r2)))) ∨
      ∃ r1, c r = .ok true r1 ∧ ∃ r2 m, (b r1 = .nx r2 ∨ b r1 = .cnt r2) ∧ m < n ∧ I m r2) :
    ∀ n r, I n r → O (sWhile c b r) := by
  have H : ∀ n r, I n r → ∃ k x, whN c b k r = x ∧ x ≠ .bad ∧ O x := by
    intro n
    induction n using Nat.strongRecOn with
    | ind n ih =>
      intro r hr
      rcases h n r hr with ⟨r1, e1, q⟩ | ⟨r1, x, e1, q, e2⟩ | ⟨r1, e1, r2, m, e2, hm, h2⟩
      · exact ⟨1, .nx r1, by rw [K.whN_K, e1]; rfl, nofun, q⟩
      · refine ⟨1, x, ?_, ?_, q⟩
        · rw [K.whN_K, e1, K.wh1_t]
          rcases e2 with ⟨r2, e2, e3⟩ | ⟨e2, ⟨o, r2, e3⟩ | ⟨o, r2, e3⟩⟩
          · rw [e2, e3]; rfl
          · rw [e2, e3]; rfl
          · rw [e2, e3]; rfl
        · rcases e2 with ⟨r2, e2, e3⟩ | ⟨e2, ⟨o, r2, e3⟩ | ⟨o, r2, e3⟩⟩ <;> rw [e3] <;> exact nofun
      · obtain ⟨k, x, e3, q, o⟩ := ih m hm r2 h2
        refine ⟨k + 1, x, ?_, q, o⟩
        rw [K.whN_K, e1, K.wh1_t]
        rcases e2 with e | e
        · rw [e, K.wh2_nx, e3]
        · rw [e]; exact e3
  intro n r hr
  obtain ⟨k, x, e, hx, q⟩ := H n r hr
  rw [sWhile_eq e hx]; exact q
/-! ### comprehensions -/
theorem wipeE_lenR (r : Ev) : ∀ vs : List Nat, (wipeE r vs).length = r.length
  | [] => rfl
  | v :: vs => by rw [wipeE, List.length_set, wipeE_lenR r vs]
theorem wipeE_getR (r : Ev) : ∀ (vs : List Nat) (i : Nat), i ∉ vs → (wipeE r vs)[i]? = r[i]?
  | [], _, _ => rfl
  | v :: vs, i, h => by
    rw [wipeE, List.getElem?_set_ne (fun e => h (by rw [e]; exact List.mem_cons_self)), wipeE_getR r vs i (fun k => h (List.mem_cons_of_mem _ k))]
theorem backE_lenR (r0 r : Ev) : ∀ vs : List Nat, (backE r0 r vs).length = r.length
  | [] => rfl
  | v :: vs => by rw [backE, List.length_set, backE_lenR r0 r vs]
theorem backE_inR (r0 r : Ev) (hl : r.length = r0.length) : ∀ (vs : List Nat) (i : Nat), (i ∈ vs ∨ r[i]? = r0[i]?) → (backE r0 r vs)[i]? = r0[i]?
  | [], i, h => h.elim (fun k => by cases k) id
  | v :: vs, i, h => by
    rw [backE]
    by_cases e : v = i
    · subst e
      by_cases hv : v < r.length
      · rw [List.getElem?_set_self (by rw [backE_lenR]; exact hv), List.getD_eq_getElem?_getD, List.getElem?_eq_getElem (by omega)]; rfl
      · rw [List.getElem?_eq_none (by rw [List.length_set, backE_lenR]; omega), List.getElem?_eq_none (by omega)]
    · rw [List.getElem?_set_ne e]
      refine backE_inR r0 r hl vs i ?_
      rcases h with h | h
      · rcases List.mem_cons.mp h with k | k
        · exact absurd k.symm e
        · exact .inl k
      · exact .inr h
theorem backE_wipeR {r0 r : Ev} {vs : List Nat} (h : wipeE r vs = wipeE r0 vs) : backE r0 r vs = r0 := by
  have hl : r.length = r0.length := by rw [← wipeE_lenR r vs, h, wipeE_lenR]
  refine List.ext_getElem? fun i => backE_inR r0 r hl vs i ?_
  by_cases k : i ∈ vs
  · exact .inl k
  · exact .inr (by rw [← wipeE_getR r vs i k, h, wipeE_getR r0 vs i k])
theorem wipe2R (r : Ev) (vs : List Nat) : wipeE (wipeE r vs) vs = wipeE r vs := by
  refine List.ext_getElem? fun i => ?_
  by_cases k : i ∈ vs
  · have H : ∀ (us : List Nat) (r : Ev), i ∈ us → (wipeE r us)[i]? = if i < r.length then some .no else none := by
      intro us
      induction us with
      | nil => intro r h; cases h
      | cons v us ih =>
        intro r h
        rw [wipeE]
        by_cases e : v = i
        · subst e
          by_cases hv : v < r.length
          · rw [List.getElem?_set_self (by rw [wipeE_lenR]; exact hv), if_pos hv]
          · rw [List.getElem?_eq_none (by rw [List.length_set, wipeE_lenR]; omega), if_neg hv]
        · rw [List.getElem?_set_ne e]
          rcases List.mem_cons.mp h with q | q
          · exact absurd q.symm e
          · exact ih r q
    rw [H vs _ k, H vs _ k, wipeE_lenR]
  · rw [wipeE_getR _ vs i k]
/-- a comprehension whose parts may change what stands (draws) -/
theorem lc_inv {β : Type} {vs : List Nat} {t : Tg} {c : T} {e : E} {r0 : Ev} (g : β → D) (I : List D → Ev → Prop) : ∀ (xs : List β) (acc : List D) (r : Ev), I acc r → acc.length + xs.length ≤ SZ →
    (∀ x ∈ xs, ∀ acc r, I acc r → ∃ r1, t.put (g x) (wipeE r vs) = some r1 ∧ ∃ b r2, c r1 = .ok b r2 ∧ (b = false → I acc r2) ∧ (b = true → ∃ o r3 d r4, e r2 = .ok o r3 ∧ fzo r3 o = some (d, r4) ∧ I (acc ++ [d]) r4)) →
    ∃ ds r', lcGo vs t c e r0 (xs.map g) acc r = .ok (.tm (.lst ds)) (backE r0 r' vs) ∧ I ds r' ∧ ds.length ≤ acc.length + xs.length
  | [], acc, r, h, _, _ => ⟨acc, r, K.lcGo_nil _ _ _ _ _ _ _, h, by simp⟩
  | x :: xs, acc, r, h, hl, hx => by
    rw [List.length_cons] at hl
    obtain ⟨r1, e1, b, r2, e2, hf, ht⟩ := hx x List.mem_cons_self acc r h
    have rest : ∀ y ∈ xs, ∀ acc r, I acc r → _ := fun y hy => hx y (List.mem_cons_of_mem _ hy)
    cases b with
    | false =>
      obtain ⟨ds, r', e5, h5, l5⟩ := lc_inv g I xs acc r2 (hf rfl) (by omega) rest
      refine ⟨ds, r', ?_, h5, by rw [List.length_cons]; omega⟩
      rw [List.map_cons, lcGo, e1]
      dsimp only
      rw [e2]
      exact e5
    | true =>
      obtain ⟨o, r3, d, r4, e3, e4, h4⟩ := ht rfl
      obtain ⟨ds, r', e5, h5, l5⟩ := lc_inv g I xs (acc ++ [d]) r4 h4 (by rw [List.length_append, List.length_singleton]; omega) rest
      refine ⟨ds, r', ?_, h5, by rw [List.length_append, List.length_singleton] at l5; rw [List.length_cons]; omega⟩
      rw [List.map_cons, lcGo, e1]
      dsimp only
      rw [e2]
      dsimp only
      rw [e3]
      dsimp only
      rw [e4]
      dsimp only
      rw [if_pos (by omega)]
      exact e5
/-- a list comprehension over typed items: p which, h what -/
theorem lc_is {β : Type} {vs : List Nat} {t : Tg} {c : T} {e : E} {r0 : Ev} (g : β → D) (p : β → Bool) (h : β → D) (xs : List β) (hl : xs.length ≤ SZ)
    (hx : ∀ x ∈ xs, ∃ r1, t.put (g x) (wipeE r0 vs) = some r1 ∧ wipeE r1 vs = wipeE r0 vs ∧ c r1 = .ok (p x) r1 ∧ (p x = true → ∃ o, e r1 = .ok o r1 ∧ fzo r1 o = some (h x, r1))) :
    lcGo vs t c e r0 (xs.map g) [] r0 = .ok (.tm (.lst ((xs.filter p).map h))) r0 := by
  suffices H : ∀ (xs : List β) (acc : List D) (r : Ev), acc.length + xs.length ≤ SZ → wipeE r vs = wipeE r0 vs → (∀ x ∈ xs, ∃ r1, t.put (g x) (wipeE r0 vs) = some r1 ∧ wipeE r1 vs = wipeE r0 vs ∧ c r1 = .ok (p x) r1 ∧ (p x = true → ∃ o, e r1 = .ok o r1 ∧ fzo r1 o = some (h x, r1))) →
      lcGo vs t c e r0 (xs.map g) acc r = .ok (.tm (.lst (acc ++ (xs.filter p).map h))) r0 by
    rw [H xs [] r0 (by simpa using hl) rfl hx, List.nil_append]
  intro xs
  induction xs with
  | nil => intro acc r _ hw _; rw [List.map_nil, K.lcGo_nil, backE_wipeR hw, List.filter_nil, List.map_nil, List.append_nil]
  | cons x xs ih =>
    intro acc r hl hw hx
    obtain ⟨r1, e1, w1, e2, e3⟩ := hx x List.mem_cons_self
    have hl2 : acc.length + xs.length + 1 ≤ SZ := hl
    rw [List.map_cons, K.lcGo_cons, hw, e1, K.lc1_some, e2]
    cases q : p x with
    | false => rw [K.lc2_f, ih acc r1 (by omega) w1 fun y hy => hx y (List.mem_cons_of_mem _ hy), List.filter_cons_of_neg (by rw [q]; decide)]
    | true =>
      obtain ⟨o, e4, e5⟩ := e3 q
      rw [K.lc2_t, e4, K.lc3_ok, e5, K.lc4_some, if_pos (by omega), ih (acc ++ [h x]) r1 (by rw [List.length_append]; simp; omega) w1 fun y hy => hx y (List.mem_cons_of_mem _ hy), List.filter_cons_of_pos q, List.map_cons, List.append_assoc]; rfl
theorem dc_is {β : Type} {vs : List Nat} {t : Tg} {c : T} {k e : E} {r0 : Ev} (g : β → D) (p : β → Bool) (f : β → DK) (h : β → D) (xs : List β) (hl : xs.length ≤ SZ)
    (hx : ∀ x ∈ xs, ∃ r1, t.put (g x) (wipeE r0 vs) = some r1 ∧ wipeE r1 vs = wipeE r0 vs ∧ c r1 = .ok (p x) r1 ∧ (p x = true → ∃ o p2, k r1 = .ok o r1 ∧ e r1 = .ok p2 r1 ∧ (∃ d, rsv r1 o = some d ∧ keyD d = some (f x)) ∧ fzo r1 p2 = some (h x, r1))) :
    dcGo vs t c k e r0 (xs.map g) [] r0 = .ok (.tm (.dct ((xs.filter p).foldl (fun acc x => putD acc (f x) (h x)) []))) r0 := by
  have putD_len : ∀ (l : List (DK × D)) (a : DK) (d : D), (putD l a d).length ≤ l.length + 1 := by
    intro l a d
    induction l with
    | nil => exact Nat.le_refl _
    | cons q l ih =>
      obtain ⟨b, u⟩ := q
      unfold putD
      split
      · unfold setD; simp
      · simp; omega
  suffices H : ∀ (xs : List β) (acc : List (DK × D)) (r : Ev), acc.length + xs.length ≤ SZ → wipeE r vs = wipeE r0 vs → (∀ x ∈ xs, ∃ r1, t.put (g x) (wipeE r0 vs) = some r1 ∧ wipeE r1 vs = wipeE r0 vs ∧ c r1 = .ok (p x) r1 ∧ (p x = true → ∃ o p2, k r1 = .ok o r1 ∧ e r1 = .ok p2 r1 ∧ (∃ d, rsv r1 o = some d ∧ keyD d = some (f x)) ∧ fzo r1 p2 = some (h x, r1))) →
      dcGo vs t c k e r0 (xs.map g) acc r = .ok (.tm (.dct ((xs.filter p).foldl (fun acc x => putD acc (f x) (h x)) acc))) r0 by
    exact H xs [] r0 (by simpa using hl) rfl hx
  intro xs
  induction xs with
  | nil =>
    intro acc r _ hw _
    rw [List.map_nil, dcGo, backE_wipeR hw]; rfl
  | cons x xs ih =>
    intro acc r hl hw hx
    obtain ⟨r1, e1, w1, e2, e3⟩ := hx x List.mem_cons_self
    have hl2 : acc.length + xs.length + 1 ≤ SZ := hl
    rw [List.map_cons, dcGo, hw, e1]
    dsimp only
    rw [e2]
    cases q : p x with
    | false =>
      dsimp only
      rw [ih acc r1 (by omega) w1 fun y hy => hx y (List.mem_cons_of_mem _ hy), List.filter_cons_of_neg (by rw [q]; decide)]
    | true =>
      obtain ⟨o, p2, e4, e5, ⟨d, e6, e7⟩, e8⟩ := e3 q
      dsimp only
      rw [e4]; dsimp only
      rw [e5]; dsimp only
      rw [e6]; dsimp only
      rw [e7]; dsimp only
      rw [e8]; dsimp only
      rw [if_pos (by omega), ih _ r1 (by have := putD_len acc (f x) (h x); omega) w1 fun y hy => hx y (List.mem_cons_of_mem _ hy), List.filter_cons_of_pos q]; rfl
/-! ### dicts -/
theorem valD_set {κ : Type} [DecidableEq κ] (x y : κ) (e : D) : ∀ r : List (κ × D), valD (setD r x e) y = if x = y then (valD r y).map fun _ => e else valD r y
  | [] => by unfold setD valD; simp
  | (k, d) :: r => by
    have ih := valD_set x y e r
    unfold setD at ih ⊢
    rw [List.map_cons]
    by_cases h : k = x
    · subst h
      rw [if_pos rfl]
      unfold valD
      by_cases h2 : k = y
      · rw [if_pos h2, if_pos h2, if_pos h2]; rfl
      · rw [if_neg h2, if_neg h2, ih, if_neg h2]; simp [h2]
    · rw [if_neg (show ¬ ((k, d) : κ × D).1 = x from h)]
      unfold valD
      by_cases h2 : k = y
      · rw [if_pos h2, if_pos h2, if_neg (fun z => h (h2.trans z.symm))]
      · rw [if_neg h2, if_neg h2, ih]
theorem valD_put {κ : Type} [DecidableEq κ] (x y : κ) (e : D) : ∀ r : List (κ × D), valD (putD r x e) y = if x = y then some e else valD r y
  | [] => by unfold putD valD valD; by_cases h : x = y <;> simp [h]
  | (k, d) :: r => by
    unfold putD
    by_cases h : k = x
    · subst h
      rw [if_pos rfl]
      unfold valD
      by_cases h2 : k = y
      · rw [if_pos h2, if_pos h2]
      · rw [if_neg h2, if_neg h2, if_neg h2, valD_set, if_neg h2]
    · rw [if_neg h]
      unfold valD
      by_cases h2 : k = y
      · rw [if_pos h2, if_pos h2, if_neg (fun z => h (h2.trans z.symm))]
      · rw [if_neg h2, if_neg h2, valD_put x y e r]
theorem putD_new {κ : Type} [DecidableEq κ] (x : κ) (e : D) : ∀ r : List (κ × D), valD r x = none → putD r x e = r ++ [(x, e)]
  | [], _ => rfl
  | (k, d) :: r, h => by
    unfold valD at h
    by_cases h2 : k = x
    · rw [if_pos h2] at h; cases h
    · rw [if_neg h2] at h
      unfold putD
      rw [if_neg h2, putD_new x e r h]; rfl
end DL
end

section
set_option autoImplicit false
set_option linter.all false
/-! DLN: numbers and rows of numbers as data. -/
namespace DL
open PySem
abbrev nD (k : Nat) : D := .int (k : Int)
theorem upFrom_nD (n : Nat) : upFrom 0 n = (List.range n).map nD := upFrom0 n
theorem flat_nD (l : List Nat) : (l.map nD).all flatD = true := by
  rw [List.all_map]; exact List.all_eq_true.mpr fun _ _ => rfl
theorem any_nD (x : Nat) : ∀ l : List Nat, ((l.map nD).any fun z => eqD z (.int (x : Int))) = decide (x ∈ l)
  | [] => rfl
  | y :: l => by
    rw [List.map_cons, List.any_cons, any_nD x l]
    show (((y : Int) == (x : Int)) || _) = _
    by_cases h : y = x
    · subst h; simp
    · have h2 : ¬ (y : Int) = (x : Int) := by omega
      have h3 : ¬ x = y := fun z => h z.symm
      simp [h2, h3]
theorem gInA_of {x y : D} {o : Op} (h : gIn x y = some o) : gInA x y = some o := by unfold gInA; rw [h]; rfl
theorem gNotInA_of {x y : D} {o : Op} (h : gNotIn x y = some o) : gNotInA x y = some o := by unfold gNotInA; rw [h]; rfl
theorem gSortedE_of {ds : List D} {o : Op} (h : gSortedD ds = some o) : gSortedE ds = some o := by unfold gSortedE; rw [h]; rfl
theorem gIn_nD (x : Nat) (l : List Nat) : gInA (.int (x : Int)) (.lst (l.map nD)) = some (.fz (.bl (decide (x ∈ l)))) := by
  refine gInA_of ?_
  show (if flatD (.int (x : Int)) && (l.map nD).all flatD then some (Op.fz (D.bl ((l.map nD).any fun z => eqD z (.int (x : Int))))) else _) = _
  rw [if_pos (by rw [flat_nD]; rfl), any_nD]
theorem gIn_nDt (x : Nat) (l : List Nat) : gInA (.int (x : Int)) (.tup (l.map nD)) = some (.fz (.bl (decide (x ∈ l)))) := by
  refine gInA_of ?_
  show (if flatD (.int (x : Int)) && (l.map nD).all flatD then some (Op.fz (D.bl ((l.map nD).any fun z => eqD z (.int (x : Int))))) else _) = _
  rw [if_pos (by rw [flat_nD]; rfl), any_nD]
theorem gNotIn_nD (x : Nat) (l : List Nat) : gNotInA (.int (x : Int)) (.lst (l.map nD)) = some (.fz (.bl (!decide (x ∈ l)))) := by
  refine gNotInA_of ?_
  show (if flatD (.int (x : Int)) && (l.map nD).all flatD then some (Op.fz (D.bl (!(l.map nD).any fun z => eqD z (.int (x : Int))))) else _) = _
  rw [if_pos (by rw [flat_nD]; rfl), any_nD]
theorem gNotIn_nDt (x : Nat) (l : List Nat) : gNotInA (.int (x : Int)) (.tup (l.map nD)) = some (.fz (.bl (!decide (x ∈ l)))) := by
  refine gNotInA_of ?_
  show (if flatD (.int (x : Int)) && (l.map nD).all flatD then some (Op.fz (D.bl (!(l.map nD).any fun z => eqD z (.int (x : Int))))) else _) = _
  rw [if_pos (by rw [flat_nD]; rfl), any_nD]
theorem gIn_p (x a b : Nat) : gInA (.int (x : Int)) (.tup [.int (a : Int), .int (b : Int)]) = some (.fz (.bl (decide (x = a ∨ x = b)))) := by
  have := gIn_nDt x [a, b]
  simpa using this
theorem gNotIn_p (x a b : Nat) : gNotInA (.int (x : Int)) (.tup [.int (a : Int), .int (b : Int)]) = some (.fz (.bl (!decide (x = a ∨ x = b)))) := by
  have := gNotIn_nDt x [a, b]
  simpa using this
theorem okDs_nD (n : Nat) : ∀ l : List Nat, okDs n (l.map nD) = true
  | [] => by unfold okDs; rfl
  | x :: l => by rw [List.map_cons, okDs, okDs_nD n l]; cases n <;> rfl
theorem okD_nD (n : Nat) (l : List Nat) : okD (n + 1) (.lst (l.map nD)) = true := by unfold okD; exact okDs_nD n l
theorem gNe_nil (l : List Nat) : gNe (.lst (l.map nD)) (.lst []) = some (.fz (.bl (!l.isEmpty))) := by
  show (if okD 64 (.lst (l.map nD)) && okD 64 (.lst []) then some (Op.fz (.bl (!eqD (.lst (l.map nD)) (.lst [])))) else _) = _
  rw [if_pos (by rw [okD_nD]; rfl)]
  cases l <;> rfl
theorem gEq_nil (l : List Nat) : gEq (.lst (l.map nD)) (.lst []) = some (.fz (.bl l.isEmpty)) := by
  show (if okD 64 (.lst (l.map nD)) && okD 64 (.lst []) then some (Op.fz (.bl (eqD (.lst (l.map nD)) (.lst [])))) else _) = _
  rw [if_pos (by rw [okD_nD]; rfl)]
  cases l <;> rfl
/-! ### ascending rows -/
def insN (x : Nat) : List Nat → List Nat
  | [] => [x]
  | y :: r => if x ≤ y then x :: y :: r else y :: insN x r
def srt : List Nat → List Nat
  | [] => []
  | x :: r => insN x (srt r)
theorem insN_perm (x : Nat) : ∀ r : List Nat, (insN x r).Perm (x :: r)
  | [] => .refl _
  | y :: r => by
    unfold insN
    split
    · exact .refl _
    · exact ((insN_perm x r).cons y).trans (.swap x y r)
theorem srt_perm : ∀ r : List Nat, (srt r).Perm r
  | [] => .refl _
  | x :: r => (insN_perm x _).trans ((srt_perm r).cons x)
theorem insN_sorted (x : Nat) : ∀ r : List Nat, r.Pairwise (· ≤ ·) → (insN x r).Pairwise (· ≤ ·)
  | [], _ => by unfold insN; exact List.pairwise_singleton _ _
  | y :: r, h => by
    unfold insN
    rw [List.pairwise_cons] at h
    split
    · rename_i k
      refine List.pairwise_cons.mpr ⟨fun z hz => ?_, List.pairwise_cons.mpr h⟩
      rcases List.mem_cons.mp hz with e | e
      · subst e; exact k
      · exact Nat.le_trans k (h.1 z e)
    · rename_i k
      refine List.pairwise_cons.mpr ⟨fun z hz => ?_, insN_sorted x r h.2⟩
      rcases List.mem_cons.mp ((insN_perm x r).mem_iff.mp hz) with e | e
      · subst e; omega
      · exact h.1 z e
theorem srt_sorted : ∀ r : List Nat, (srt r).Pairwise (· ≤ ·)
  | [] => .nil
  | x :: r => insN_sorted x _ (srt_sorted r)
theorem srt_unique {a b : List Nat} (p : a.Perm b) (h : a.Pairwise (· ≤ ·)) (k : b.Pairwise (· ≤ ·)) : a = b :=
  p.eq_of_pairwise (fun _ _ _ _ h1 h2 => Nat.le_antisymm h1 h2) h k
theorem srt_congr {a b : List Nat} (p : a.Perm b) : srt a = srt b := srt_unique ((srt_perm a).trans (p.trans (srt_perm b).symm)) (srt_sorted a) (srt_sorted b)
theorem mem_srt {x : Nat} {l : List Nat} : x ∈ srt l ↔ x ∈ l := (srt_perm l).mem_iff
theorem srt_len (l : List Nat) : (srt l).length = l.length := (srt_perm l).length_eq
theorem srt_nodup {l : List Nat} (h : l.Nodup) : (srt l).Nodup := (srt_perm l).symm.nodup h
theorem insI_nat (x : Nat) : ∀ r : List Nat, insI (x : Int) (r.map fun (k : Nat) => (k : Int)) = (insN x r).map fun (k : Nat) => (k : Int)
  | [] => rfl
  | y :: r => by
    rw [List.map_cons, insI, insN]
    by_cases h : x ≤ y
    · rw [if_pos h, if_pos (by omega)]; rfl
    · rw [if_neg h, if_neg (by omega), insI_nat x r]; rfl
theorem sortI_nat : ∀ r : List Nat, sortI (r.map fun (k : Nat) => (k : Int)) = (srt r).map fun (k : Nat) => (k : Int)
  | [] => rfl
  | x :: r => by rw [List.map_cons, sortI, sortI_nat r, insI_nat]; rfl
theorem map_nD (l : List Nat) : l.map nD = (l.map fun (k : Nat) => (k : Int)).map D.int := by rw [List.map_map]; rfl
theorem gSorted_nD (l : List Nat) : gSortedE [.lst (l.map nD)] = some (.tm (.lst ((srt l).map nD))) := by
  rw [map_nD, K.gSortedD_lst, sortI_nat, map_nD]
theorem keysI_nD : ∀ l : List Nat, keysI (l.map fun (k : Nat) => (Sum.inl (k : Int) : DK)) = some (l.map fun (k : Nat) => (k : Int))
  | [] => rfl
  | x :: l => by rw [List.map_cons, keysI, keysI_nD l]; rfl
/-- same members, none twice: the same row, in order -/
theorem srt_ext {a b : List Nat} (ha : a.Nodup) (hb : b.Nodup) (h : ∀ x, x ∈ a ↔ x ∈ b) : srt a = srt b := srt_congr ((List.perm_ext_iff_of_nodup ha hb).mpr h)
theorem len_ext {a b : List Nat} (ha : a.Nodup) (hb : b.Nodup) (h : ∀ x, x ∈ a ↔ x ∈ b) : a.length = b.length := ((List.perm_ext_iff_of_nodup ha hb).mpr h).length_eq
theorem nodup_bound {l : List Nat} {n : Nat} (h : l.Nodup) (hb : ∀ x ∈ l, x < n) : l.length ≤ n := by
  have := h.length_le_of_subset (l₂ := List.range n) fun x hx => List.mem_range.mpr (hb x hx)
  simpa using this
/-! ### dicts from numbers to numbers -/
def kN (p : Nat × Nat) : DK × D := (.inl (p.1 : Int), .int (p.2 : Int))
def dD (kvs : List (Nat × Nat)) : D := .dct (kvs.map kN)
theorem valD_kN (x : Nat) : ∀ l : List (Nat × Nat), valD (l.map kN) (.inl (x : Int)) = (l.lookup x).map nD
  | [] => rfl
  | (k, v) :: l => by
    rw [List.map_cons]
    show (if (Sum.inl (k : Int) : DK) = .inl (x : Int) then some (D.int (v : Int)) else valD (l.map kN) (.inl (x : Int))) = _
    rw [List.lookup_cons]
    by_cases h : k = x
    · subst h; simp
    · have h2 : ¬ (Sum.inl (k : Int) : DK) = .inl (x : Int) := fun z => h (by injection z with z; omega)
      rw [if_neg h2, valD_kN x l, show (x == k) = false from beq_eq_false_iff_ne.mpr fun z => h z.symm]
theorem lookup_isSome {x : Nat} : ∀ {l : List (Nat × Nat)}, (l.lookup x).isSome = decide (x ∈ l.map (·.1))
  | [] => rfl
  | (k, v) :: l => by
    rw [List.lookup_cons, List.map_cons]
    by_cases h : x = k
    · subst h; simp
    · rw [show (x == k) = false from beq_eq_false_iff_ne.mpr h]
      simp only [lookup_isSome (l := l), List.mem_cons, h, false_or]
theorem lookup_none {x : Nat} {l : List (Nat × Nat)} (h : x ∉ l.map (·.1)) : l.lookup x = none := by
  have := lookup_isSome (x := x) (l := l)
  rw [decide_eq_false h] at this
  exact Option.not_isSome_iff_eq_none.mp (by rw [this]; decide)
theorem lookup_of_mem {x v : Nat} : ∀ {l : List (Nat × Nat)}, (l.map (·.1)).Nodup → (x, v) ∈ l → l.lookup x = some v
  | (k, u) :: l, h, m => by
    rw [List.map_cons, List.nodup_cons] at h
    rw [List.lookup_cons]
    rcases List.mem_cons.mp m with e | e
    · cases e; simp
    · have : ¬ x = k := fun z => h.1 (List.mem_map.mpr ⟨(x, v), e, z⟩)
      rw [show (x == k) = false from beq_eq_false_iff_ne.mpr this]
      exact lookup_of_mem h.2 e
theorem mem_of_lk {x v : Nat} : ∀ {l : List (Nat × Nat)}, l.lookup x = some v → (x, v) ∈ l
  | (k, u) :: l, h => by
    rw [List.lookup_cons] at h
    by_cases e : x = k
    · subst e; simp at h; subst h; exact List.mem_cons_self
    · rw [show (x == k) = false from beq_eq_false_iff_ne.mpr e] at h
      exact List.mem_cons_of_mem _ (mem_of_lk h)
theorem gIn_dD (x : Nat) (l : List (Nat × Nat)) : gInA (.int (x : Int)) (dD l) = some (.fz (.bl (decide (x ∈ l.map (·.1))))) := by
  unfold dD; rw [K.gIn_dct, valD_kN, Option.isSome_map, lookup_isSome]
theorem gNotIn_dD (x : Nat) (l : List (Nat × Nat)) : gNotInA (.int (x : Int)) (dD l) = some (.fz (.bl (!decide (x ∈ l.map (·.1))))) := by
  unfold dD; rw [K.gNotIn_dct, valD_kN, Option.isSome_map, lookup_isSome]
theorem gIx_dD {x v : Nat} {l : List (Nat × Nat)} (h : l.lookup x = some v) : gIx (dD l) (.int (x : Int)) = some (.fz (.int (v : Int))) := by
  unfold dD; rw [K.gIx_dct, valD_kN, h]; rfl
theorem gSet_dD_new {x : Nat} (v : Nat) {l : List (Nat × Nat)} (h : x ∉ l.map (·.1)) (hl : l.length < SZ) : gSet (dD l) (.int (x : Int)) (.int (v : Int)) = some (dD (l ++ [(x, v)])) := by
  unfold dD; rw [K.gSet_dct _ (by simpa using hl), putD_new _ _ _ (by rw [valD_kN, lookup_none h]; rfl)]
  show some (D.dct _) = some (D.dct ((l ++ [(x, v)]).map kN))
  rw [List.map_append]; rfl
theorem gSorted_dD (l : List (Nat × Nat)) : gSortedE [dD l] = some (.tm (.lst ((srt (l.map (·.1))).map nD))) := by
  refine gSortedE_of ?_
  show (match keysI ((l.map kN).map (·.1)) with | some ns => some (Op.tm (.lst ((sortI ns).map .int))) | none => none) = _
  rw [List.map_map, show ((fun x : DK × D => x.1) ∘ kN) = (fun (k : Nat) => (Sum.inl (k : Int) : DK)) ∘ (fun p : Nat × Nat => p.1) from rfl, ← List.map_map, keysI_nD]
  show some (Op.tm (.lst ((sortI ((l.map (·.1)).map fun (k : Nat) => (k : Int))).map .int))) = _
  rw [sortI_nat, map_nD]
theorem gLen_dD (l : List (Nat × Nat)) : gLen [dD l] = some (.fz (.int (l.length : Int))) := by
  unfold dD; rw [K.gLen_dct, List.length_map]
theorem isD_dD (t : TyN) (l : List (Nat × Nat)) : isD t (dD l) = (match t with | .dict => true | _ => false) := by cases t <;> rfl
theorem isK_dDva (l : List (Nat × Nat)) : isK (some (.va (dD l))) = true := rfl
theorem isK_dDow (b : Bool) (l : List (Nat × Nat)) : isK (some (.ow b (dD l))) = true := rfl
theorem kd1_dD (r : Ev) (l : List (Nat × Nat)) : K.kd1 r (some (.va (dD l))) = .ok ((l.map (·.1)).map nD) r := by
  show IOut.ok ((l.map kN).map fun p => kD p.1) r = _
  rw [List.map_map, List.map_map]; rfl
theorem dD_one (a b : Nat) : (.dct [(.inl (a : Int), .int (b : Int))] : D) = dD [(a, b)] := rfl
theorem gPopAt0 (x : D) (xs : List D) : gPopAt (.lst (x :: xs)) [.int 0] = some (.lst xs, .fz x) := by
  unfold gPopAt
  exact if_pos (by decide)
end DL
namespace DL
open PySem
theorem blsD_map : ∀ bs : List Bool, blsD (bs.map D.bl) = some bs
  | [] => rfl
  | b :: bs => by rw [List.map_cons, blsD, blsD_map bs]
theorem gAll_bl (bs : List Bool) : gAll [.lst (bs.map D.bl)] = some (.fz (.bl (bs.all id))) := by
  unfold gAll; simp only [blsD_map]
theorem gAny_bl (bs : List Bool) : gAny [.lst (bs.map D.bl)] = some (.fz (.bl (bs.any id))) := by
  unfold gAny; simp only [blsD_map]
theorem gAll_map {β : Type} (p : β → Bool) (xs : List β) : gAll [.lst (xs.map fun x => D.bl (p x))] = some (.fz (.bl (xs.all p))) := by
  have := gAll_bl (xs.map p)
  rw [List.map_map, List.all_map] at this
  exact this
end DL
namespace DL
open PySem
/-! ### rows of any data -/
theorem lc_filter {vs : List Nat} {t : Tg} {c : T} {e : E} {r0 : Ev} (p : D → Bool) (xs : List D) (hl : xs.length ≤ SZ)
    (hx : ∀ x ∈ xs, ∃ r1, t.put x (wipeE r0 vs) = some r1 ∧ wipeE r1 vs = wipeE r0 vs ∧ c r1 = .ok (p x) r1 ∧ (p x = true → ∃ o, e r1 = .ok o r1 ∧ fzo r1 o = some (x, r1))) :
    lcGo vs t c e r0 xs [] r0 = .ok (.tm (.lst (xs.filter p))) r0 := by
  have := lc_is (vs := vs) (t := t) (c := c) (e := e) (r0 := r0) (fun d : D => d) p (fun d => d) xs hl hx
  rw [List.map_id', List.map_id'] at this
  exact this
theorem gEq_X {x y : D} (hx : okX 60 x = true) (hy : okX 60 y = true) : gEq x y = some (.fz (.bl (eqD x y))) := by
  unfold gEq
  split
  · rfl
  · rw [hx, hy, if_pos (show (true && true) = true from rfl)]
theorem gNe_X {x y : D} (hx : okX 60 x = true) (hy : okX 60 y = true) : gNe x y = some (.fz (.bl (!eqD x y))) := by
  unfold gNe
  split
  · rfl
  · rw [hx, hy, if_pos (show (true && true) = true from rfl)]
theorem eqD_lnil (ys : List D) : eqD (.lst ys) (.lst []) = ys.isEmpty := by cases ys <;> rfl
theorem gEq_lnilX {ys : List D} (h : okXs 59 ys = true) : gEq (.lst ys) (.lst []) = some (.fz (.bl ys.isEmpty)) := by
  rw [gEq_X (show okX 60 (.lst ys) = true from h) rfl, eqD_lnil]
theorem gNe_lnilX {ys : List D} (h : okXs 59 ys = true) : gNe (.lst ys) (.lst []) = some (.fz (.bl (!ys.isEmpty))) := by
  rw [gNe_X (show okX 60 (.lst ys) = true from h) rfl, eqD_lnil]
theorem okXs_filter {n : Nat} {p : D → Bool} {xs : List D} (h : okXs n xs = true) : okXs n (xs.filter p) = true := okXs_iff.mpr fun d hd => okXs_iff.mp h d (List.mem_filter.mp hd).1
theorem gEq_lnil {ys : List D} (h : okDs 63 ys = true) : gEq (.lst ys) (.lst []) = some (.fz (.bl ys.isEmpty)) := by
  show (if okD 64 (.lst ys) && okD 64 (.lst []) then some (Op.fz (.bl (eqD (.lst ys) (.lst [])))) else _) = _
  have e : okD 64 (.lst ys) = true := h
  rw [if_pos (by rw [e]; rfl)]
  cases ys <;> rfl
theorem gNe_lnil {ys : List D} (h : okDs 63 ys = true) : gNe (.lst ys) (.lst []) = some (.fz (.bl (!ys.isEmpty))) := by
  show (if okD 64 (.lst ys) && okD 64 (.lst []) then some (Op.fz (.bl (!eqD (.lst ys) (.lst [])))) else _) = _
  have e : okD 64 (.lst ys) = true := h
  rw [if_pos (by rw [e]; rfl)]
  cases ys <;> rfl
theorem gEq_tnil {ys : List D} (h : okDs 63 ys = true) : gEq (.tup ys) (.tup []) = some (.fz (.bl ys.isEmpty)) := by
  show (if okD 64 (.tup ys) && okD 64 (.tup []) then some (Op.fz (.bl (eqD (.tup ys) (.tup [])))) else _) = _
  have e : okD 64 (.tup ys) = true := h
  rw [if_pos (by rw [e]; rfl)]
  cases ys <;> rfl
theorem okDs_filter {n : Nat} {p : D → Bool} {xs : List D} (h : okDs n xs = true) : okDs n (xs.filter p) = true := okDs_iff.mpr fun d hd => okDs_iff.mp h d (List.mem_filter.mp hd).1
theorem filter_empty {α : Type} (p : α → Bool) (xs : List α) : (xs.filter p).isEmpty = xs.all fun x => !p x := by
  induction xs with
  | nil => rfl
  | cons x xs ih =>
    rw [List.all_cons]
    cases h : p x
    · rw [List.filter_cons_of_neg (by rw [h]; decide), ih]; rfl
    · rw [List.filter_cons_of_pos h]; rfl
/-! ### pairs of numbers -/
def pD (p : Nat × Nat) : D := .tup [.int (p.1 : Int), .int (p.2 : Int)]
theorem eqD_pD (p q : Nat × Nat) : eqD (pD p) (pD q) = decide (p = q) := by
  show (((p.1 : Int) == (q.1 : Int)) && (((p.2 : Int) == (q.2 : Int)) && true)) = _
  by_cases h : p = q
  · subst h; simp
  · rw [decide_eq_false h]
    by_cases h1 : p.1 = q.1
    · have h2 : ¬ p.2 = q.2 := fun z => h (Prod.ext h1 z)
      have h3 : ¬ (p.2 : Int) = (q.2 : Int) := by omega
      simp [h3]
    · have h3 : ¬ (p.1 : Int) = (q.1 : Int) := by omega
      simp [h3]
theorem okDs_pD (n : Nat) : ∀ l : List (Nat × Nat), okDs (n + 1) (l.map pD) = true
  | [] => by unfold okDs; rfl
  | p :: l => by
    rw [List.map_cons, okDs, okDs_pD n l, Bool.and_true]
    show okDs n [.int (p.1 : Int), .int (p.2 : Int)] = true
    exact okDs_nD n [p.1, p.2]
theorem any_pD (p : Nat × Nat) (l : List (Nat × Nat)) : ((l.map pD).any fun z => eqD z (pD p)) = decide (p ∈ l) := by
  induction l with
  | nil => rfl
  | cons q l ih =>
    rw [List.map_cons, List.any_cons, ih, eqD_pD]
    by_cases h : q = p
    · subst h; simp
    · have h2 : ¬ p = q := fun z => h z.symm
      simp [h, h2]
theorem gIn_pD (p : Nat × Nat) (l : List (Nat × Nat)) : gInA (pD p) (.lst (l.map pD)) = some (.fz (.bl (decide (p ∈ l)))) := by
  refine gInA_of ?_
  have e : gIn (pD p) (.lst (l.map pD)) = if flatD (pD p) && (l.map pD).all flatD then some (.fz (.bl ((l.map pD).any fun z => eqD z (pD p)))) else if okD 64 (pD p) && okD 64 (.lst (l.map pD)) then some (.fz (.bl ((l.map pD).any fun z => eqD z (pD p)))) else none := rfl
  rw [e, show flatD (pD p) = false from rfl, Bool.false_and, if_neg (by decide), if_pos ?_, any_pD]
  show (okDs 63 [.int (p.1 : Int), .int (p.2 : Int)] && okDs 63 (l.map pD)) = true
  rw [okDs_pD 62 l, Bool.and_true]
  exact okDs_nD 63 [p.1, p.2]
theorem gNotIn_pD (p : Nat × Nat) (l : List (Nat × Nat)) : gNotInA (pD p) (.lst (l.map pD)) = some (.fz (.bl (!decide (p ∈ l)))) := by
  refine gNotInA_of ?_
  have e : gNotIn (pD p) (.lst (l.map pD)) = if flatD (pD p) && (l.map pD).all flatD then some (.fz (.bl (!(l.map pD).any fun z => eqD z (pD p)))) else if okD 64 (pD p) && okD 64 (.lst (l.map pD)) then some (.fz (.bl (!(l.map pD).any fun z => eqD z (pD p)))) else none := rfl
  rw [e, show flatD (pD p) = false from rfl, Bool.false_and, if_neg (by decide), if_pos ?_, any_pD]
  show (okDs 63 [.int (p.1 : Int), .int (p.2 : Int)] && okDs 63 (l.map pD)) = true
  rw [okDs_pD 62 l, Bool.and_true]
  exact okDs_nD 63 [p.1, p.2]
theorem gIn_pDt (p : Nat × Nat) (l : List (Nat × Nat)) : gInA (pD p) (.tup (l.map pD)) = some (.fz (.bl (decide (p ∈ l)))) := by
  have e : gIn (pD p) (.tup (l.map pD)) = if flatD (pD p) && (l.map pD).all flatD then some (.fz (.bl ((l.map pD).any fun z => eqD z (pD p)))) else none := rfl
  have e2 : inT false (pD p) (.tup (l.map pD)) = if okD 64 (pD p) && okD 64 (.tup (l.map pD)) then some (.fz (.bl ((l.map pD).any fun z => eqD z (pD p)))) else none := rfl
  unfold gInA
  rw [e, show flatD (pD p) = false from rfl, Bool.false_and, if_neg (by decide), Option.none_or, e2, if_pos ?_, any_pD]
  show (okDs 63 [.int (p.1 : Int), .int (p.2 : Int)] && okDs 63 (l.map pD)) = true
  rw [okDs_pD 62 l, Bool.and_true]
  exact okDs_nD 63 [p.1, p.2]
/-- neighbors in a row -/
theorem zip_all {α : Type} (q : α → α → Bool) (xs : List α) : (xs.zip xs.tail).all (fun p => q p.1 p.2) = true ↔ ∀ k (h : k + 1 < xs.length), q xs[k] xs[k + 1] = true := by
  rw [List.all_eq_true]
  constructor
  · intro h k hk
    refine h (xs[k], xs[k + 1]) ?_
    rw [List.mem_iff_getElem?]
    refine ⟨k, ?_⟩
    rw [List.getElem?_zip_eq_some]
    refine ⟨List.getElem?_eq_getElem (by omega), ?_⟩
    rw [List.getElem?_tail]
    exact List.getElem?_eq_getElem hk
  · intro h p hp
    obtain ⟨k, hk⟩ := List.mem_iff_getElem?.mp hp
    rw [List.getElem?_zip_eq_some] at hk
    obtain ⟨h1, h2⟩ := hk
    rw [List.getElem?_tail] at h2
    obtain ⟨a1, e1⟩ := List.getElem?_eq_some_iff.mp h1
    obtain ⟨a2, e2⟩ := List.getElem?_eq_some_iff.mp h2
    rw [← e1, ← e2]
    exact h k a2
end DL
end

section
/-! Printed by gen.py: what the defs of the text make of data. -/
set_option autoImplicit false
set_option linter.all false
set_option maxRecDepth 100000
noncomputable section
namespace TT
open DL PySem
def w__law_neighborhood_1 : S :=
  sSeq (sIf (tBl (eBin gEq (eBin gMod (eBin gFdiv (ePure gInt (aCons (eBin gIx (eName 0) (eBin gMod (ePure gInt (aCons (eName 4) (aNil))) (ePure gLen (aCons (eName 0) (aNil))))) (aNil))) (eBin gAdd (eC (.int 1)) (eBin gFdiv (eName 4) (ePure gLen (aCons (eName 0) (aNil)))))) (eC (.int 3))) (eC (.int 0))))
  (sExpr (eMut 3 gAppend (aCons (eTup (aCons (eName 5) (aCons (eName 6) (aNil)))) (aNil))))
  (sNext))
  (sSet 4 (eBin gAdd (eName 4) (eC (.int 1))))
def w__law_neighborhood_2 : S :=
  sFor (.one 6) (iRng2 (eBin gAdd (eName 5) (eC (.int 1))) (eName 2))
  (w__law_neighborhood_1)
def b__law_neighborhood : S :=
  sSeq (sSet 2 (eBin gMod (ePure gInt (aCons (eBin gIx (eName 0) (eC (.int 0))) (aNil))) (eBin gAdd (eName 1) (eC (.int 1)))))
  (sSeq (sSet 3 (eLst (aNil)))
  (sSeq (sSet 4 (eC (.int 1)))
  (sSeq (sFor (.one 5) (iRng1 (eName 2))
  (w__law_neighborhood_2))
  (sRet (eTup (aCons (eName 2) (aCons (ePure gTuple (aCons (eName 3) (aNil))) (aNil))))))))
def d__law_neighborhood : FD := fnD 7 [false, false] b__law_neighborhood
def t_near_1 : T :=
  tBl (eBin gInA (eName 1) (eTup (aCons (eName 2) (aCons (eName 3) (aNil)))))
def x_near_1 : E :=
  eBin gSub (eBin gAdd (eName 2) (eName 3)) (eName 1)
def b_near : S :=
  sRet (eLc [2, 3] (.many [2, 3]) (iSeq (eBin gIx (eName 0) (eC (.int 1)))) (t_near_1) (x_near_1))
def d_near : FD := fnD 4 [false, false] b_near
def t_thirds_1 : T :=
  tBl (eBin gInA (eName 4) (eName 3))
def b_thirds : S :=
  sSeq (sSet 3 (eCall [false, false] d_near (aCons (eName 0) (aCons (eName 2) (aNil)))))
  (sRet (ePure gSortedE (aCons (eLc [4] (.one 4) (iSeq (eCall [false, false] d_near (aCons (eName 0) (aCons (eName 1) (aNil))))) (t_thirds_1) (eName 4)) (aNil))))
def d_thirds : FD := fnD 5 [false, false, false] b_thirds
def w_code_separations_1 : S :=
  sIf (tOr (tBl (eBin gInA (eTup (aCons (eName 4) (aCons (eName 5) (aNil)))) (eName 2))) (tBl (eBin gNe (eCall [false, false, false] d_thirds (aCons (eName 0) (aCons (eName 4) (aCons (eName 5) (aNil))))) (eLst (aNil)))))
  (sExpr (eMut 3 gAppend (aCons (eTup (aCons (eName 4) (aCons (eName 5) (aCons (eC (.int 1)) (aNil))))) (aNil))))
  (sNext)
def w_code_separations_2 : S :=
  sFor (.one 5) (iRng2 (eBin gAdd (eName 4) (eC (.int 1))) (eName 1))
  (w_code_separations_1)
def b_code_separations : S :=
  sSeq (sUnp (.many [1, 2]) (eName 0))
  (sSeq (sSet 3 (eLst (aNil)))
  (sSeq (sFor (.one 4) (iRng1 (eName 1))
  (w_code_separations_2))
  (sRet (eTup (aCons (eName 1) (aCons (ePure gTuple (aCons (eName 3) (aNil))) (aNil)))))))
def d_code_separations : FD := fnD 6 [false] b_code_separations
def w__law_numbers_1 : S :=
  sIf (tAnd (tBl (eBin gGtA (eName 5) (eC (.int 0)))) (tBl (eBin gLtA (ePure gLen (aCons (eName 3) (aNil))) (eName 2))))
  (sSeq (sExpr (eMut 3 gAppend (aCons (eBin gMod (ePure gInt (aCons (eName 5) (aNil))) (eC (.int 4096))) (aNil))))
  (sSet 5 (eBin gFdiv (eName 5) (eC (.int 4096)))))
  (sNext)
def w__law_numbers_2 : S :=
  sSeq (sSet 5 (ePure gAbs (aCons (eBin gIx (eName 0) (eName 4)) (aNil))))
  (sIf (tBl (eBin gGeA (eName 5) (eC (.int 1000000000000000000))))
  (sFor (.one 6) (iRng1 (eC (.int 60)))
  (w__law_numbers_1))
  (sIf (tBl (eBin gLtA (ePure gLen (aCons (eName 3) (aNil))) (eName 2)))
  (sSeq (sSet 7 (eBin gMod (ePure gInt (aCons (eBin gAdd (eBin gAdd (eBin gMul (eName 5) (eC (.int 48271))) (eBin gMul (eName 4) (eC (.int 69621)))) (eC (.int 12345))) (aNil))) (eC (.int 2147483647))))
  (sSeq (sSet 7 (eBin gMod (ePure gInt (aCons (eBin gAdd (eBin gMul (eName 7) (eC (.int 69621))) (eBin gFdiv (eName 7) (eC (.int 1009)))) (aNil))) (eC (.int 1000003))))
  (sExpr (eMut 3 gAppend (aCons (eBin gMod (ePure gInt (aCons (eName 7) (aNil))) (eC (.int 4096))) (aNil))))))
  (sNext)))
def b__law_numbers : S :=
  sSeq (sSet 3 (eLst (aNil)))
  (sSeq (sFor (.one 4) (iRng2 (eName 1) (ePure gLen (aCons (eName 0) (aNil))))
  (w__law_numbers_2))
  (sRet (eName 3)))
def d__law_numbers : FD := fnD 8 [false, false, false] b__law_numbers
def b__law_cell : S :=
  sSeq (sIf (tBl (eBin gLtA (eName 1) (ePure gLen (aCons (eName 0) (aNil)))))
  (sRet (eBin gIx (eName 0) (eName 1)))
  (sNext))
  (sRet (eC (.int 0)))
def d__law_cell : FD := fnD 2 [false, false] b__law_cell
def x__law_equal_1 (self : FD) : E :=
  eCall [false, false] self (aCons (eBin gIx (eName 0) (eName 2)) (aCons (eBin gIx (eName 1) (eName 2)) (aNil)))
def x__law_equal_2 (self : FD) : E :=
  eAnd (eBin gInA (eName 3) (eName 0)) (eCall [false, false] self (aCons (eBin gIx (eName 0) (eName 3)) (aCons (eBin gIx (eName 1) (eName 3)) (aNil))))
def b__law_equal (self : FD) : S :=
  sSeq (sIf (tOr (tBl (eBin gNe (eIsi .bool (eName 0)) (eIsi .bool (eName 1)))) (tOr (tBl (eBin gNe (eIsi .int (eName 0)) (eIsi .int (eName 1)))) (tBl (eBin gNe (eIsi .str (eName 0)) (eIsi .str (eName 1))))))
  (sRet (eC (.bl false)))
  (sNext))
  (sSeq (sIf (tOr (tBl (eBin gNe (eIsi .list (eName 0)) (eIsi .list (eName 1)))) (tOr (tBl (eBin gNe (eIsi .tuple (eName 0)) (eIsi .tuple (eName 1)))) (tBl (eBin gNe (eIsi .dict (eName 0)) (eIsi .dict (eName 1))))))
  (sRet (eC (.bl false)))
  (sNext))
  (sSeq (sIf (tOr (tTru (eIsi .list (eName 1))) (tTru (eIsi .tuple (eName 1))))
  (sRet (eAnd (eBin gEq (ePure gLen (aCons (eName 0) (aNil))) (ePure gLen (aCons (eName 1) (aNil)))) (ePure gAll (aCons (eLc [2] (.one 2) (iRng1 (ePure gLen (aCons (eName 1) (aNil)))) (tYes) ((x__law_equal_1 self))) (aNil)))))
  (sNext))
  (sSeq (sIf (tTru (eIsi .dict (eName 1)))
  (sRet (eAnd (eBin gEq (ePure gLen (aCons (eName 0) (aNil))) (ePure gLen (aCons (eName 1) (aNil)))) (ePure gAll (aCons (eQ (eLcN [3] (.one 3) 1 (tYes) ((x__law_equal_2 self)))) (aNil)))))
  (sNext))
  (sRet (eBin gIs (eBin gEq (eName 0) (eName 1)) (eC (.bl true)))))))
def d__law_equal : Nat → FD
  | 0 => fun _ => .bad
  | n + 1 => fnD 4 [false, false] (b__law_equal (d__law_equal n))
def b__law_members : S :=
  sSeq (sIf (tOr (tTru (eIsi .list (eName 0))) (tOr (tTru (eIsi .tuple (eName 0))) (tTru (eIsi .dict (eName 0)))))
  (sRet (eQ (eLcN [1] (.one 1) 0 (tYes) (eName 1))))
  (sNext))
  (sRet (eLst (aNil)))
def d__law_members : FD := fnD 2 [false] b__law_members
def b_is_integer : S :=
  sRet (eAnd (eIsi .int (eName 0)) (eNotE (eIsi .bool (eName 0))))
def d_is_integer : FD := fnD 1 [false] b_is_integer
def b_is_pair : S :=
  sSeq (sIf (tOr (tNot (tTru (eIsi .tuple (eName 0)))) (tOr (tBl (eBin gNe (ePure gLen (aCons (eName 0) (aNil))) (eC (.int 2)))) (tOr (tNot (tTru (eCall [false] d_is_integer (aCons (eBin gIx (eName 0) (eC (.int 0))) (aNil))))) (tNot (tTru (eCall [false] d_is_integer (aCons (eBin gIx (eName 0) (eC (.int 1))) (aNil))))))))
  (sRet (eC (.bl false)))
  (sNext))
  (sRet (eCh (eC (.int 0)) (chLink gLeA (eBin gIx (eName 0) (eC (.int 0))) (chLink gLtA (eBin gIx (eName 0) (eC (.int 1))) (chLast gLtA (eName 1))))))
def d_is_pair : FD := fnD 2 [false, false] b_is_pair
def t_is_neighborhood_1 : T :=
  tNot (tTru (eCall [false, false] d_is_pair (aCons (eName 3) (aCons (eName 1) (aNil)))))
def t_is_neighborhood_2 : T :=
  tBl (eBin gGeA (eName 3) (eName 4))
def b_is_neighborhood : S :=
  sSeq (sIf (tOr (tNot (tTru (eIsi .tuple (eName 0)))) (tOr (tBl (eBin gNe (ePure gLen (aCons (eName 0) (aNil))) (eC (.int 2)))) (tNot (tTru (eCall [false] d_is_integer (aCons (eBin gIx (eName 0) (eC (.int 0))) (aNil)))))))
  (sRet (eC (.bl false)))
  (sNext))
  (sSeq (sUnp (.many [1, 2]) (eName 0))
  (sSeq (sIf (tOr (tNot (tBl (eCh (eC (.int 0)) (chLink gLeA (eName 1) (chLast gLeA (eC (.int 24))))))) (tNot (tTru (eIsi .tuple (eName 2)))))
  (sRet (eC (.bl false)))
  (sNext))
  (sSeq (sIf (tBl (eBin gNe (eLc [3] (.one 3) (iSeq (eName 2)) (t_is_neighborhood_1) (eName 3)) (eLst (aNil))))
  (sRet (eC (.bl false)))
  (sNext))
  (sRet (eBin gEq (eLc [3, 4] (.many [3, 4]) (iZip (eName 2) (eSlice (eName 2) (pSome (eC (.int 1))) (pNo))) (t_is_neighborhood_2) (eName 3)) (eLst (aNil)))))))
def d_is_neighborhood : FD := fnD 5 [false] b_is_neighborhood
def b__law_is_integer : S :=
  sRet (eAnd (eIsi .int (eName 0)) (eNotE (eIsi .bool (eName 0))))
def d__law_is_integer : FD := fnD 1 [false] b__law_is_integer
def b__law_odd : S :=
  sSeq (sSet 1 (eLst (aCons (eC .non) (aCons (eC (.bl true)) (aCons (eC (.int 0)) (aCons (eUn gNeg (eC (.int 1))) (aCons (eC (.str "full")) (aCons (eC (.str "")) (aCons (eTup (aNil)) (aCons (eLst (aNil)) (aCons (eNewK) (aCons (eTup (aCons (eC (.int 0)) (aNil))) (aCons (eTup (aCons (eC (.str "full")) (aCons (eC (.int 0)) (aNil)))) (aCons (eTup (aCons (eC (.str "clash")) (aCons (eC (.int 0)) (aCons (eC (.int 1)) (aNil))))) (aCons (eTup (aCons (eC (.str "split")) (aCons (eC (.int 0)) (aCons (eTup (aNil)) (aNil))))) (aCons (eLst (aCons (eC (.int 0)) (aCons (eC (.int 1)) (aNil)))) (aCons (eTup (aCons (eC (.str "cost")) (aNil))) (aNil))))))))))))))))))
  (sRet (eBin gIx (eName 1) (eBin gMod (ePure gInt (aCons (eName 0) (aNil))) (eC (.int 15)))))
def d__law_odd : FD := fnD 2 [false] b__law_odd
def b__law_bend (self : FD) : S :=
  sSeq (sSet 3 (ePure gInt (aCons (eBin gIx (eName 1) (eBin gMod (ePure gInt (aCons (eName 2) (aNil))) (ePure gLen (aCons (eName 1) (aNil))))) (aNil))))
  (sSeq (sIf (tAnd (tTru (eIsi .tuple (eName 0))) (tAnd (tBl (eBin gGtA (ePure gLen (aCons (eName 0) (aNil))) (eC (.int 0)))) (tBl (eBin gGtA (eBin gMod (ePure gInt (aCons (eName 3) (aNil))) (eC (.int 4))) (eC (.int 0))))))
  (sSeq (sSet 4 (eBin gMod (eBin gFdiv (eName 3) (eC (.int 4))) (ePure gLen (aCons (eName 0) (aNil)))))
  (sRet (eBin gAdd (eBin gAdd (eSlice (eName 0) (pNo) (pSome (eName 4))) (eTup (aCons (eCall [false, false, false] self (aCons (eBin gIx (eName 0) (eName 4)) (aCons (eName 1) (aCons (eBin gAdd (eName 2) (eC (.int 1))) (aNil))))) (aNil)))) (eSlice (eName 0) (pSome (eBin gAdd (eName 4) (eC (.int 1)))) (pNo)))))
  (sNext))
  (sSeq (sSet 5 (eBin gMod (eBin gFdiv (eName 3) (eC (.int 4))) (eC (.int 6))))
  (sSeq (sIf (tBl (eBin gEq (eName 5) (eC (.int 0))))
  (sRet (eCall [false] d__law_odd (aCons (eBin gFdiv (eName 3) (eC (.int 24))) (aNil))))
  (sNext))
  (sSeq (sIf (tTru (eCall [false] d__law_is_integer (aCons (eName 0) (aNil))))
  (sRet (eBin gAdd (eName 0) (eBin gIx (eLst (aCons (eC (.int 1)) (aCons (eUn gNeg (eC (.int 1))) (aCons (eC (.int 2)) (aNil))))) (eBin gMod (eBin gFdiv (eName 3) (eC (.int 24))) (eC (.int 3))))))
  (sNext))
  (sSeq (sIf (tOr (tNot (tTru (eIsi .tuple (eName 0)))) (tBl (eBin gEq (ePure gLen (aCons (eName 0) (aNil))) (eC (.int 0)))))
  (sRet (eBin gIx (eLst (aCons (eCall [false] d__law_odd (aCons (eBin gFdiv (eName 3) (eC (.int 24))) (aNil))) (aCons (eTup (aCons (eName 0) (aNil))) (aNil)))) (eBin gMod (ePure gInt (aCons (eName 5) (aNil))) (eC (.int 2)))))
  (sNext))
  (sSeq (sSet 4 (eBin gMod (eBin gFdiv (eName 3) (eC (.int 24))) (ePure gLen (aCons (eName 0) (aNil)))))
  (sSeq (sIf (tBl (eBin gEq (eName 5) (eC (.int 1))))
  (sRet (eBin gAdd (eSlice (eName 0) (pNo) (pSome (eName 4))) (eSlice (eName 0) (pSome (eBin gAdd (eName 4) (eC (.int 1)))) (pNo))))
  (sNext))
  (sSeq (sIf (tBl (eBin gEq (eName 5) (eC (.int 2))))
  (sRet (eBin gAdd (eName 0) (eSlice (eName 0) (pSome (eName 4)) (pSome (eBin gAdd (eName 4) (eC (.int 1)))))))
  (sNext))
  (sSeq (sIf (tBl (eBin gEq (eName 5) (eC (.int 3))))
  (sRet (ePure gList (aCons (eName 0) (aNil))))
  (sNext))
  (sRet (eUn gRevA (eName 0))))))))))))
def d__law_bend : Nat → FD
  | 0 => fun _ => .bad
  | n + 1 => fnD 6 [false, false, false] (b__law_bend (d__law_bend n))
def w__law_thirds_1 : S :=
  sSeq (sSet 5 (eBin gInA (eTup (aCons (ePure gMin (aCons (eName 1) (aCons (eName 4) (aNil)))) (aCons (ePure gMax (aCons (eName 1) (aCons (eName 4) (aNil)))) (aNil)))) (eBin gIx (eName 0) (eC (.int 1)))))
  (sIf (tAnd (tTru (eName 5)) (tBl (eBin gInA (eTup (aCons (ePure gMin (aCons (eName 2) (aCons (eName 4) (aNil)))) (aCons (ePure gMax (aCons (eName 2) (aCons (eName 4) (aNil)))) (aNil)))) (eBin gIx (eName 0) (eC (.int 1))))))
  (sExpr (eMut 3 gAppend (aCons (eName 4) (aNil))))
  (sNext))
def b__law_thirds : S :=
  sSeq (sSet 3 (eLst (aNil)))
  (sSeq (sFor (.one 4) (iRng1 (eBin gIx (eName 0) (eC (.int 0))))
  (w__law_thirds_1))
  (sRet (eName 3)))
def d__law_thirds : FD := fnD 6 [false, false, false] b__law_thirds
def w__law_is_assignment_1 : S :=
  sIf (tOr (tNot (tTru (eCall [false] d__law_is_integer (aCons (eName 3) (aNil))))) (tNot (tBl (eCh (eC (.int 0)) (chLink gLeA (eName 3) (chLast gLtA (eName 1)))))))
  (sRet (eC (.bl false)))
  (sNext)
def w__law_is_assignment_2 : S :=
  sIf (tBl (eBin gLtA (ePure gAbs (aCons (eBin gSub (eBin gIx (eName 2) (eName 4)) (eBin gIx (eName 2) (eName 5))) (aNil))) (eName 6)))
  (sRet (eC (.bl false)))
  (sNext)
def b__law_is_assignment : S :=
  sSeq (sIf (tOr (tNot (tTru (eIsi .tuple (eName 2)))) (tBl (eBin gNe (ePure gLen (aCons (eName 2) (aNil))) (eBin gIx (eName 0) (eC (.int 0))))))
  (sRet (eC (.bl false)))
  (sNext))
  (sSeq (sFor (.one 3) (iSeq (eName 2))
  (w__law_is_assignment_1))
  (sSeq (sFor (.many [4, 5, 6]) (iSeq (eBin gIx (eName 0) (eC (.int 1))))
  (w__law_is_assignment_2))
  (sRet (eC (.bl true)))))
def d__law_is_assignment : FD := fnD 7 [false, false, false] b__law_is_assignment
def t_collisions_1 : T :=
  tBl (eBin gEq (eBin gIx (eName 1) (eName 2)) (eBin gIx (eName 1) (eName 3)))
def x_collisions_1 : E :=
  eTup (aCons (eName 2) (aCons (eName 3) (aNil)))
def b_collisions : S :=
  sRet (eLc [2, 3] (.many [2, 3]) (iSeq (eBin gIx (eName 0) (eC (.int 1)))) (t_collisions_1) (x_collisions_1))
def d_collisions : FD := fnD 4 [false, false] b_collisions
def x_confusions_1 : E :=
  eTup (aCons (eName 3) (aCons (eName 4) (aCons (eName 5) (aNil))))
def w_confusions_1 : S :=
  sIf (tBl (eBin gEq (eBin gIx (eName 1) (eName 3)) (eBin gIx (eName 1) (eName 4))))
  (sExpr (eMut 2 gExtend (aCons (eLc [5] (.one 5) (iSeq (eCall [false, false, false] d_thirds (aCons (eName 0) (aCons (eName 3) (aCons (eName 4) (aNil)))))) (tYes) (x_confusions_1)) (aNil))))
  (sNext)
def w_confusions_2 : S :=
  sFor (.one 4) (iRng2 (eBin gAdd (eName 3) (eC (.int 1))) (eBin gIx (eName 0) (eC (.int 0))))
  (w_confusions_1)
def b_confusions : S :=
  sSeq (sSet 2 (eLst (aNil)))
  (sSeq (sFor (.one 3) (iRng1 (eBin gIx (eName 0) (eC (.int 0))))
  (w_confusions_2))
  (sRet (eName 2)))
def d_confusions : FD := fnD 6 [false, false] b_confusions
def w__law_is_neighborhood_1 : S :=
  sSeq (sIf (tOr (tNot (tTru (eIsi .tuple (eName 2)))) (tOr (tBl (eBin gNe (ePure gLen (aCons (eName 2) (aNil))) (eC (.int 2)))) (tOr (tNot (tTru (eCall [false] d__law_is_integer (aCons (eBin gIx (eName 2) (eC (.int 0))) (aNil))))) (tNot (tTru (eCall [false] d__law_is_integer (aCons (eBin gIx (eName 2) (eC (.int 1))) (aNil))))))))
  (sRet (eC (.bl false)))
  (sNext))
  (sSeq (sIf (tOr (tNot (tBl (eCh (eC (.int 0)) (chLink gLeA (eBin gIx (eName 2) (eC (.int 0))) (chLink gLtA (eBin gIx (eName 2) (eC (.int 1))) (chLast gLtA (eBin gIx (eName 0) (eC (.int 0))))))))) (tNot (tBl (eBin gLtA (eName 1) (eName 2)))))
  (sRet (eC (.bl false)))
  (sNext))
  (sSet 1 (eName 2)))
def b__law_is_neighborhood : S :=
  sSeq (sIf (tOr (tNot (tTru (eIsi .tuple (eName 0)))) (tOr (tBl (eBin gNe (ePure gLen (aCons (eName 0) (aNil))) (eC (.int 2)))) (tOr (tNot (tTru (eCall [false] d__law_is_integer (aCons (eBin gIx (eName 0) (eC (.int 0))) (aNil))))) (tNot (tBl (eCh (eC (.int 0)) (chLink gLeA (eBin gIx (eName 0) (eC (.int 0))) (chLast gLeA (eC (.int 24))))))))))
  (sRet (eC (.bl false)))
  (sNext))
  (sSeq (sIf (tNot (tTru (eIsi .tuple (eBin gIx (eName 0) (eC (.int 1))))))
  (sRet (eC (.bl false)))
  (sNext))
  (sSeq (sSet 1 (eTup (aCons (eUn gNeg (eC (.int 1))) (aCons (eUn gNeg (eC (.int 1))) (aNil)))))
  (sSeq (sFor (.one 2) (iSeq (eBin gIx (eName 0) (eC (.int 1))))
  (w__law_is_neighborhood_1))
  (sRet (eC (.bl true))))))
def d__law_is_neighborhood : FD := fnD 3 [false] b__law_is_neighborhood
def x_law_1 : E :=
  eBin gMod (eBin gFdiv (ePure gInt (aCons (eBin gIx (eName 1) (eBin gMod (ePure gInt (aCons (eName 17) (aNil))) (ePure gLen (aCons (eName 1) (aNil))))) (aNil))) (eC (.int 9))) (eBin gAdd (eC (.int 1)) (eBin gMod (ePure gInt (aCons (eName 3) (aNil))) (eC (.int 6))))
def x_law_2 : E :=
  eTup (aCons (eName 9) (aCons (eName 10) (aCons (eName 17) (aNil))))
def w_law_1 : S :=
  sSeq (sSet 11 (eCall [false, false, false] d__law_thirds (aCons (eName 2) (aCons (eName 9) (aCons (eName 10) (aNil))))))
  (sSeq (sIf (tOr (tBl (eBin gInA (eTup (aCons (eName 9) (aCons (eName 10) (aNil)))) (eBin gIx (eName 2) (eC (.int 1))))) (tBl (eBin gNe (eName 11) (eLst (aNil)))))
  (sExpr (eMut 6 gAppend (aCons (eTup (aCons (eName 9) (aCons (eName 10) (aCons (eC (.int 1)) (aNil))))) (aNil))))
  (sNext))
  (sIf (tBl (eBin gEq (eBin gIx (eName 5) (eName 9)) (eBin gIx (eName 5) (eName 10))))
  (sSeq (sIf (tBl (eBin gInA (eTup (aCons (eName 9) (aCons (eName 10) (aNil)))) (eBin gIx (eName 2) (eC (.int 1)))))
  (sExpr (eMut 7 gAppend (aCons (eTup (aCons (eName 9) (aCons (eName 10) (aNil)))) (aNil))))
  (sNext))
  (sSet 8 (eBin gAdd (eName 8) (eLc [17] (.one 17) (iSeq (eName 11)) (tYes) (x_law_2)))))
  (sNext)))
def w_law_2 : S :=
  sFor (.one 10) (iRng2 (eBin gAdd (eName 9) (eC (.int 1))) (eName 4))
  (w_law_1)
def w_law_3 : S :=
  sSeq (sSet 15 (eCall [false] d__law_members (aCons (eName 13) (aNil))))
  (sSeq (sSet 16 (eCall [false] d_is_neighborhood (aCons (eName 13) (aNil))))
  (sSeq (sIf (tBl (eBin gNe (eCall [false] d__law_members (aCons (eName 13) (aNil))) (eName 15)))
  (sRet (eC (.bl false)))
  (sNext))
  (sSeq (sIf (tOr (tNot (tTru (eIsi .bool (eName 16)))) (tNot (tTru (eCall [false, false] (d__law_equal 40) (aCons (eName 16) (aCons (eCall [false] d__law_is_neighborhood (aCons (eName 13) (aNil))) (aNil)))))))
  (sRet (eC (.bl false)))
  (sNext))
  (sSet 13 (eCall [false, false, false] (d__law_bend 40) (aCons (eName 13) (aCons (eName 1) (aCons (eBin gAdd (eBin gMod (eBin gFdiv (eName 3) (eC (.int 8))) (eC (.int 7))) (eBin gMul (eName 14) (eC (.int 3)))) (aNil)))))))))
def b_law : S :=
  sSeq (sSet 1 (eBin gAdd (eCall [false, false, false] d__law_numbers (aCons (eName 0) (aCons (eC (.int 1)) (aCons (eC (.int 34)) (aNil))))) (eLst (aCons (eC (.int 1)) (aCons (eC (.int 2)) (aCons (eC (.int 3)) (aNil)))))))
  (sSeq (sSet 2 (eCall [false, false] d__law_neighborhood (aCons (eName 1) (aCons (eC (.int 8)) (aNil)))))
  (sSeq (sSet 3 (ePure gAbs (aCons (eCall [false, false] d__law_cell (aCons (eName 0) (aCons (eC (.int 0)) (aNil)))) (aNil))))
  (sSeq (sSet 4 (eBin gIx (eName 2) (eC (.int 0))))
  (sSeq (sSet 5 (ePure gTuple (aCons (eLc [17] (.one 17) (iRng1 (eName 4)) (tYes) (x_law_1)) (aNil))))
  (sSeq (sSet 6 (eLst (aNil)))
  (sSeq (sSet 7 (eLst (aNil)))
  (sSeq (sSet 8 (eLst (aNil)))
  (sSeq (sFor (.one 9) (iRng1 (eName 4))
  (w_law_2))
  (sSeq (sSet 12 (eCall [false] d_code_separations (aCons (eName 2) (aNil))))
  (sSeq (sIf (tOr (tNot (tTru (eCall [false, false] (d__law_equal 40) (aCons (eName 12) (aCons (eTup (aCons (eName 4) (aCons (ePure gTuple (aCons (eName 6) (aNil))) (aNil)))) (aNil)))))) (tOr (tNot (tTru (eCall [false, false] (d__law_equal 40) (aCons (eCall [false, false] d_collisions (aCons (eName 2) (aCons (eName 5) (aNil)))) (aCons (eName 7) (aNil)))))) (tNot (tTru (eCall [false, false] (d__law_equal 40) (aCons (eCall [false, false] d_confusions (aCons (eName 2) (aCons (eName 5) (aNil)))) (aCons (eName 8) (aNil))))))))
  (sRet (eC (.bl false)))
  (sNext))
  (sSeq (sIf (tNot (tTru (eCall [false, false] (d__law_equal 40) (aCons (eCall [false, false, false] d__law_is_assignment (aCons (eName 12) (aCons (eC (.int 6)) (aCons (eName 5) (aNil))))) (aCons (eAnd (eBin gEq (eName 7) (eLst (aNil))) (eBin gEq (eName 8) (eLst (aNil)))) (aNil))))))
  (sRet (eC (.bl false)))
  (sNext))
  (sSeq (sIf (tOr (tBl (eBin gIsNot (eCall [false] d_is_neighborhood (aCons (eTup (aCons (eC (.int 24)) (aCons (eTup (aCons (eTup (aCons (eC (.int 22)) (aCons (eC (.int 23)) (aNil)))) (aNil))) (aNil)))) (aNil))) (eC (.bl true)))) (tBl (eBin gIsNot (eCall [false] d_is_neighborhood (aCons (eTup (aCons (eC (.int 25)) (aCons (eTup (aNil)) (aNil)))) (aNil))) (eC (.bl false)))))
  (sRet (eC (.bl false)))
  (sNext))
  (sSeq (sSet 13 (eName 2))
  (sSeq (sFor (.one 14) (iRng1 (eC (.int 4)))
  (w_law_3))
  (sRet (eC (.bl true)))))))))))))))))
def d_law : FD := fnD 18 [false] b_law
end TT
end
end

section
set_option autoImplicit false
set_option linter.all false
/-! GR: ways over pairs of nodes. No program in sight. -/
namespace GR
abbrev Es := List (Nat × Nat)
def Adj (E : Es) (u v : Nat) : Prop := (u, v) ∈ E ∨ (v, u) ∈ E
theorem Adj.symm {E : Es} {u v : Nat} (h : Adj E u v) : Adj E v u := h.elim .inr .inl
inductive Way (E : Es) (s : Nat) : Nat → Nat → Prop
  | zero : Way E s 0 s
  | step {k u v : Nat} : Way E s k u → Adj E u v → Way E s (k + 1) v
def Reach (E : Es) (s v : Nat) : Prop := ∃ k, Way E s k v
theorem Reach.refl {E : Es} {s : Nat} : Reach E s s := ⟨0, .zero⟩
theorem Reach.step {E : Es} {s u v : Nat} (h : Reach E s u) (a : Adj E u v) : Reach E s v := let ⟨k, w⟩ := h; ⟨k + 1, w.step a⟩
theorem Way.trans {E : Es} {s u : Nat} {k : Nat} (w : Way E s k u) : ∀ {j v : Nat}, Way E u j v → Way E s (k + j) v
  | _, _, .zero => w
  | _, _, .step w2 a => (w.trans w2).step a
theorem Reach.trans {E : Es} {s u v : Nat} (a : Reach E s u) (b : Reach E u v) : Reach E s v := let ⟨_, x⟩ := a; let ⟨_, y⟩ := b; ⟨_, x.trans y⟩
theorem Way.rev {E : Es} {s : Nat} : ∀ {k v : Nat}, Way E s k v → Reach E v s
  | _, _, .zero => .refl
  | _, _, .step w a => (Reach.step .refl a.symm).trans w.rev
theorem Reach.symm {E : Es} {s v : Nat} (h : Reach E s v) : Reach E v s := let ⟨_, w⟩ := h; w.rev
def Closed (E : Es) (P : Nat → Prop) : Prop := ∀ u v, P u → Adj E u v → P v
theorem Closed.reach {E : Es} {P : Nat → Prop} (c : Closed E P) {s : Nat} (h : P s) {v : Nat} (r : Reach E s v) : P v := by
  obtain ⟨k, w⟩ := r
  induction w with
  | zero => exact h
  | step w a ih => exact c _ _ ih a
theorem Reach.lt {E : Es} {n s v : Nat} (hE : ∀ p ∈ E, p.1 < n ∧ p.2 < n) (hs : s < n) (h : Reach E s v) : v < n :=
  Closed.reach (P := (· < n)) (fun u v _ a => a.elim (fun k => (hE _ k).2) fun k => (hE _ k).1) hs h
theorem Way.mono {E F : Es} (h : ∀ u v, Adj E u v → Adj F u v) {s : Nat} : ∀ {k v : Nat}, Way E s k v → Way F s k v
  | _, _, .zero => .zero
  | _, _, .step w a => (w.mono h).step (h _ _ a)
theorem Reach.mono {E F : Es} (h : ∀ u v, Adj E u v → Adj F u v) {s v : Nat} (r : Reach E s v) : Reach F s v := let ⟨k, w⟩ := r; ⟨k, w.mono h⟩
/-- the least number of links -/
def Dist (E : Es) (s v k : Nat) : Prop := Way E s k v ∧ ∀ j, Way E s j v → k ≤ j
theorem Dist.uniq {E : Es} {s v k j : Nat} (a : Dist E s v k) (b : Dist E s v j) : k = j := Nat.le_antisymm (a.2 j b.1) (b.2 k a.1)
theorem Dist.prev {E : Es} {s v k : Nat} (h : Dist E s v (k + 1)) : ∃ u, Dist E s u k := by
  obtain ⟨w, m⟩ := h
  cases w with
  | step w a => exact ⟨_, w, fun j wj => by have := m _ (wj.step a); omega⟩
/-- nodes of all lesser distances -/
theorem Dist.row {E : Es} {s : Nat} : ∀ {k v : Nat}, Dist E s v k → ∃ l : List Nat, l.Nodup ∧ l.length = k + 1 ∧ ∀ u ∈ l, ∃ j, j ≤ k ∧ Dist E s u j
  | 0, v, h => ⟨[v], by simp, rfl, fun u hu => by simp at hu; subst hu; exact ⟨0, Nat.le_refl _, h⟩⟩
  | k + 1, v, h => by
    obtain ⟨u, hu⟩ := h.prev
    obtain ⟨l, h1, h2, h3⟩ := Dist.row hu
    refine ⟨v :: l, List.nodup_cons.mpr ⟨fun m => ?_, h1⟩, by simp [h2], fun x hx => ?_⟩
    · obtain ⟨j, hj, d⟩ := h3 v m
      have := d.uniq h; omega
    · rcases List.mem_cons.mp hx with e | e
      · subst e; exact ⟨k + 1, Nat.le_refl _, h⟩
      · obtain ⟨j, hj, d⟩ := h3 x e
        exact ⟨j, by omega, d⟩
theorem Dist.lt {E : Es} {n s v k : Nat} (hE : ∀ p ∈ E, p.1 < n ∧ p.2 < n) (hs : s < n) (h : Dist E s v k) : k < n := by
  obtain ⟨l, h1, h2, h3⟩ := h.row
  have := DL.nodup_bound h1 (n := n) fun u hu => by
    obtain ⟨j, _, d⟩ := h3 u hu
    exact Reach.lt hE hs ⟨j, d.1⟩
  omega

/-! ### a visit of neighbors: new ones are kept with a value, and wait -/
abbrev KQ := List (Nat × Nat) × List Nat
def visit (x : Nat) (s : KQ) (w : Nat) : KQ := if w ∈ s.1.map (·.1) then s else (s.1 ++ [(w, x)], s.2 ++ [w])
theorem visit_all (x : Nat) : ∀ (ws : List Nat) (s : KQ), (s.1.map (·.1)).Nodup → ∃ news : List Nat, ws.foldl (visit x) s = (s.1 ++ news.map fun w => (w, x), s.2 ++ news) ∧ news.Nodup ∧ ∀ w, w ∈ news ↔ w ∈ ws ∧ w ∉ s.1.map (·.1)
  | [], s, _ => ⟨[], by simp, .nil, fun w => by simp⟩
  | w :: ws, s, h => by
    rw [List.foldl_cons]
    by_cases k : w ∈ s.1.map (·.1)
    · rw [show visit x s w = s from if_pos k]
      obtain ⟨news, e, h1, h2⟩ := visit_all x ws s h
      refine ⟨news, e, h1, fun v => ?_⟩
      rw [h2 v, List.mem_cons]
      refine ⟨fun ⟨a, b⟩ => ⟨.inr a, b⟩, fun ⟨a, b⟩ => ⟨?_, b⟩⟩
      rcases a with a | a
      · subst a; exact absurd k b
      · exact a
    · rw [show visit x s w = (s.1 ++ [(w, x)], s.2 ++ [w]) from if_neg k]
      obtain ⟨news, e, h1, h2⟩ := visit_all x ws (s.1 ++ [(w, x)], s.2 ++ [w]) (by
        show (List.map (·.1) (s.1 ++ [(w, x)])).Nodup
        rw [List.map_append, List.nodup_append]
        exact ⟨h, by simp, fun a ha b hb => by simp at hb; subst hb; exact fun z => k (z ▸ ha)⟩)
      have hw : w ∉ news := fun m => ((h2 w).mp m).2 (by simp)
      refine ⟨w :: news, by rw [e]; simp, List.nodup_cons.mpr ⟨hw, h1⟩, fun v => ?_⟩
      rw [List.mem_cons, h2 v, List.mem_cons]
      show _ ∨ (_ ∧ v ∉ List.map (·.1) (s.1 ++ [(w, x)])) ↔ _
      rw [List.map_append, List.mem_append]
      constructor
      · rintro (a | ⟨a, b⟩)
        · subst a; exact ⟨.inl rfl, k⟩
        · exact ⟨.inr a, fun z => b (.inl z)⟩
      · rintro ⟨a | a, b⟩
        · exact .inl a
        · by_cases q : v = w
          · exact .inl q
          · exact .inr ⟨a, fun z => z.elim b fun z => q (by simpa using z)⟩

/-! ### search in breadth, with the numbers of links -/
structure BfsI (E : Es) (n s : Nat) (kvs : List (Nat × Nat)) (qs : List (Nat × Nat)) : Prop where
  nd : (kvs.map (·.1)).Nodup
  root : (s, 0) ∈ kvs
  sub : ∀ p ∈ qs, p ∈ kvs
  ways : ∀ p ∈ kvs, Way E s p.2 p.1
  done : ∀ p ∈ kvs, p ∉ qs → ∀ w, Adj E p.1 w → ∃ k, (w, k) ∈ kvs ∧ k ≤ p.2 + 1
  ord : qs.Pairwise fun a b => a.2 ≤ b.2
  near : ∀ p ∈ kvs, ∀ u ∈ qs, p.2 ≤ u.2 + 1
  qnd : (qs.map (·.1)).Nodup
theorem BfsI.start {E : Es} {n s : Nat} : BfsI E n s [(s, 0)] [(s, 0)] where
  nd := by simp
  root := by simp
  sub := fun p h => h
  ways := fun p h => by simp at h; subst h; exact .zero
  done := fun p h k => absurd h k
  ord := by simp
  near := fun p h u k => by simp at h k; subst h k; exact Nat.zero_le _
  qnd := by simp
theorem BfsI.next {E : Es} {n s : Nat} {kvs qs : List (Nat × Nat)} {v f : Nat} (I : BfsI E n s kvs ((v, f) :: qs)) {news : List Nat} (h1 : news.Nodup) (h2 : ∀ w, w ∈ news ↔ Adj E v w ∧ w ∉ kvs.map (·.1)) :
    BfsI E n s (kvs ++ news.map fun w => (w, f + 1)) (qs ++ news.map fun w => (w, f + 1)) := by
  have hv := I.sub (v, f) List.mem_cons_self
  have hord := List.pairwise_cons.mp I.ord
  have disj : ∀ w ∈ news, w ∉ kvs.map (·.1) := fun w hw => ((h2 w).mp hw).2
  have mm : (news.map fun w => (w, f + 1)).map (·.1) = news := by rw [List.map_map]; exact List.map_id'' (fun _ => rfl) _
  refine ⟨?_, List.mem_append_left _ I.root, fun p hp => ?_, fun p hp => ?_, fun p hp hq w a => ?_, ?_, fun p hp u hu => ?_, ?_⟩
  · rw [List.map_append, mm, List.nodup_append]
    exact ⟨I.nd, h1, fun a ha b hb z => disj b hb (z ▸ ha)⟩
  · rcases List.mem_append.mp hp with h | h
    · exact List.mem_append_left _ (I.sub p (List.mem_cons_of_mem _ h))
    · exact List.mem_append_right _ h
  · rcases List.mem_append.mp hp with h | h
    · exact I.ways p h
    · obtain ⟨w, hw, rfl⟩ := List.mem_map.mp h
      exact (I.ways _ hv).step ((h2 w).mp hw).1
  · rw [List.mem_append, not_or] at hq
    rcases List.mem_append.mp hp with h | h
    · by_cases e : p = (v, f)
      · subst e
        by_cases k : w ∈ kvs.map (·.1)
        · obtain ⟨q, hq, e⟩ := List.mem_map.mp k
          refine ⟨q.2, List.mem_append_left _ (by rw [← e]; exact hq), I.near q hq _ List.mem_cons_self⟩
        · exact ⟨f + 1, List.mem_append_right _ (List.mem_map.mpr ⟨w, (h2 w).mpr ⟨a, k⟩, rfl⟩), Nat.le_refl _⟩
      · obtain ⟨k, h3, h4⟩ := I.done p h (fun z => (List.mem_cons.mp z).elim e hq.1) w a
        exact ⟨k, List.mem_append_left _ h3, h4⟩
    · exact absurd h hq.2
  · rw [List.pairwise_append]
    refine ⟨hord.2, ?_, fun a ha b hb => ?_⟩
    · rw [List.pairwise_map]
      exact List.Pairwise.imp (R := fun _ _ => True) (fun _ => Nat.le_refl _) (List.pairwise_of_forall (fun _ _ => trivial))
    · obtain ⟨w, _, rfl⟩ := List.mem_map.mp hb
      exact I.near a (I.sub a (List.mem_cons_of_mem _ ha)) _ List.mem_cons_self
  · have hle : f ≤ u.2 := by
      rcases List.mem_append.mp hu with k | k
      · exact hord.1 u k
      · obtain ⟨w, _, rfl⟩ := List.mem_map.mp k; exact Nat.le_succ f
    rcases List.mem_append.mp hp with h | h
    · exact Nat.le_trans (I.near p h _ List.mem_cons_self) (by show f + 1 ≤ _; omega)
    · obtain ⟨w, _, rfl⟩ := List.mem_map.mp h
      show f + 1 ≤ _; omega
  · rw [List.map_append, mm, List.nodup_append]
    have q := I.qnd
    rw [List.map_cons, List.nodup_cons] at q
    refine ⟨q.2, h1, fun a ha b hb z => disj b hb ?_⟩
    obtain ⟨p, hp, e⟩ := List.mem_map.mp ha
    exact List.mem_map.mpr ⟨p, I.sub p (List.mem_cons_of_mem _ hp), e.trans z⟩
theorem BfsI.dist {E : Es} {n s : Nat} {kvs : List (Nat × Nat)} (I : BfsI E n s kvs []) : (∀ p ∈ kvs, Dist E s p.1 p.2) ∧ ∀ v, Reach E s v → ∃ k, (v, k) ∈ kvs := by
  have key : ∀ k v, Way E s k v → ∃ j, (v, j) ∈ kvs ∧ j ≤ k := by
    intro k v w
    induction w with
    | zero => exact ⟨0, I.root, Nat.le_refl _⟩
    | step w a ih =>
      obtain ⟨j, hj, hl⟩ := ih
      obtain ⟨i, hi, h2⟩ := I.done _ hj (by simp) _ a
      exact ⟨i, hi, by have : i ≤ j + 1 := h2; omega⟩
  refine ⟨fun p hp => ⟨I.ways p hp, fun j w => ?_⟩, fun v ⟨k, w⟩ => let ⟨j, h, _⟩ := key k v w; ⟨j, h⟩⟩
  obtain ⟨i, hi, hl⟩ := key j p.1 w
  have e1 := DL.lookup_of_mem I.nd hi
  have e2 := DL.lookup_of_mem I.nd (show (p.1, p.2) ∈ kvs from hp)
  rw [e1] at e2; cases e2; exact hl

/-! ### search in breadth, the node before each -/
structure WfI (E : Es) (s : Nat) (kvs : List (Nat × Nat)) (q : List Nat) : Prop where
  nd : (kvs.map (·.1)).Nodup
  root : s ∈ kvs.map (·.1)
  sub : ∀ v ∈ q, v ∈ kvs.map (·.1)
  ways : ∀ v ∈ kvs.map (·.1), Reach E s v
  done : ∀ v ∈ kvs.map (·.1), v ∉ q → ∀ w, Adj E v w → w ∈ kvs.map (·.1)
  par : ∀ pre p post, kvs = pre ++ p :: post → (pre = [] ∧ p = (s, s)) ∨ (p.2 ∈ pre.map (·.1) ∧ Adj E p.2 p.1)
theorem WfI.start {E : Es} {s : Nat} : WfI E s [(s, s)] [s] where
  nd := by simp
  root := by simp
  sub := fun p h => h
  ways := fun p h => by simp at h; subst h; exact .refl
  done := fun p h k => absurd h k
  par := fun pre p post h => by
    cases pre with
    | nil => cases h; exact .inl ⟨rfl, rfl⟩
    | cons _ pre => cases pre <;> cases h
theorem WfI.next {E : Es} {s : Nat} {kvs : List (Nat × Nat)} {q : List Nat} {v : Nat} (I : WfI E s kvs (v :: q)) {news : List Nat} (h1 : news.Nodup) (h2 : ∀ w, w ∈ news ↔ Adj E v w ∧ w ∉ kvs.map (·.1)) :
    WfI E s (kvs ++ news.map fun w => (w, v)) (q ++ news) := by
  have mm : (news.map fun w => (w, v)).map (·.1) = news := by rw [List.map_map]; exact List.map_id'' (fun _ => rfl) _
  have hv := I.sub v List.mem_cons_self
  refine ⟨?_, ?_, fun p hp => ?_, fun p hp => ?_, fun p hp hq w a => ?_, fun pre p post e => ?_⟩
  · rw [List.map_append, mm, List.nodup_append]
    exact ⟨I.nd, h1, fun a ha b hb z => ((h2 b).mp hb).2 (z ▸ ha)⟩
  · rw [List.map_append]; exact List.mem_append_left _ I.root
  · rw [List.map_append, mm]
    rcases List.mem_append.mp hp with h | h
    · exact List.mem_append_left _ (I.sub p (List.mem_cons_of_mem _ h))
    · exact List.mem_append_right _ h
  · rw [List.map_append, mm] at hp
    rcases List.mem_append.mp hp with h | h
    · exact I.ways p h
    · exact (I.ways v hv).step ((h2 p).mp h).1
  · rw [List.map_append, mm] at hp ⊢
    rw [List.mem_append, not_or] at hq
    rcases List.mem_append.mp hp with h | h
    · by_cases e : p = v
      · subst e
        by_cases k : w ∈ kvs.map (·.1)
        · exact List.mem_append_left _ k
        · exact List.mem_append_right _ ((h2 w).mpr ⟨a, k⟩)
      · exact List.mem_append_left _ (I.done p h (fun z => (List.mem_cons.mp z).elim e hq.1) w a)
    · exact absurd h hq.2
  · rcases List.append_eq_append_iff.mp e with ⟨r, e1, e2⟩ | ⟨r, e1, e2⟩
    · have hp : p ∈ news.map fun w => (w, v) := by rw [e2]; simp
      obtain ⟨w, hw, rfl⟩ := List.mem_map.mp hp
      refine .inr ⟨?_, ((h2 w).mp hw).1⟩
      rw [e1, List.map_append]
      exact List.mem_append_left _ hv
    · cases r with
      | nil =>
        rw [List.nil_append] at e2
        have hp : p ∈ news.map fun w => (w, v) := by rw [← e2]; simp
        obtain ⟨w, hw, rfl⟩ := List.mem_map.mp hp
        refine .inr ⟨?_, ((h2 w).mp hw).1⟩
        rw [List.append_nil] at e1
        rw [← e1]; exact hv
      | cons q r =>
        cases e2
        exact I.par pre p r e1
theorem WfI.end {E : Es} {s : Nat} {kvs : List (Nat × Nat)} (I : WfI E s kvs []) (v : Nat) : v ∈ kvs.map (·.1) ↔ Reach E s v :=
  ⟨I.ways v, fun r => Closed.reach (P := (· ∈ kvs.map (·.1))) (fun u w h a => I.done u h (by simp) w a) I.root r⟩

/-! ### passes over the pairs -/
def addP (l : List Nat) (p : Nat × Nat) : List Nat := if p.1 ∈ l ∧ p.2 ∉ l then l ++ [p.2] else if p.2 ∈ l ∧ p.1 ∉ l then l ++ [p.1] else l
def pass (E : Es) (l : List Nat) : List Nat := E.foldl addP l
theorem addP_sub (l : List Nat) (p : Nat × Nat) : ∀ x ∈ l, x ∈ addP l p := fun x h => by
  unfold addP; split
  · exact List.mem_append_left _ h
  · split
    · exact List.mem_append_left _ h
    · exact h
theorem addP_both (l : List Nat) (p : Nat × Nat) : p.1 ∈ addP l p ↔ p.2 ∈ addP l p := by
  unfold addP; split
  · rename_i h; simp [h.1]
  · split
    · rename_i h; simp [h.1]
    · rename_i h k
      by_cases a : p.1 ∈ l <;> by_cases b : p.2 ∈ l
      · simp [a, b]
      · exact absurd ⟨a, b⟩ h
      · exact absurd ⟨b, a⟩ k
      · simp [a, b]
theorem pass_sub : ∀ (E : Es) (l : List Nat), ∀ x ∈ l, x ∈ pass E l
  | [], _, _, h => h
  | p :: E, l, x, h => pass_sub E (addP l p) x (addP_sub l p x h)
theorem addP_len (l : List Nat) (p : Nat × Nat) : addP l p = l ∨ l.length < (addP l p).length := by
  unfold addP; split
  · exact .inr (by simp)
  · split
    · exact .inr (by simp)
    · exact .inl rfl
theorem pass_len : ∀ (E : Es) (l : List Nat), l.length ≤ (pass E l).length
  | [], _ => Nat.le_refl _
  | p :: E, l => by
    have := pass_len E (addP l p)
    show l.length ≤ (pass E (addP l p)).length
    rcases addP_len l p with h | h
    · rw [h] at this ⊢; exact this
    · omega
theorem pass_fix : ∀ (E : Es) (l : List Nat), (pass E l).length = l.length → pass E l = l ∧ ∀ p ∈ E, p.1 ∈ l ↔ p.2 ∈ l
  | [], _, _ => ⟨rfl, fun p h => by cases h⟩
  | p :: E, l, h => by
    have h : (pass E (addP l p)).length = l.length := h
    have h2 := pass_len E (addP l p)
    have e : addP l p = l := by
      rcases addP_len l p with k | k
      · exact k
      · omega
    rw [e] at h
    obtain ⟨h3, h4⟩ := pass_fix E l h
    refine ⟨by show pass E (addP l p) = l; rw [e, h3], fun q hq => ?_⟩
    rcases List.mem_cons.mp hq with z | z
    · subst z; have := addP_both l q; rw [e] at this; exact this
    · exact h4 q z
/-- how many pairs lie within -/
def within (E : Es) (l : List Nat) : Nat := E.countP fun p => decide (p.1 ∈ l) && decide (p.2 ∈ l)
theorem within_mono (E : Es) {l m : List Nat} (h : ∀ x ∈ l, x ∈ m) : within E l ≤ within E m :=
  List.countP_mono_left fun p _ k => by
    rw [Bool.and_eq_true, decide_eq_true_eq, decide_eq_true_eq] at k ⊢
    exact ⟨h _ k.1, h _ k.2⟩
theorem within_pass : ∀ (E F : Es) (l : List Nat), (∀ p ∈ E, p ∈ F) → (pass E l).length = l.length ∨ within F l < within F (pass E l)
  | [], _, _, _ => .inl rfl
  | p :: E, F, l, h => by
    have hp := h p List.mem_cons_self
    rcases addP_len l p with k | k
    · have := within_pass E F l fun q hq => h q (List.mem_cons_of_mem _ hq)
      show (pass E (addP l p)).length = _ ∨ _ < within F (pass E (addP l p))
      rw [k]; exact this
    · refine .inr ?_
      show _ < within F (pass E (addP l p))
      refine Nat.lt_of_lt_of_le ?_ (within_mono F (pass_sub E (addP l p)))
      have hl : ¬ (p.1 ∈ l ∧ p.2 ∈ l) := fun ⟨a, b⟩ => by
        unfold addP at k
        rw [if_neg (fun z => z.2 b), if_neg (fun z => z.2 a)] at k
        omega
      have ha : p.1 ∈ addP l p ∧ p.2 ∈ addP l p := by
        have hb := addP_both l p
        unfold addP at k hb ⊢
        by_cases c : p.1 ∈ l ∧ p.2 ∉ l
        · rw [if_pos c]; simp [c.1]
        · rw [if_neg c] at k ⊢
          by_cases d : p.2 ∈ l ∧ p.1 ∉ l
          · rw [if_pos d]; simp [d.1]
          · rw [if_neg d] at k; omega
      have gen : ∀ (F : Es), p ∈ F → within F l < within F (addP l p) := by
        intro F
        induction F with
        | nil => intro h; cases h
        | cons q F ih =>
          intro hm
          unfold within at ih ⊢
          rw [List.countP_cons, List.countP_cons]
          have mono := within_mono F (addP_sub l p)
          unfold within at mono
          have m1 : (if (decide (q.1 ∈ l) && decide (q.2 ∈ l)) = true then 1 else 0) ≤ (if (decide (q.1 ∈ addP l p) && decide (q.2 ∈ addP l p)) = true then 1 else 0) := by
            split
            · rename_i z
              rw [Bool.and_eq_true, decide_eq_true_eq, decide_eq_true_eq] at z
              rw [if_pos (by rw [Bool.and_eq_true, decide_eq_true_eq, decide_eq_true_eq]; exact ⟨addP_sub l p _ z.1, addP_sub l p _ z.2⟩)]
              exact Nat.le_refl _
            · exact Nat.zero_le _
          rcases List.mem_cons.mp hm with e | e
          · subst e
            rw [if_neg (by rw [Bool.and_eq_true, decide_eq_true_eq, decide_eq_true_eq]; exact hl), if_pos (by rw [Bool.and_eq_true, decide_eq_true_eq, decide_eq_true_eq]; exact ha)]
            omega
          · have := ih e
            omega
      exact gen F hp
theorem within_le (E : Es) (l : List Nat) : within E l ≤ E.length := List.countP_le_length
def passes (E : Es) : Nat → List Nat → List Nat
  | 0, l => l
  | t + 1, l => passes E t (pass E l)
theorem passes_fix {E : Es} {l : List Nat} (h : pass E l = l) : ∀ t, passes E t l = l
  | 0 => rfl
  | t + 1 => by rw [passes, h, passes_fix h t]
theorem passes_closed (E : Es) : ∀ (t : Nat) (l : List Nat), E.length < t + within E l → ∀ p ∈ E, p.1 ∈ passes E t l ↔ p.2 ∈ passes E t l
  | 0, l, h => by have := within_le E l; omega
  | t + 1, l, h => by
    rcases within_pass E E l (fun _ h => h) with k | k
    · obtain ⟨e, c⟩ := pass_fix E l k
      rw [passes, e, passes_fix e]; exact c
    · rw [passes]; exact passes_closed E t (pass E l) (by omega)
theorem addP_nd {l : List Nat} (h : l.Nodup) (p : Nat × Nat) : (addP l p).Nodup := by
  have H : ∀ x, x ∉ l → (l ++ [x]).Nodup := fun x hx => List.nodup_append.mpr ⟨h, by simp, fun a ha b hb z => by simp at hb; subst hb; exact hx (z ▸ ha)⟩
  unfold addP; split
  · rename_i k; exact H _ k.2
  · split
    · rename_i k; exact H _ k.2
    · exact h
theorem pass_nd : ∀ (E : Es) {l : List Nat}, l.Nodup → (pass E l).Nodup
  | [], _, h => h
  | p :: E, _, h => pass_nd E (addP_nd h p)
theorem pass_reach {E : Es} {s : Nat} : ∀ (F : Es) {l : List Nat}, (∀ p ∈ F, p ∈ E) → (∀ x ∈ l, Reach E s x) → ∀ x ∈ pass F l, Reach E s x
  | [], _, _, h => h
  | p :: F, l, hF, h => pass_reach F (fun q hq => hF q (List.mem_cons_of_mem _ hq)) fun x hx => by
    have hp := hF p List.mem_cons_self
    unfold addP at hx
    split at hx
    · rename_i k
      rcases List.mem_append.mp hx with z | z
      · exact h x z
      · simp at z; subst z; exact (h _ k.1).step (.inl hp)
    · split at hx
      · rename_i k
        rcases List.mem_append.mp hx with z | z
        · exact h x z
        · simp at z; subst z; exact (h _ k.1).step (.inr hp)
      · exact h x hx
theorem passes_nd (E : Es) : ∀ (t : Nat) {l : List Nat}, l.Nodup → (passes E t l).Nodup
  | 0, _, h => h
  | t + 1, _, h => passes_nd E t (pass_nd E h)
theorem passes_reach {E : Es} {s : Nat} : ∀ (t : Nat) {l : List Nat}, (∀ x ∈ l, Reach E s x) → ∀ x ∈ passes E t l, Reach E s x
  | 0, _, h => h
  | t + 1, _, h => passes_reach t (pass_reach E (fun _ h => h) h)
theorem passes_sub (E : Es) : ∀ (t : Nat) (l : List Nat), ∀ x ∈ l, x ∈ passes E t l
  | 0, _, _, h => h
  | t + 1, l, x, h => passes_sub E t (pass E l) x (pass_sub E l x h)
/-- the law's part: exactly what can be reached -/
theorem part_mem (E : Es) (s v : Nat) : v ∈ passes E (E.length + 1) [s] ↔ Reach E s v := by
  refine ⟨passes_reach _ (fun x hx => by simp at hx; subst hx; exact .refl) v, fun r => ?_⟩
  have c := passes_closed E (E.length + 1) [s] (by omega)
  refine Closed.reach (P := (· ∈ passes E (E.length + 1) [s])) (fun u w h a => ?_) (passes_sub E _ _ s (by simp)) r
  rcases a with a | a
  · exact (c _ a).mp h
  · exact (c _ a).mpr h
theorem part_nd (E : Es) (s : Nat) : (passes E (E.length + 1) [s]).Nodup := passes_nd E _ (by simp)
end GR
end

section
set_option autoImplicit false
set_option linter.all false
set_option maxRecDepth 20000
local macro_rules | `(tactic| push_cast [$ls,*]) => `(tactic| simp only [$ls,*, DL.K.eBin_K, DL.K.bin1_ok, DL.K.bin1_err, DL.K.opt_some, DL.K.bin2_ok, DL.K.bin2_err, DL.K.bin3_some, DL.K.eUn_K, DL.K.un1_ok, DL.K.un1_err, DL.K.un2_some, DL.K.aCons_K, DL.K.cons1_ok, DL.K.cons1_err, DL.K.cons2_ok, DL.K.cons2_err, DL.K.aNil_K, DL.K.ePure_K, DL.K.pure1_ok, DL.K.pure1_err, DL.K.pure2_some, DL.K.eTup_K, DL.K.tup1_ok, DL.K.tup1_err, DL.K.tup2_some, DL.K.eLst_K, DL.K.lst1_ok, DL.K.lst1_err, DL.K.lst2_some, DL.K.eName_K, DL.K.name1_va, DL.K.name1_ow, DL.K.eC_K, DL.K.rsv_fz, DL.K.rsv_tm, DL.K.rsv_br, DL.K.rsv1_ow, DL.K.rsv1_va, DL.K.rsvs_nil, DL.K.rsvs_cons, DL.K.rsvs1_some, DL.K.rsvs2_some, DL.K.fzo_fz, DL.K.fzo_tm, DL.K.fzo_br, DL.K.fzo1_ow, DL.K.fzo1_va, DL.K.fzos_nil, DL.K.fzos_cons, DL.K.fzos1_some, DL.K.fzos2_some, DL.K.tTru_K, DL.K.tru1_ok, DL.K.tru1_err, DL.K.tru2_some, DL.K.tru3_some, DL.K.tBl_K, DL.K.tbl1_ok, DL.K.tbl1_err, DL.K.tAnd_K, DL.K.and1_t, DL.K.and1_f, DL.K.and1_err, DL.K.tOr_K, DL.K.or1_t, DL.K.or1_f, DL.K.or1_err, DL.K.tNot_K, DL.K.not1_ok, DL.K.not1_err, DL.K.tYes_K, DL.K.eAnd_K, DL.K.eand1_t, DL.K.eand1_f, DL.K.eand1_err, DL.K.eOr_K, DL.K.eor1_t, DL.K.eor1_f, DL.K.eor1_err, DL.K.eNot_K, DL.K.eNotE_K, DL.K.enot1_ok, DL.K.enot1_err, DL.K.eIf_K, DL.K.eif1_t, DL.K.eif1_f, DL.K.eif1_err, DL.K.eCh_K, DL.K.ch1_ok, DL.K.ch1_err, DL.K.chLast_K, DL.K.chLink_K, DL.K.link1_ok, DL.K.link2_some, DL.K.link3_t, DL.K.link3_f, DL.K.eCall_K, DL.K.call1_ok, DL.K.call1_err, DL.K.call2_nil, DL.K.call2_one, DL.K.call3_ok0, DL.K.call3_err0, DL.K.call3_ok1, DL.K.call3_err1, DL.K.put1_ow, DL.K.isOw_ow, DL.K.iosOf_nil, DL.K.iosOf_f, DL.K.iosOf_t, DL.K.argsOf_nil, DL.K.argsOf_f, DL.K.args1_some, DL.K.args2_some, DL.K.argsOf_t, DL.K.args3_ow, DL.K.sSeq_K, DL.K.seq1_nx, DL.K.seq1_ret, DL.K.seq1_brk, DL.K.seq1_cnt, DL.K.seq1_err, DL.K.sNext_K, DL.K.sBreak_K, DL.K.sCont_K, DL.K.sRetN_K, DL.K.sRaise_K, DL.K.sExpr_K, DL.K.expr1_ok, DL.K.expr1_err, DL.K.sSet_K, DL.K.set1_fz, DL.K.set1_tm, DL.K.set1_br, DL.K.set2_some, DL.K.set1_err, DL.K.sUnp_K, DL.K.unp1_ok, DL.K.unp1_err, DL.K.unp2_some, DL.K.nxo_some, DL.K.put_one, DL.K.put_tup, DL.K.put_ktp, DL.K.setAll_nil, DL.K.setAll_cons, DL.K.sPar_K, DL.K.par1_ok, DL.K.par1_err, DL.K.par2_ok, DL.K.par2_err, DL.K.par3_some, DL.K.keep2_fz, DL.K.keep2_tm, DL.K.sAug_K, DL.K.aug0_va, DL.K.aug1_ok, DL.K.aug1_err, DL.K.aug2_some, DL.K.aug3_some, DL.K.sRet_K, DL.K.ret1_fz, DL.K.ret1_tm, DL.K.ret1_br, DL.K.ret1_err, DL.K.ret2_ow, DL.K.ret2_va, DL.K.sIf_K, DL.K.if1_t, DL.K.if1_f, DL.K.if1_err, DL.K.sSub_K, DL.K.sub1_ok, DL.K.sub1_err, DL.K.sub2_ok, DL.K.sub2_err, DL.K.sub3_some, DL.K.sub4_some, DL.K.sub5_some, DL.K.eMut_K, DL.K.isL_lst, DL.K.mut0_ok, DL.K.mut0_err, DL.K.mut1_some, DL.K.mut2_some, DL.K.mut3_some, DL.K.sFor_K, DL.K.for1_ok, DL.K.for1_err, DL.K.forGo_nil, DL.K.forGo_cons, DL.K.go0_some, DL.K.go1_nx, DL.K.go1_cnt, DL.K.go1_brk, DL.K.go1_ret, DL.K.go1_err, DL.K.whN_K, DL.K.wh1_t, DL.K.wh1_f, DL.K.wh2_nx, DL.K.wh2_cnt, DL.K.wh2_brk, DL.K.wh2_ret, DL.K.wh2_err, DL.K.iSeq_K, DL.K.iseq1_ok, DL.K.iseq1_err, DL.K.iseq2_lst, DL.K.iseq2_tup, DL.K.iseq2_kls, DL.K.iseq2_ktp, DL.K.iRng1_K, DL.K.rg1_ok, DL.K.rg1_err, DL.K.iRng2_K, DL.K.rg2_ok, DL.K.rg2_err, DL.K.rg3_ok, DL.K.rg3_err, DL.K.pNo_K, DL.K.pSome_K, DL.K.psome1_ok, DL.K.eSlice_K, DL.K.sl1_ok, DL.K.sl1_err, DL.K.sl2_ok, DL.K.sl3_ok, DL.K.eLc_K, DL.K.lc0_err, DL.K.lc0_ok, DL.K.lcGo_nil, DL.K.lcGo_cons, DL.K.lc1_some, DL.K.lc2_t, DL.K.lc2_f, DL.K.lc3_ok, DL.K.lc4_some, DL.K.wipeE_nil, DL.K.wipeE_cons, DL.K.backE_nil, DL.K.backE_cons, DL.K.backSl_some, DL.K.isOw_va, DL.K.isOw_no, DL.K.eNewK_K, DL.K.eNewT_K, DL.K.eDisp1_K, DL.K.disp1_ok, DL.K.disp2_ok, DL.K.disp4_i, DL.K.gDictOf_K, DL.K.gRev_lst, DL.K.eLstR1_K, DL.K.lstr1_ok, DL.K.iZip_K, DL.K.zip1_ok, DL.K.zip2_ok, DL.K.zip3_some, DL.K.zip3b_some, DL.K.zip4_lstlst, DL.K.zip4_lstkls, DL.K.zip4_klslst, DL.K.zip4_klskls, DL.K.zip4_tuptup, DL.K.zip4_tupktp, DL.K.zip4_ktptup, DL.K.zip4_ktpktp, DL.K.iEnum_K, DL.K.enum1_ok, DL.K.enum2_lst, DL.K.enum2_kls, DL.K.eLcN_K, DL.K.lcn2_some, DL.K.iKeysD_K, DL.K.kd1_va, DL.K.isK_vaint, DL.K.isK_owint, DL.K.isK_vastr, DL.K.isK_owstr, DL.K.isK_vatup, DL.K.isK_owtup, DL.K.isK_valst, DL.K.isK_owlst, DL.K.isK_vakls, DL.K.isK_owkls, DL.K.isK_vaktp, DL.K.isK_owktp, DL.K.isK_vabl, DL.K.isK_owbl, DL.K.isK_vanon, DL.K.isK_vadct, DL.K.isK_owdct, DL.K.gLen_dct, DL.K.gIn_dct, DL.K.gNotIn_dct, DL.K.gIx_dct, DL.K.ixd_some, DL.K.gSet_dct, DL.K.sTry_K, DL.K.try1_nx, DL.K.try1_ret, DL.K.try1_brk, DL.K.try1_cnt, DL.K.try1_err, DL.K.try3_t, DL.K.try3_f, DL.K.try2_nx, DL.K.try2_ret, DL.K.try2_brk, DL.K.try2_cnt, DL.K.fnD_K, DL.K.fn1_ret, DL.K.fn1_nx, DL.K.fn1_err, DL.K.fn3_some, DL.K.fn4_some, DL.K.iosAt_nil, DL.K.iosAt_f, DL.K.iosAt_t, DL.K.ios1_ow, DL.K.argSl_f, DL.K.argSl_t, DL.K.argSl_nil, DL.K.gAdd_i, DL.K.gAdd_t, DL.K.gAdd_l, DL.K.gSub_i, DL.K.gIAdd_i, DL.K.gLt_i, DL.K.gLe_i, DL.K.gGt_i, DL.K.gGe_i, DL.K.gIx_lst, DL.K.gLen_lst, DL.K.gList_lst, DL.K.gIx_kls, DL.K.gLen_kls, DL.K.gList_kls, DL.K.gIx_tup, DL.K.gLen_tup, DL.K.gList_tup, DL.K.gIx_ktp, DL.K.gLen_ktp, DL.K.gList_ktp, DL.K.ix1_some, DL.K.ix2_some, DL.K.gSlice_lst, DL.K.gSlice_kls, DL.K.gSlice_tup, DL.K.gTuple_tup, DL.K.gTuple_ktp, DL.K.gTuple_lst, DL.K.gTuple_kls, DL.K.gInt_i, DL.K.gAbs_i, DL.K.gNeg_i, DL.K.gGcd_i, DL.K.gMax_i, DL.K.gMin_i, DL.K.gIs_nn, DL.K.gIsNot_nn, DL.K.gIs_bb, DL.K.gIs_intn, DL.K.gIsNot_intn, DL.K.gIs_strn, DL.K.gIsNot_strn, DL.K.gIs_tupn, DL.K.gIsNot_tupn, DL.K.gIs_lstn, DL.K.gIsNot_lstn, DL.K.gIs_klsn, DL.K.gIsNot_klsn, DL.K.gIs_ktpn, DL.K.gIsNot_ktpn, DL.K.gIs_bln, DL.K.gIsNot_bln, DL.K.gIs_dctn, DL.K.gIsNot_dctn, DL.K.gIs_dttn, DL.K.gIsNot_dttn, DL.K.gEq_ii, DL.K.gNe_ii, DL.K.gNe_bb, DL.K.gEq_bb, DL.K.dtr_bl, DL.K.dtr_int, DL.K.dtr_non, DL.K.dtr_lst, DL.K.dtr_kls, DL.K.dtr_tup, DL.K.dtr_ktp, DL.K.eIsi_K, DL.K.gSet_lst, DL.K.set5_some, DL.K.gAppend_K, DL.K.small0, DL.K.less0, DL.K.small1, DL.K.less1, DL.K.small2, DL.K.less2, DL.K.small3, DL.K.less3, DL.K.small4, DL.K.less4, DL.K.small5, DL.K.less5, DL.K.small6, DL.K.less6, DL.K.small7, DL.K.less7, DL.K.small8, DL.K.less8, DL.K.small9, DL.K.less9, DL.K.small10, DL.K.less10, DL.K.small11, DL.K.less11, DL.K.small12, DL.K.less12, DL.K.small13, DL.K.less13, DL.K.small14, DL.K.less14, DL.K.small15, DL.K.less15, DL.K.small16, DL.K.less16, DL.K.isD_bool_non, DL.K.isD_bool_bl, DL.K.isD_bool_int, DL.K.isD_bool_str, DL.K.isD_bool_tup, DL.K.isD_bool_lst, DL.K.isD_bool_kls, DL.K.isD_bool_ktp, DL.K.isD_bool_dct, DL.K.isD_bool_dtt, DL.K.isD_int_non, DL.K.isD_int_bl, DL.K.isD_int_int, DL.K.isD_int_str, DL.K.isD_int_tup, DL.K.isD_int_lst, DL.K.isD_int_kls, DL.K.isD_int_ktp, DL.K.isD_int_dct, DL.K.isD_int_dtt, DL.K.isD_str_non, DL.K.isD_str_bl, DL.K.isD_str_int, DL.K.isD_str_str, DL.K.isD_str_tup, DL.K.isD_str_lst, DL.K.isD_str_kls, DL.K.isD_str_ktp, DL.K.isD_str_dct, DL.K.isD_str_dtt, DL.K.isD_list_non, DL.K.isD_list_bl, DL.K.isD_list_int, DL.K.isD_list_str, DL.K.isD_list_tup, DL.K.isD_list_lst, DL.K.isD_list_kls, DL.K.isD_list_ktp, DL.K.isD_list_dct, DL.K.isD_list_dtt, DL.K.isD_tuple_non, DL.K.isD_tuple_bl, DL.K.isD_tuple_int, DL.K.isD_tuple_str, DL.K.isD_tuple_tup, DL.K.isD_tuple_lst, DL.K.isD_tuple_kls, DL.K.isD_tuple_ktp, DL.K.isD_tuple_dct, DL.K.isD_tuple_dtt, DL.K.isD_dict_non, DL.K.isD_dict_bl, DL.K.isD_dict_int, DL.K.isD_dict_str, DL.K.isD_dict_tup, DL.K.isD_dict_lst, DL.K.isD_dict_kls, DL.K.isD_dict_ktp, DL.K.isD_dict_dct, DL.K.isD_dict_dtt, DL.K.eTupR1_K, DL.K.tupr1_ok, DL.K.gRev_tup, DL.K.eQ_K, DL.K.q1_lst, DL.K.frzAll_cons, DL.K.frzAll_nil, DL.K.frzS_va, DL.K.frzS_ow, DL.K.frzS_no, DL.K.gMul_r, DL.K.gMul_l, DL.K.gMod_i, DL.K.gFdiv_s, DL.ixI, List.getElem?_cons_zero, List.getElem?_cons_succ, List.set_cons_zero, List.set_cons_succ, List.length_cons, List.length_nil, List.cons_append, List.nil_append, List.replicate_succ, List.replicate_zero, List.map_cons, List.map_nil, List.all_cons, List.all_nil, List.isEmpty_cons, List.isEmpty_nil, Nat.reduceAdd, Nat.reduceSub, Nat.reduceLT, Nat.reduceLeDiff, Nat.reduceEqDiff, Nat.reducePow, Nat.zero_add, Int.reduceNeg, Int.reduceLT, Int.reduceLE, Int.reduceEq, Int.reduceNe, Int.reducePow, Int.reduceAdd, Int.reduceSub, Int.reduceMul, Int.reduceToNat, Int.cast_ofNat_Int, Int.natCast_add, Int.natCast_one, Int.natCast_zero, Int.natAbs_neg, Int.reduceAbs, Int.zero_add, not_false_eq_true, not_true_eq_false, and_self, ne_eq, or_false, false_or, or_true, true_or, if_true, if_false, reduceIte, Bool.not_true, Bool.not_false, decide_eq_true_eq, decide_true, decide_false, true_and, and_true, and_false, false_and, implies_true, Option.some.injEq, reduceCtorEq, List.nodup_nil, List.not_mem_nil, bne_self_eq_false, beq_self_eq_true, Bool.true_and, Bool.and_true, Bool.false_and, Bool.and_false, Bool.true_or, Bool.or_true, Bool.false_or, Bool.or_false, Bool.true_beq, Bool.false_beq, Bool.not_not])
/-! The law's own comparisons: a value is the same as itself. -/
namespace TT
open DL PySem
mutual
def okS : Nat → D → Bool
  | _, .non => true
  | _, .bl _ => true
  | _, .int _ => true
  | _, .str _ => true
  | 0, _ => false
  | n + 1, .tup xs => decide (xs.length < 100000) && okSs n xs
  | n + 1, .lst xs => decide (xs.length < 100000) && okSs n xs
  | _, _ => false
def okSs : Nat → List D → Bool
  | _, [] => true
  | n, x :: xs => okS n x && okSs n xs
end
theorem okSs_iff {n : Nat} : ∀ {ds : List D}, okSs n ds = true ↔ ∀ d ∈ ds, okS n d = true
  | [] => by simp [okSs]
  | x :: xs => by simp [okSs, okSs_iff (ds := xs)]
theorem gEq_ss (x : Str) : gEq (.str x) (.str x) = some (.fz (.bl true)) := by
  show some (Op.fz (D.bl (x == x))) = _
  rw [beq_self_eq_true]
theorem ixI_nat {n i : Nat} (h : i < n) : ixI n (i : Int) = some i := by
  unfold ixI
  rw [if_pos (by omega), if_pos (by omega)]
  rfl
end TT
namespace TT
open DL PySem
theorem equal_rows (self : FD) (x : D) (xs : List D) (hx : x = .tup xs ∨ x = .lst xs) (hs : ∀ d ∈ xs, self [d, d] = .ok (.fz (.bl true)) []) (hl : xs.length < 100000) (s3 : Sl) :
    lcGo [2] (.one 2) tYes (x__law_equal_1 self) [.va x, .va x, .no, s3] ((List.range xs.length).map nD) [] [.va x, .va x, .no, s3] = .ok (.tm (.lst ((List.range xs.length).map fun _ => D.bl true))) [.va x, .va x, .no, s3] := by
  rw [lc_is nD (fun _ => true) (fun _ => D.bl true) (List.range xs.length) (by rw [List.length_range]; unfold SZ; omega) ?_]
  · rw [List.filter_eq_self.mpr (fun _ _ => rfl)]
  · intro k hk
    have hk := List.mem_range.mp hk
    refine ⟨[.va x, .va x, .va (nD k), s3], rfl, rfl, rfl, fun _ => ⟨.fz (.bl true), ?_, rfl⟩⟩
    have e1 : xs[k]? = some xs[k] := List.getElem?_eq_getElem hk
    have e2 := hs xs[k] (List.getElem_mem hk)
    have h0 : (0 : Int) ≤ (k : Int) := by omega
    have h1 : (k : Int) < (xs.length : Int) := by omega
    unfold x__law_equal_1
    rcases hx with rfl | rfl
    · push_cast [h0, h1, Int.toNat_natCast, e1, e2]
    · push_cast [h0, h1, Int.toNat_natCast, e1, e2]
theorem all_true {β : Type} (xs : List β) : gAll [.lst (xs.map fun _ => D.bl true)] = some (.fz (.bl true)) := by
  rw [gAll_map (fun _ => true)]
  rw [List.all_eq_true.mpr (fun _ _ => rfl)]
theorem equal_refl : ∀ (n : Nat) (x : D), okS n x = true → d__law_equal (n + 1) [x, x] = .ok (.fz (.bl true)) []
  | n, .non, _ => by
    rw [d__law_equal]; unfold b__law_equal
    have e : gEq .non .non = some (.fz (.bl true)) := rfl
    push_cast [K.eC_K, e]
  | n, .bl b, _ => by
    rw [d__law_equal]; unfold b__law_equal; push_cast [K.eC_K, beq_self_eq_true]
  | n, .int i, _ => by
    rw [d__law_equal]; unfold b__law_equal; push_cast [K.eC_K]
  | n, .str x, _ => by
    rw [d__law_equal]; unfold b__law_equal; push_cast [K.eC_K, gEq_ss]
  | 0, .tup _, h => by cases h
  | 0, .lst _, h => by cases h
  | 0, .kls _, h => by cases h
  | 0, .ktp _, h => by cases h
  | 0, .dct _, h => by cases h
  | 0, .dtt _, h => by cases h
  | n + 1, .kls _, h => by cases h
  | n + 1, .ktp _, h => by cases h
  | n + 1, .dct _, h => by cases h
  | n + 1, .dtt _, h => by cases h
  | n + 1, .tup xs, h => by
    unfold okS at h
    rw [Bool.and_eq_true, decide_eq_true_eq] at h
    have e := equal_rows (d__law_equal (n + 1)) (.tup xs) xs (.inl rfl) (fun d hd => equal_refl n d (okSs_iff.mp h.2 d hd)) h.1 .no
    have h1 : (xs.length : Int) < 4611686018427387904 := by omega
    have h2 : -4611686018427387904 ≤ (xs.length : Int) := by omega
    rw [d__law_equal]; unfold b__law_equal
    push_cast [h1, h2, Int.toNat_natCast, upFrom_nD, e, all_true]
  | n + 1, .lst xs, h => by
    unfold okS at h
    rw [Bool.and_eq_true, decide_eq_true_eq] at h
    have e := equal_rows (d__law_equal (n + 1)) (.lst xs) xs (.inr rfl) (fun d hd => equal_refl n d (okSs_iff.mp h.2 d hd)) h.1 .no
    have h1 : (xs.length : Int) < 4611686018427387904 := by omega
    have h2 : -4611686018427387904 ≤ (xs.length : Int) := by omega
    rw [d__law_equal]; unfold b__law_equal
    push_cast [h1, h2, Int.toNat_natCast, upFrom_nD, e, all_true]
end TT
/-! Values of any kind that occur, empty dicts too. -/
namespace TT
open DL PySem
/-! data, at most n deep, rows of at most L items -/
mutual
def okW (L : Nat) : Nat → D → Bool
  | _, .non => true
  | _, .bl _ => true
  | _, .int _ => true
  | _, .str x => decide (x.length ≤ 100)
  | _, .dct kvs => kvs.isEmpty
  | n + 1, .tup xs => decide (xs.length ≤ L) && okWs L n xs
  | n + 1, .lst xs => decide (xs.length ≤ L) && okWs L n xs
  | _, _ => false
def okWs (L : Nat) : Nat → List D → Bool
  | _, [] => true
  | n, x :: xs => okW L n x && okWs L n xs
end
theorem okWs_iff {L n : Nat} : ∀ {ds : List D}, okWs L n ds = true ↔ ∀ d ∈ ds, okW L n d = true
  | [] => by simp [okWs]
  | x :: xs => by simp [okWs, okWs_iff (ds := xs)]
theorem okW_tup {L n : Nat} {xs : List D} : okW L (n + 1) (.tup xs) = true ↔ xs.length ≤ L ∧ ∀ d ∈ xs, okW L n d = true := by
  show (decide (xs.length ≤ L) && okWs L n xs) = true ↔ _
  rw [Bool.and_eq_true, decide_eq_true_eq, okWs_iff]
theorem okW_lst {L n : Nat} {xs : List D} : okW L (n + 1) (.lst xs) = true ↔ xs.length ≤ L ∧ ∀ d ∈ xs, okW L n d = true := by
  show (decide (xs.length ≤ L) && okWs L n xs) = true ↔ _
  rw [Bool.and_eq_true, decide_eq_true_eq, okWs_iff]
mutual
theorem okW_X {L : Nat} : ∀ {n : Nat} {d : D}, okW L n d = true → okX n d = true
  | n, .non, _ => by cases n <;> rfl
  | n, .bl _, _ => by cases n <;> rfl
  | n, .int _, _ => by cases n <;> rfl
  | n, .str x, h => by cases n <;> rfl
  | 0, .tup _, h => by cases h
  | 0, .lst _, h => by cases h
  | n, .kls _, h => by cases n <;> cases h
  | n, .ktp _, h => by cases n <;> cases h
  | n, .dct kvs, h => by
    have h : kvs.isEmpty = true := by cases n <;> exact h
    cases n <;> exact h
  | n, .dtt _, h => by cases n <;> cases h
  | n + 1, .tup xs, h => by unfold okW at h; rw [Bool.and_eq_true] at h; exact okWs_X h.2
  | n + 1, .lst xs, h => by unfold okW at h; rw [Bool.and_eq_true] at h; exact okWs_X h.2
theorem okWs_X {L : Nat} : ∀ {n : Nat} {ds : List D}, okWs L n ds = true → okXs n ds = true
  | _, [], _ => by unfold okXs; rfl
  | _, _ :: _, h => by
    unfold okWs at h
    rw [Bool.and_eq_true] at h
    unfold okXs
    rw [okW_X h.1, okWs_X h.2]; rfl
end
mutual
theorem okW_mono {L M : Nat} (hL : L ≤ M) : ∀ {n m : Nat} {d : D}, n ≤ m → okW L n d = true → okW M m d = true
  | n, m, .non, _, _ => by cases m <;> rfl
  | n, m, .bl _, _, _ => by cases m <;> rfl
  | n, m, .int _, _, _ => by cases m <;> rfl
  | n, m, .str x, _, h => by
    have h : decide (x.length ≤ 100) = true := by cases n <;> exact h
    cases m <;> exact h
  | 0, _, .tup _, _, h => by cases h
  | 0, _, .lst _, _, h => by cases h
  | n, _, .kls _, _, h => by cases n <;> cases h
  | n, _, .ktp _, _, h => by cases n <;> cases h
  | n, m, .dct kvs, _, h => by
    have h : kvs.isEmpty = true := by cases n <;> exact h
    cases m <;> exact h
  | n, _, .dtt _, _, h => by cases n <;> cases h
  | n + 1, 0, .tup xs, h, _ => by omega
  | n + 1, 0, .lst xs, h, _ => by omega
  | n + 1, m + 1, .tup xs, hm, h => by
    unfold okW at h ⊢; rw [Bool.and_eq_true, decide_eq_true_eq] at h ⊢
    exact ⟨by omega, okWs_mono hL (by omega) h.2⟩
  | n + 1, m + 1, .lst xs, hm, h => by
    unfold okW at h ⊢; rw [Bool.and_eq_true, decide_eq_true_eq] at h ⊢
    exact ⟨by omega, okWs_mono hL (by omega) h.2⟩
theorem okWs_mono {L M : Nat} (hL : L ≤ M) : ∀ {n m : Nat} {ds : List D}, n ≤ m → okWs L n ds = true → okWs M m ds = true
  | _, _, [], _, _ => by unfold okWs; rfl
  | _, _, _ :: _, hm, h => by
    unfold okWs at h ⊢
    rw [Bool.and_eq_true] at h ⊢
    exact ⟨okW_mono hL hm h.1, okWs_mono hL hm h.2⟩
end
mutual
theorem eqW_refl {L : Nat} : ∀ {n : Nat} {d : D}, okW L n d = true → eqD d d = true
  | n, .non, _ => rfl
  | n, .bl b, _ => by show (b == b) = true; exact beq_self_eq_true b
  | n, .int i, _ => by show (i == i) = true; exact beq_self_eq_true i
  | n, .str x, h => by show (x == x) = true; exact beq_self_eq_true x
  | 0, .tup _, h => by cases h
  | 0, .lst _, h => by cases h
  | n, .kls _, h => by cases n <;> cases h
  | n, .ktp _, h => by cases n <;> cases h
  | n, .dct kvs, h => by
    have h : kvs.isEmpty = true := by cases n <;> exact h
    show (kvs.isEmpty && kvs.isEmpty) = true
    rw [h]; rfl
  | n, .dtt _, h => by cases n <;> cases h
  | n + 1, .tup xs, h => by
    unfold okW at h; rw [Bool.and_eq_true] at h
    show eqDs xs xs = true
    exact eqWs_refl h.2
  | n + 1, .lst xs, h => by
    unfold okW at h; rw [Bool.and_eq_true] at h
    show eqDs xs xs = true
    exact eqWs_refl h.2
theorem eqWs_refl {L : Nat} : ∀ {n : Nat} {ds : List D}, okWs L n ds = true → eqDs ds ds = true
  | _, [], _ => rfl
  | _, x :: xs, h => by
    unfold okWs at h
    rw [Bool.and_eq_true] at h
    show (eqD x x && eqDs xs xs) = true
    rw [eqW_refl h.1, eqWs_refl h.2]; rfl
end
theorem gEq_rowW {L n : Nat} {xs : List D} (hn : n ≤ 59) (h : ∀ d ∈ xs, okW L n d = true) : gEq (.lst xs) (.lst xs) = some (.fz (.bl true)) := by
  have o : okX 60 (.lst xs) = true := okXs_iff.mpr fun d hd => okW_X (okW_mono (Nat.le_refl L) hn (h d hd))
  rw [gEq_X o o, show eqD (.lst xs) (.lst xs) = eqDs xs xs from rfl, eqWs_refl (okWs_iff.mpr h)]
theorem gNe_rowW {L n : Nat} {xs : List D} (hn : n ≤ 59) (h : ∀ d ∈ xs, okW L n d = true) : gNe (.lst xs) (.lst xs) = some (.fz (.bl false)) := by
  have o : okX 60 (.lst xs) = true := okXs_iff.mpr fun d hd => okW_X (okW_mono (Nat.le_refl L) hn (h d hd))
  rw [gNe_X o o, show eqD (.lst xs) (.lst xs) = eqDs xs xs from rfl, eqWs_refl (okWs_iff.mpr h)]; rfl
/-- a whole number, not True or False -/
def isI : D → Bool
  | .int _ => true
  | _ => false
theorem lint_is (d : D) : d__law_is_integer [d] = .ok (.fz (.bl (isI d))) [] := by
  unfold d__law_is_integer b__law_is_integer
  cases d <;> push_cast [K.eC_K] <;> rfl
end TT
/-! what a value holds -/
namespace TT
open DL PySem
def memb : D → List D
  | .tup xs => xs
  | .lst xs => xs
  | _ => []
theorem memb_ok {L m : Nat} {v : D} (h : okW L m v = true) : (∀ d ∈ memb v, okW L m d = true) ∧ (memb v).length ≤ L := by
  cases v with
  | tup xs =>
    cases m with
    | zero => cases h
    | succ m => obtain ⟨a, b⟩ := okW_tup.mp h; exact ⟨fun d hd => okW_mono (Nat.le_refl L) (by omega) (b d hd), a⟩
  | lst xs =>
    cases m with
    | zero => cases h
    | succ m => obtain ⟨a, b⟩ := okW_lst.mp h; exact ⟨fun d hd => okW_mono (Nat.le_refl L) (by omega) (b d hd), a⟩
  | _ => exact ⟨fun d hd => absurd hd (List.not_mem_nil), Nat.zero_le _⟩
theorem memb_q (v : D) (xs : List D) (h : v = .tup xs ∨ v = .lst xs) (hl : xs.length ≤ SZ) : eQ (eLcN [1] (.one 1) 0 tYes (eName 1)) [.va v, .no] = .ok (.tm (.lst xs)) [.va v, .no] := by
  have e := lc_filter (vs := [1]) (t := .one 1) (c := tYes) (e := eName 1) (r0 := [.va v, .no]) (fun _ => true) xs hl (by
    intro d hd
    refine ⟨[.va v, .va d], rfl, rfl, rfl, fun _ => ⟨.fz d, ?_, rfl⟩⟩
    push_cast [K.eC_K])
  rw [List.filter_eq_self.mpr (fun _ _ => rfl)] at e
  have k : isK (some (.va v)) = false := by rcases h with rfl | rfl <;> rfl
  rcases h with rfl | rfl
  · push_cast [k, e]
    split <;> rfl
  · push_cast [k, e]
    split <;> rfl
theorem members_is {L m : Nat} (hL : L ≤ 2000) {v : D} (h : okW L m v = true) : d__law_members [v] = .ok (.tm (.lst (memb v))) [] := by
  have hl := (memb_ok h).2
  cases v with
  | tup xs =>
    have e := memb_q (.tup xs) xs (.inl rfl) (by have : xs.length ≤ L := hl; unfold SZ; omega)
    unfold d__law_members b__law_members
    push_cast [e]
    rfl
  | lst xs =>
    have e := memb_q (.lst xs) xs (.inr rfl) (by have : xs.length ≤ L := hl; unfold SZ; omega)
    unfold d__law_members b__law_members
    push_cast [e]
    rfl
  | ktp _ => cases m <;> cases h
  | kls _ => cases m <;> cases h
  | dct kvs =>
    cases kvs with
    | cons _ _ => cases m <;> cases h
    | nil =>
      have e := lc_filter (vs := [1]) (t := .one 1) (c := tYes) (e := eName 1) (r0 := [.va (.dct []), .no]) (fun _ => true) [] (Nat.zero_le _) (fun d hd => (nomatch hd))
      unfold d__law_members b__law_members
      push_cast [K.eC_K]
      rfl
  | dtt _ => cases m <;> cases h
  | _ =>
    unfold d__law_members b__law_members
    push_cast [K.eC_K]
    rfl
end TT
/-! The law's bends: by numbers. -/
namespace TT
open DL PySem
theorem cut_nat {α : Type} (xs : List α) (k : Nat) (h : k ≤ xs.length) : cutD xs none (some (k : Int)) = xs.take k ∧ cutD xs (some (k : Int)) none = xs.drop k := by
  unfold cutD sI
  constructor
  · show (xs.drop 0).take ((if (k : Int) < 0 then _ else min (k : Int) (xs.length : Int)).toNat - 0) = _
    rw [if_neg (by omega), List.drop_zero]
    congr 1; omega
  · show (xs.drop ((if (k : Int) < 0 then _ else min (k : Int) (xs.length : Int)).toNat)).take (xs.length - _) = _
    rw [if_neg (by omega)]
    have e : (min (k : Int) (xs.length : Int)).toNat = k := by omega
    show (xs.drop _).take (xs.length - (if (k : Int) < 0 then _ else min (k : Int) (xs.length : Int)).toNat) = _
    rw [if_neg (by omega), e]
    exact List.take_of_length_le (by rw [List.length_drop]; exact Nat.le_refl _)
theorem cut_one {α : Type} (xs : List α) (k : Nat) (h : k < xs.length) : cutD xs (some (k : Int)) (some ((k : Int) + 1)) = [xs[k]] := by
  unfold cutD sI
  show (xs.drop ((if (k : Int) < 0 then _ else min (k : Int) (xs.length : Int)).toNat)).take ((if (k : Int) + 1 < 0 then _ else min ((k : Int) + 1) (xs.length : Int)).toNat - (if (k : Int) < 0 then _ else min (k : Int) (xs.length : Int)).toNat) = _
  rw [if_neg (by omega), if_neg (by omega)]
  have e : (min (k : Int) (xs.length : Int)).toNat = k := by omega
  have e2 : (min ((k : Int) + 1) (xs.length : Int)).toNat = k + 1 := by omega
  rw [e, e2, Nat.add_sub_cancel_left, List.drop_eq_getElem_cons h]
  rfl
theorem okW_take {L n k : Nat} {xs : List D} (h : ∀ d ∈ xs, okW L n d = true) : ∀ d ∈ xs.take k, okW L n d = true := fun d hd => h d (List.mem_of_mem_take hd)
theorem okW_drop {L n k : Nat} {xs : List D} (h : ∀ d ∈ xs, okW L n d = true) : ∀ d ∈ xs.drop k, okW L n d = true := fun d hd => h d (List.mem_of_mem_drop hd)
theorem odd_is (x : Int) : ∃ c, okW 3 2 c = true ∧ d__law_odd [.int x] = .ok (.fz c) [] := by
  obtain ⟨k, hk⟩ : ∃ k : Int, x.fmod 15 = k := ⟨_, rfl⟩
  have h0 := Int.fmod_nonneg_of_pos x (show (0 : Int) < 15 by decide)
  have h1 := Int.fmod_lt_of_pos x (show (0 : Int) < 15 by decide)
  rw [hk] at h0 h1
  unfold d__law_odd b__law_odd
  rcases (by omega : k = 0 ∨ k = 1 ∨ k = 2 ∨ k = 3 ∨ k = 4 ∨ k = 5 ∨ k = 6 ∨ k = 7 ∨ k = 8 ∨ k = 9 ∨ k = 10 ∨ k = 11 ∨ k = 12 ∨ k = 13 ∨ k = 14) with h | h | h | h | h | h | h | h | h | h | h | h | h | h | h <;> subst h <;> push_cast [hk] <;> exact ⟨_, by decide +kernel, rfl⟩
/-- rows of numbers that are never below 0 -/
def NN (ms : List Int) : Prop := 1 ≤ ms.length ∧ ms.length ≤ 1000 ∧ ∀ m ∈ ms, 0 ≤ m
theorem nn_at {ms : List Int} (h : NN ms) (i : Int) : ∃ m : Int, 0 ≤ m ∧ gIx (.lst (ms.map .int)) (.int (i.fmod (ms.length : Int))) = some (.fz (.int m)) := by
  obtain ⟨h1, h2, h3⟩ := h
  have f0 := Int.fmod_nonneg_of_pos i (show (0 : Int) < (ms.length : Int) by omega)
  have f1 := Int.fmod_lt_of_pos i (show (0 : Int) < (ms.length : Int) by omega)
  obtain ⟨k, hk⟩ : ∃ k : Nat, i.fmod (ms.length : Int) = (k : Int) := ⟨(i.fmod (ms.length : Int)).toNat, by omega⟩
  rw [hk] at f0 f1 ⊢
  have hkl : k < ms.length := by omega
  refine ⟨ms[k], h3 _ (List.getElem_mem hkl), ?_⟩
  have i0 : ixI (ms.map D.int).length (k : Int) = some k := by
    unfold ixI; rw [List.length_map, if_pos (by omega), if_pos (by omega), Int.toNat_natCast]
  rw [K.gIx_lst, i0, K.ix1_some, List.getElem?_map, List.getElem?_eq_getElem hkl]
  rfl
def okU (L n : Nat) (o : Op) : Prop := ∃ v, (o = .fz v ∨ o = .tm v) ∧ okW L n v = true
theorem okU_fz {L n : Nat} {v : D} (h : okW L n v = true) : okU L n (.fz v) := ⟨v, .inl rfl, h⟩
theorem isW_int {v : D} (h : isI v = true) : ∃ i, v = .int i := by
  cases v with
  | int i => exact ⟨i, rfl⟩
  | _ => cases h
theorem bend_is {L : Nat} (hL1 : 3 ≤ L) (hL : L ≤ 1000) {ms : List Int} (hm : NN ms) : ∀ (fuel n : Nat) (v : D) (at_ : Int), n < fuel → okW L n v = true → ∃ o, okU (L + 1) (n + 2) o ∧ d__law_bend fuel [v, .lst (ms.map .int), .int at_] = .ok o []
  | 0, _, _, _, h, _ => by omega
  | fuel + 1, n, v, at_, hf, hv => by
    obtain ⟨m, m0, e1⟩ := nn_at hm at_
    have l1 : ¬ (ms.length : Int) = 0 := by have := hm.1; omega
    have l2 : (ms.length : Int).natAbs < 2 ^ 64 := by have := hm.2.1; omega
    obtain ⟨y, hy⟩ : ∃ y : Int, m.fdiv 4 = y := ⟨_, rfl⟩
    obtain ⟨z, hz⟩ : ∃ z : Int, m.fdiv 24 = z := ⟨_, rfl⟩
    obtain ⟨w, hw⟩ : ∃ w : Int, y.fmod 6 = w := ⟨_, rfl⟩
    obtain ⟨c, hc, e2⟩ := odd_is z
    have hc' : okW (L + 1) (n + 2) c = true := okW_mono (by omega) (by omega) hc
    have li := lint_is v
    -- a value that is no row, or an empty one
    have flat : (∀ xs, v = .tup xs → xs = []) → ∃ o, okU (L + 1) (n + 2) o ∧ d__law_bend (fuel + 1) [v, .lst (ms.map .int), .int at_] = .ok o [] := fun hxs => by
      by_cases w0 : w = 0
      · refine ⟨.fz c, okU_fz hc', ?_⟩
        rw [d__law_bend]; unfold b__law_bend
        cases v with
        | tup xs =>
          rw [hxs xs rfl]
          push_cast [List.length_map, l1, l2, e1, hy, hw, w0, hz, e2]
        | ktp _ => cases n <;> cases hv
        | _ => push_cast [List.length_map, l1, l2, e1, hy, hw, w0, hz, e2]
      · cases hi : isI v with
        | true =>
          obtain ⟨i, rfl⟩ := isW_int hi
          rw [hi] at li
          obtain ⟨u, hu⟩ : ∃ u : Int, z.fmod 3 = u := ⟨_, rfl⟩
          have u0 := Int.fmod_nonneg_of_pos z (show (0 : Int) < 3 by decide)
          have u1 := Int.fmod_lt_of_pos z (show (0 : Int) < 3 by decide)
          rw [hu] at u0 u1
          rw [d__law_bend]; unfold b__law_bend
          rcases (by omega : u = 0 ∨ u = 1 ∨ u = 2) with h | h | h <;> subst h <;> push_cast [List.length_map, l1, l2, e1, hy, hw, w0, hz, hu, li] <;> exact ⟨_, okU_fz (by rfl), rfl⟩
        | false =>
          rw [hi] at li
          obtain ⟨u, hu⟩ : ∃ u : Int, w.fmod 2 = u := ⟨_, rfl⟩
          have u0 := Int.fmod_nonneg_of_pos w (show (0 : Int) < 2 by decide)
          have u1 := Int.fmod_lt_of_pos w (show (0 : Int) < 2 by decide)
          rw [hu] at u0 u1
          have hv2 : okW (L + 1) (n + 2) (.tup [v]) = true := okW_tup.mpr ⟨by show 1 ≤ L + 1; omega, fun d hd => by
            rw [List.mem_singleton] at hd; subst hd
            exact okW_mono (by omega) (by omega) hv⟩
          rw [d__law_bend]; unfold b__law_bend
          rcases (by omega : u = 0 ∨ u = 1) with h | h
          · subst h
            refine ⟨.fz c, okU_fz hc', ?_⟩
            cases v with
            | tup xs =>
              rw [hxs xs rfl] at li ⊢
              push_cast [List.length_map, l1, l2, e1, hy, hw, w0, hz, hu, li, e2]
            | ktp _ => cases n <;> cases hv
            | _ => push_cast [List.length_map, l1, l2, e1, hy, hw, w0, hz, hu, li, e2]
          · subst h
            refine ⟨.fz (.tup [v]), okU_fz hv2, ?_⟩
            cases v with
            | tup xs =>
              rw [hxs xs rfl] at li ⊢
              push_cast [List.length_map, l1, l2, e1, hy, hw, w0, hz, hu, li, e2]
            | ktp _ => cases n <;> cases hv
            | _ => push_cast [List.length_map, l1, l2, e1, hy, hw, w0, hz, hu, li, e2]
    cases v with
    | tup xs =>
      by_cases hne : 0 < xs.length
      · cases n with
        | zero => cases hv
        | succ n =>
        obtain ⟨hl, hx⟩ := okW_tup.mp hv
        have hx2 : ∀ d ∈ xs, okW (L + 1) (n + 2) d = true := fun d hd => okW_mono (by omega) (by omega) (hx d hd)
        have hx3 : ∀ d ∈ xs, okW (L + 1) (n + 1 + 1) d = true := hx2
        have gt0 : (0 : Int) < (xs.length : Int) := by omega
        have ne0 : ¬ (xs.length : Int) = 0 := by omega
        have x2 : (xs.length : Int).natAbs < 2 ^ 64 := by omega
        rw [show isI (.tup xs) = false from rfl] at li
        by_cases q : 0 < m.fmod 4
        · have f0 := Int.fmod_nonneg_of_pos y gt0
          have f1 := Int.fmod_lt_of_pos y gt0
          obtain ⟨k, hk'⟩ : ∃ k : Nat, y.fmod (xs.length : Int) = (k : Int) := ⟨(y.fmod (xs.length : Int)).toNat, by omega⟩
          have hk : k < xs.length := by omega
          have k0 : 0 ≤ (k : Int) := by omega
          have kl : (k : Int) < (xs.length : Int) := by omega
          have ex : xs[k]? = some xs[k] := List.getElem?_eq_getElem hk
          obtain ⟨o, ⟨w', ho, hw'⟩, e3⟩ := bend_is hL1 hL hm fuel n xs[k] (at_ + 1) (by omega) (hx _ (List.getElem_mem hk))
          have c1 := (cut_nat xs k (by omega)).1
          have c2 := (cut_nat xs (k + 1) (by omega)).2
          rw [show ((k + 1 : Nat) : Int) = (k : Int) + 1 from rfl] at c2
          have lt1 : (xs.take k).length = k := by rw [List.length_take]; omega
          have ld1 : (xs.drop (k + 1)).length = xs.length - (k + 1) := List.length_drop
          have s1 : k + 1 ≤ SZ := by unfold SZ; omega
          have s2 : k + 1 + (xs.length - (k + 1)) ≤ SZ := by unfold SZ; omega
          refine ⟨.fz (.tup (xs.take k ++ [w'] ++ xs.drop (k + 1))), okU_fz (okW_tup.mpr ⟨?_, fun d hd => ?_⟩), ?_⟩
          · simp only [List.length_append, lt1, ld1, List.length_singleton]; omega
          · rcases List.mem_append.mp hd with hd | hd
            · rcases List.mem_append.mp hd with hd | hd
              · exact okW_mono (Nat.le_refl _) (by omega) (okW_take hx2 d hd)
              · rw [List.mem_singleton] at hd; subst hd; exact hw'
            · exact okW_mono (Nat.le_refl _) (by omega) (okW_drop hx2 d hd)
          · rw [d__law_bend]; unfold b__law_bend
            rcases ho with rfl | rfl
            · push_cast [List.length_map, l1, l2, e1, gt0, ne0, x2, q, hy, hk', k0, kl, Int.toNat_natCast, ex, e3, c1, c2, List.length_append, lt1, ld1, s1, s2, List.length_singleton]
            · push_cast [List.length_map, l1, l2, e1, gt0, ne0, x2, q, hy, hk', k0, kl, Int.toNat_natCast, ex, e3, c1, c2, List.length_append, lt1, ld1, s1, s2, List.length_singleton]
        · by_cases w0 : w = 0
          · refine ⟨.fz c, okU_fz hc', ?_⟩
            rw [d__law_bend]; unfold b__law_bend
            push_cast [List.length_map, l1, l2, e1, gt0, q, hy, hw, w0, hz, e2]
          · have f0 := Int.fmod_nonneg_of_pos z gt0
            have f1 := Int.fmod_lt_of_pos z gt0
            obtain ⟨k, hk'⟩ : ∃ k : Nat, z.fmod (xs.length : Int) = (k : Int) := ⟨(z.fmod (xs.length : Int)).toNat, by omega⟩
            have hk : k < xs.length := by omega
            have c1 := (cut_nat xs k (by omega)).1
            have c2 := (cut_nat xs (k + 1) (by omega)).2
            have c3 := cut_one xs k hk
            rw [show ((k + 1 : Nat) : Int) = (k : Int) + 1 from rfl] at c2
            have lt1 : (xs.take k).length = k := by rw [List.length_take]; omega
            have ld1 : (xs.drop (k + 1)).length = xs.length - (k + 1) := List.length_drop
            have s2 : k + (xs.length - (k + 1)) ≤ SZ := by unfold SZ; omega
            have s3 : xs.length + 1 ≤ SZ := by unfold SZ; omega
            by_cases w1 : w = 1
            · refine ⟨.fz (.tup (xs.take k ++ xs.drop (k + 1))), okU_fz (okW_tup.mpr ⟨by simp only [List.length_append, lt1, ld1]; omega, fun d hd => ?_⟩), ?_⟩
              · rcases List.mem_append.mp hd with hd | hd
                · exact okW_mono (Nat.le_refl _) (by omega) (okW_take hx2 d hd)
                · exact okW_mono (Nat.le_refl _) (by omega) (okW_drop hx2 d hd)
              · rw [d__law_bend]; unfold b__law_bend
                push_cast [List.length_map, l1, l2, e1, gt0, ne0, x2, q, hy, hw, w0, w1, hz, li, hk', c1, c2, lt1, ld1, s2]
            · by_cases w2 : w = 2
              · refine ⟨.fz (.tup (xs ++ [xs[k]])), okU_fz (okW_tup.mpr ⟨by rw [List.length_append, List.length_singleton]; omega, fun d hd => ?_⟩), ?_⟩
                · rcases List.mem_append.mp hd with hd | hd
                  · exact okW_mono (Nat.le_refl _) (by omega) (hx2 d hd)
                  · rw [List.mem_singleton] at hd; subst hd
                    exact okW_mono (Nat.le_refl _) (by omega) (hx2 _ (List.getElem_mem hk))
                · rw [d__law_bend]; unfold b__law_bend
                  push_cast [List.length_map, l1, l2, e1, gt0, ne0, x2, q, hy, hw, w0, w1, w2, hz, li, hk', c3, s3]
              · by_cases w3 : w = 3
                · refine ⟨.tm (.lst xs), ⟨_, .inr rfl, okW_lst.mpr ⟨by omega, fun d hd => okW_mono (Nat.le_refl _) (by omega) (hx2 d hd)⟩⟩, ?_⟩
                  rw [d__law_bend]; unfold b__law_bend
                  push_cast [List.length_map, l1, l2, e1, gt0, ne0, x2, q, hy, hw, w0, w1, w2, w3, hz, li, hk']
                · refine ⟨.fz (.tup xs.reverse), okU_fz (okW_tup.mpr ⟨by rw [List.length_reverse]; omega, fun d hd => okW_mono (Nat.le_refl _) (by omega) (hx2 d (List.mem_reverse.mp hd))⟩), ?_⟩
                  rw [d__law_bend]; unfold b__law_bend
                  push_cast [List.length_map, l1, l2, e1, gt0, ne0, x2, q, hy, hw, w0, w1, w2, w3, hz, li, hk']
      · exact flat fun ys h => by cases h; exact List.eq_nil_of_length_eq_zero (by omega)
    | _ => exact flat fun ys h => by cases h
end TT

section
set_option autoImplicit false
set_option linter.all false
set_option maxRecDepth 20000
local macro_rules | `(tactic| push_cast [$ls,*]) => `(tactic| simp only [$ls,*, DL.K.eBin_K, DL.K.bin1_ok, DL.K.bin1_err, DL.K.opt_some, DL.K.bin2_ok, DL.K.bin2_err, DL.K.bin3_some, DL.K.eUn_K, DL.K.un1_ok, DL.K.un1_err, DL.K.un2_some, DL.K.aCons_K, DL.K.cons1_ok, DL.K.cons1_err, DL.K.cons2_ok, DL.K.cons2_err, DL.K.aNil_K, DL.K.ePure_K, DL.K.pure1_ok, DL.K.pure1_err, DL.K.pure2_some, DL.K.eTup_K, DL.K.tup1_ok, DL.K.tup1_err, DL.K.tup2_some, DL.K.eLst_K, DL.K.lst1_ok, DL.K.lst1_err, DL.K.lst2_some, DL.K.eName_K, DL.K.name1_va, DL.K.name1_ow, DL.K.eC_K, DL.K.rsv_fz, DL.K.rsv_tm, DL.K.rsv_br, DL.K.rsv1_ow, DL.K.rsv1_va, DL.K.rsvs_nil, DL.K.rsvs_cons, DL.K.rsvs1_some, DL.K.rsvs2_some, DL.K.fzo_fz, DL.K.fzo_tm, DL.K.fzo_br, DL.K.fzo1_ow, DL.K.fzo1_va, DL.K.fzos_nil, DL.K.fzos_cons, DL.K.fzos1_some, DL.K.fzos2_some, DL.K.tTru_K, DL.K.tru1_ok, DL.K.tru1_err, DL.K.tru2_some, DL.K.tru3_some, DL.K.tBl_K, DL.K.tbl1_ok, DL.K.tbl1_err, DL.K.tAnd_K, DL.K.and1_t, DL.K.and1_f, DL.K.and1_err, DL.K.tOr_K, DL.K.or1_t, DL.K.or1_f, DL.K.or1_err, DL.K.tNot_K, DL.K.not1_ok, DL.K.not1_err, DL.K.tYes_K, DL.K.eAnd_K, DL.K.eand1_t, DL.K.eand1_f, DL.K.eand1_err, DL.K.eOr_K, DL.K.eor1_t, DL.K.eor1_f, DL.K.eor1_err, DL.K.eNot_K, DL.K.eNotE_K, DL.K.enot1_ok, DL.K.enot1_err, DL.K.eIf_K, DL.K.eif1_t, DL.K.eif1_f, DL.K.eif1_err, DL.K.eCh_K, DL.K.ch1_ok, DL.K.ch1_err, DL.K.chLast_K, DL.K.chLink_K, DL.K.link1_ok, DL.K.link2_some, DL.K.link3_t, DL.K.link3_f, DL.K.eCall_K, DL.K.call1_ok, DL.K.call1_err, DL.K.call2_nil, DL.K.call2_one, DL.K.call3_ok0, DL.K.call3_err0, DL.K.call3_ok1, DL.K.call3_err1, DL.K.put1_ow, DL.K.isOw_ow, DL.K.iosOf_nil, DL.K.iosOf_f, DL.K.iosOf_t, DL.K.argsOf_nil, DL.K.argsOf_f, DL.K.args1_some, DL.K.args2_some, DL.K.argsOf_t, DL.K.args3_ow, DL.K.sSeq_K, DL.K.seq1_nx, DL.K.seq1_ret, DL.K.seq1_brk, DL.K.seq1_cnt, DL.K.seq1_err, DL.K.sNext_K, DL.K.sBreak_K, DL.K.sCont_K, DL.K.sRetN_K, DL.K.sRaise_K, DL.K.sExpr_K, DL.K.expr1_ok, DL.K.expr1_err, DL.K.sSet_K, DL.K.set1_fz, DL.K.set1_tm, DL.K.set1_br, DL.K.set2_some, DL.K.set1_err, DL.K.sUnp_K, DL.K.unp1_ok, DL.K.unp1_err, DL.K.unp2_some, DL.K.nxo_some, DL.K.put_one, DL.K.put_tup, DL.K.put_ktp, DL.K.setAll_nil, DL.K.setAll_cons, DL.K.sPar_K, DL.K.par1_ok, DL.K.par1_err, DL.K.par2_ok, DL.K.par2_err, DL.K.par3_some, DL.K.keep2_fz, DL.K.keep2_tm, DL.K.sAug_K, DL.K.aug0_va, DL.K.aug1_ok, DL.K.aug1_err, DL.K.aug2_some, DL.K.aug3_some, DL.K.sRet_K, DL.K.ret1_fz, DL.K.ret1_tm, DL.K.ret1_br, DL.K.ret1_err, DL.K.ret2_ow, DL.K.ret2_va, DL.K.sIf_K, DL.K.if1_t, DL.K.if1_f, DL.K.if1_err, DL.K.sSub_K, DL.K.sub1_ok, DL.K.sub1_err, DL.K.sub2_ok, DL.K.sub2_err, DL.K.sub3_some, DL.K.sub4_some, DL.K.sub5_some, DL.K.eMut_K, DL.K.isL_lst, DL.K.mut0_ok, DL.K.mut0_err, DL.K.mut1_some, DL.K.mut2_some, DL.K.mut3_some, DL.K.sFor_K, DL.K.for1_ok, DL.K.for1_err, DL.K.forGo_nil, DL.K.forGo_cons, DL.K.go0_some, DL.K.go1_nx, DL.K.go1_cnt, DL.K.go1_brk, DL.K.go1_ret, DL.K.go1_err, DL.K.whN_K, DL.K.wh1_t, DL.K.wh1_f, DL.K.wh2_nx, DL.K.wh2_cnt, DL.K.wh2_brk, DL.K.wh2_ret, DL.K.wh2_err, DL.K.iSeq_K, DL.K.iseq1_ok, DL.K.iseq1_err, DL.K.iseq2_lst, DL.K.iseq2_tup, DL.K.iseq2_kls, DL.K.iseq2_ktp, DL.K.iRng1_K, DL.K.rg1_ok, DL.K.rg1_err, DL.K.iRng2_K, DL.K.rg2_ok, DL.K.rg2_err, DL.K.rg3_ok, DL.K.rg3_err, DL.K.pNo_K, DL.K.pSome_K, DL.K.psome1_ok, DL.K.eSlice_K, DL.K.sl1_ok, DL.K.sl1_err, DL.K.sl2_ok, DL.K.sl3_ok, DL.K.eLc_K, DL.K.lc0_err, DL.K.lc0_ok, DL.K.lcGo_nil, DL.K.lcGo_cons, DL.K.lc1_some, DL.K.lc2_t, DL.K.lc2_f, DL.K.lc3_ok, DL.K.lc4_some, DL.K.wipeE_nil, DL.K.wipeE_cons, DL.K.backE_nil, DL.K.backE_cons, DL.K.backSl_some, DL.K.isOw_va, DL.K.isOw_no, DL.K.eNewK_K, DL.K.eNewT_K, DL.K.eDisp1_K, DL.K.disp1_ok, DL.K.disp2_ok, DL.K.disp4_i, DL.K.gDictOf_K, DL.K.gRev_lst, DL.K.eLstR1_K, DL.K.lstr1_ok, DL.K.iZip_K, DL.K.zip1_ok, DL.K.zip2_ok, DL.K.zip3_some, DL.K.zip3b_some, DL.K.zip4_lstlst, DL.K.zip4_lstkls, DL.K.zip4_klslst, DL.K.zip4_klskls, DL.K.zip4_tuptup, DL.K.zip4_tupktp, DL.K.zip4_ktptup, DL.K.zip4_ktpktp, DL.K.iEnum_K, DL.K.enum1_ok, DL.K.enum2_lst, DL.K.enum2_kls, DL.K.eLcN_K, DL.K.lcn2_some, DL.K.iKeysD_K, DL.K.kd1_va, DL.K.isK_vaint, DL.K.isK_owint, DL.K.isK_vastr, DL.K.isK_owstr, DL.K.isK_vatup, DL.K.isK_owtup, DL.K.isK_valst, DL.K.isK_owlst, DL.K.isK_vakls, DL.K.isK_owkls, DL.K.isK_vaktp, DL.K.isK_owktp, DL.K.isK_vabl, DL.K.isK_owbl, DL.K.isK_vanon, DL.K.isK_vadct, DL.K.isK_owdct, DL.K.gLen_dct, DL.K.gIn_dct, DL.K.gNotIn_dct, DL.K.gIx_dct, DL.K.ixd_some, DL.K.gSet_dct, DL.K.sTry_K, DL.K.try1_nx, DL.K.try1_ret, DL.K.try1_brk, DL.K.try1_cnt, DL.K.try1_err, DL.K.try3_t, DL.K.try3_f, DL.K.try2_nx, DL.K.try2_ret, DL.K.try2_brk, DL.K.try2_cnt, DL.K.fnD_K, DL.K.fn1_ret, DL.K.fn1_nx, DL.K.fn1_err, DL.K.fn3_some, DL.K.fn4_some, DL.K.iosAt_nil, DL.K.iosAt_f, DL.K.iosAt_t, DL.K.ios1_ow, DL.K.argSl_f, DL.K.argSl_t, DL.K.argSl_nil, DL.K.gAdd_i, DL.K.gAdd_t, DL.K.gAdd_l, DL.K.gSub_i, DL.K.gIAdd_i, DL.K.gLt_i, DL.K.gLe_i, DL.K.gGt_i, DL.K.gGe_i, DL.K.gIx_lst, DL.K.gLen_lst, DL.K.gList_lst, DL.K.gIx_kls, DL.K.gLen_kls, DL.K.gList_kls, DL.K.gIx_tup, DL.K.gLen_tup, DL.K.gList_tup, DL.K.gIx_ktp, DL.K.gLen_ktp, DL.K.gList_ktp, DL.K.ix1_some, DL.K.ix2_some, DL.K.gSlice_lst, DL.K.gSlice_kls, DL.K.gSlice_tup, DL.K.gTuple_tup, DL.K.gTuple_ktp, DL.K.gTuple_lst, DL.K.gTuple_kls, DL.K.gInt_i, DL.K.gAbs_i, DL.K.gNeg_i, DL.K.gGcd_i, DL.K.gMax_i, DL.K.gMin_i, DL.K.gIs_nn, DL.K.gIsNot_nn, DL.K.gIs_bb, DL.K.gIs_intn, DL.K.gIsNot_intn, DL.K.gIs_strn, DL.K.gIsNot_strn, DL.K.gIs_tupn, DL.K.gIsNot_tupn, DL.K.gIs_lstn, DL.K.gIsNot_lstn, DL.K.gIs_klsn, DL.K.gIsNot_klsn, DL.K.gIs_ktpn, DL.K.gIsNot_ktpn, DL.K.gIs_bln, DL.K.gIsNot_bln, DL.K.gIs_dctn, DL.K.gIsNot_dctn, DL.K.gIs_dttn, DL.K.gIsNot_dttn, DL.K.gEq_ii, DL.K.gNe_ii, DL.K.gNe_bb, DL.K.gEq_bb, DL.K.dtr_bl, DL.K.dtr_int, DL.K.dtr_non, DL.K.dtr_lst, DL.K.dtr_kls, DL.K.dtr_tup, DL.K.dtr_ktp, DL.K.eIsi_K, DL.K.gSet_lst, DL.K.set5_some, DL.K.gAppend_K, DL.K.small0, DL.K.less0, DL.K.small1, DL.K.less1, DL.K.small2, DL.K.less2, DL.K.small3, DL.K.less3, DL.K.small4, DL.K.less4, DL.K.small5, DL.K.less5, DL.K.small6, DL.K.less6, DL.K.small7, DL.K.less7, DL.K.small8, DL.K.less8, DL.K.small9, DL.K.less9, DL.K.small10, DL.K.less10, DL.K.small11, DL.K.less11, DL.K.small12, DL.K.less12, DL.K.small13, DL.K.less13, DL.K.small14, DL.K.less14, DL.K.small15, DL.K.less15, DL.K.small16, DL.K.less16, DL.K.isD_bool_non, DL.K.isD_bool_bl, DL.K.isD_bool_int, DL.K.isD_bool_str, DL.K.isD_bool_tup, DL.K.isD_bool_lst, DL.K.isD_bool_kls, DL.K.isD_bool_ktp, DL.K.isD_bool_dct, DL.K.isD_bool_dtt, DL.K.isD_int_non, DL.K.isD_int_bl, DL.K.isD_int_int, DL.K.isD_int_str, DL.K.isD_int_tup, DL.K.isD_int_lst, DL.K.isD_int_kls, DL.K.isD_int_ktp, DL.K.isD_int_dct, DL.K.isD_int_dtt, DL.K.isD_str_non, DL.K.isD_str_bl, DL.K.isD_str_int, DL.K.isD_str_str, DL.K.isD_str_tup, DL.K.isD_str_lst, DL.K.isD_str_kls, DL.K.isD_str_ktp, DL.K.isD_str_dct, DL.K.isD_str_dtt, DL.K.isD_list_non, DL.K.isD_list_bl, DL.K.isD_list_int, DL.K.isD_list_str, DL.K.isD_list_tup, DL.K.isD_list_lst, DL.K.isD_list_kls, DL.K.isD_list_ktp, DL.K.isD_list_dct, DL.K.isD_list_dtt, DL.K.isD_tuple_non, DL.K.isD_tuple_bl, DL.K.isD_tuple_int, DL.K.isD_tuple_str, DL.K.isD_tuple_tup, DL.K.isD_tuple_lst, DL.K.isD_tuple_kls, DL.K.isD_tuple_ktp, DL.K.isD_tuple_dct, DL.K.isD_tuple_dtt, DL.K.isD_dict_non, DL.K.isD_dict_bl, DL.K.isD_dict_int, DL.K.isD_dict_str, DL.K.isD_dict_tup, DL.K.isD_dict_lst, DL.K.isD_dict_kls, DL.K.isD_dict_ktp, DL.K.isD_dict_dct, DL.K.isD_dict_dtt, DL.K.eTupR1_K, DL.K.tupr1_ok, DL.K.gRev_tup, DL.K.eQ_K, DL.K.q1_lst, DL.K.frzAll_cons, DL.K.frzAll_nil, DL.K.frzS_va, DL.K.frzS_ow, DL.K.frzS_no, DL.K.gMul_r, DL.K.gMul_l, DL.K.gMod_i, DL.K.gFdiv_s, DL.ixI, List.getElem?_cons_zero, List.getElem?_cons_succ, List.set_cons_zero, List.set_cons_succ, List.length_cons, List.length_nil, List.cons_append, List.nil_append, List.replicate_succ, List.replicate_zero, List.map_cons, List.map_nil, List.all_cons, List.all_nil, List.isEmpty_cons, List.isEmpty_nil, Nat.reduceAdd, Nat.reduceSub, Nat.reduceLT, Nat.reduceLeDiff, Nat.reduceEqDiff, Nat.reducePow, Nat.zero_add, Int.reduceNeg, Int.reduceLT, Int.reduceLE, Int.reduceEq, Int.reduceNe, Int.reducePow, Int.reduceAdd, Int.reduceSub, Int.reduceMul, Int.reduceToNat, Int.cast_ofNat_Int, Int.natCast_add, Int.natCast_one, Int.natCast_zero, Int.natAbs_neg, Int.reduceAbs, Int.zero_add, not_false_eq_true, not_true_eq_false, and_self, ne_eq, or_false, false_or, or_true, true_or, if_true, if_false, reduceIte, Bool.not_true, Bool.not_false, decide_eq_true_eq, decide_true, decide_false, true_and, and_true, and_false, false_and, implies_true, Option.some.injEq, reduceCtorEq, List.nodup_nil, List.not_mem_nil, bne_self_eq_false, beq_self_eq_true, Bool.true_and, Bool.and_true, Bool.false_and, Bool.and_false, Bool.true_or, Bool.or_true, Bool.false_or, Bool.or_false, Bool.true_beq, Bool.false_beq, Bool.not_not])
/-! k60: the numbers of a script, bent values. -/
namespace TT
open DL PySem
def NI (ms : List Int) : Prop := (∀ m ∈ ms, 0 ≤ m ∧ m < 4096) ∧ ms.length ≤ 34
theorem NI.snoc {ms : List Int} (h : NI ms) (hl : ms.length < 34) {x : Int} (h0 : 0 ≤ x) (h1 : x < 4096) : NI (ms ++ [x]) := ⟨fun m hm => by
  rcases List.mem_append.mp hm with z | z
  · exact h.1 m z
  · rw [List.mem_singleton] at z; subst z; exact ⟨h0, h1⟩, by rw [List.length_append, List.length_singleton]; omega⟩
theorem map_snoc (ms : List Int) (x : Int) : ms.map D.int ++ [.int x] = (ms ++ [x]).map D.int := by rw [List.map_append]; rfl
theorem nums_in (s0 s1 s4 s7 : Sl) (ms : List Int) (h : NI ms) (cell : Int) (s6 : Sl) : ∃ ms' cell', NI ms' ∧ w__law_numbers_1 [s0, s1, .va (.int 34), .ow false (.lst (ms.map .int)), s4, .va (.int cell), s6, s7] = .nx [s0, s1, .va (.int 34), .ow false (.lst (ms'.map .int)), s4, .va (.int cell'), s6, s7] := by
  by_cases c1 : 0 < cell
  · by_cases c2 : ms.length < 34
    · have c2' : (ms.length : Int) < 34 := by omega
      have hs : ms.length < SZ := by unfold SZ; omega
      refine ⟨ms ++ [cell.fmod 4096], cell.fdiv 4096, h.snoc c2 (Int.fmod_nonneg_of_pos _ (by decide)) (Int.fmod_lt_of_pos _ (by decide)), ?_⟩
      unfold w__law_numbers_1
      push_cast [c1, List.length_map, c2', hs, map_snoc]
    · have c2' : ¬ (ms.length : Int) < 34 := by omega
      refine ⟨ms, cell, h, ?_⟩
      unfold w__law_numbers_1
      push_cast [c1, List.length_map, c2']
  · refine ⟨ms, cell, h, ?_⟩
    unfold w__law_numbers_1
    push_cast [c1]
theorem at_kls {zs : List Int} {k : Nat} (h : k < zs.length) : gIx (.kls (zs.map .int)) (.int (k : Int)) = some (.fz (.int zs[k])) := by
  have i0 : ixI (zs.map D.int).length (k : Int) = some k := by
    unfold ixI; rw [List.length_map, if_pos (by omega), if_pos (by omega), Int.toNat_natCast]
  rw [K.gIx_kls, i0, K.ix1_some, List.getElem?_map, List.getElem?_eq_getElem h]
  rfl
theorem nums_out (zs : List Int) (s1 : Sl) (k : Nat) (hk : k < zs.length) (ms : List Int) (h : NI ms) (s5 s6 s7 : Sl) : ∃ ms' s5' s6' s7', NI ms' ∧ w__law_numbers_2 [.va (.kls (zs.map .int)), s1, .va (.int 34), .ow false (.lst (ms.map .int)), .va (.int (k : Int)), s5, s6, s7] = .nx [.va (.kls (zs.map .int)), s1, .va (.int 34), .ow false (.lst (ms'.map .int)), .va (.int (k : Int)), s5', s6', s7'] := by
  have ga := at_kls hk
  have u60 : upFrom 0 60 = (List.range 60).map fun (i : Nat) => D.int (i : Int) := upFrom0 60
  obtain ⟨z, hz⟩ : ∃ z : Int, (if zs[k] < 0 then -zs[k] else zs[k]) = z := ⟨_, rfl⟩
  by_cases c1 : 1000000000000000000 ≤ z
  · obtain ⟨r', e, ms', cell', s6', h', rfl⟩ := for_inv (t := .one 6) (b := w__law_numbers_1) (fun (i : Nat) => D.int (i : Int)) (fun _ r => ∃ ms cell s6, NI ms ∧ r = [.va (.kls (zs.map .int)), s1, .va (.int 34), .ow false (.lst (ms.map .int)), .va (.int (k : Int)), .va (.int cell), s6, s7]) (List.range 60) (r := [.va (.kls (zs.map .int)), s1, .va (.int 34), .ow false (.lst (ms.map .int)), .va (.int (k : Int)), .va (.int z), s6, s7]) ⟨ms, _, s6, h, rfl⟩ (by
      rintro pre i post e r ⟨ms, cell, s6, h, rfl⟩
      obtain ⟨ms', cell', h', g⟩ := nums_in (.va (.kls (zs.map .int))) s1 (.va (.int (k : Int))) s7 ms h cell (.va (.int (i : Int)))
      exact ⟨_, rfl, _, .inl g, ms', cell', _, h', rfl⟩)
    refine ⟨ms', .va (.int cell'), s6', s7, h', ?_⟩
    unfold w__law_numbers_2
    push_cast [ga, hz, c1, u60, e]
  · by_cases c2 : ms.length < 34
    · have c2' : (ms.length : Int) < 34 := by omega
      have hs : ms.length < SZ := by unfold SZ; omega
      obtain ⟨y, hy⟩ : ∃ y : Int, (z * 48271 + (k : Int) * 69621 + 12345).fmod 2147483647 = y := ⟨_, rfl⟩
      obtain ⟨x, hx⟩ : ∃ x : Int, (y * 69621 + y.fdiv 1009).fmod 1000003 = x := ⟨_, rfl⟩
      refine ⟨ms ++ [x.fmod 4096], .va (.int z), s6, .va (.int x), h.snoc c2 (Int.fmod_nonneg_of_pos _ (by decide)) (Int.fmod_lt_of_pos _ (by decide)), ?_⟩
      unfold w__law_numbers_2
      push_cast [ga, hz, c1, List.length_map, c2', hs, hy, hx, map_snoc]
    · have c2' : ¬ (ms.length : Int) < 34 := by omega
      refine ⟨ms, .va (.int z), s6, s7, h, ?_⟩
      unfold w__law_numbers_2
      push_cast [ga, hz, c1, List.length_map, c2']
theorem nums_is (zs : List Int) (hz : zs.length ≤ 63) : ∃ ms, NI ms ∧ d__law_numbers [.kls (zs.map .int), .int 1, .int 34] = .ok (.tm (.lst (ms.map .int))) [] := by
  obtain ⟨r', e, ms, s4, s5, s6, s7, h, rfl⟩ := for_inv (t := .one 4) (b := w__law_numbers_2) (fun (i : Nat) => D.int (i : Int)) (fun _ r => ∃ ms s4 s5 s6 s7, NI ms ∧ r = [.va (.kls (zs.map .int)), .va (.int 1), .va (.int 34), .ow false (.lst (ms.map .int)), s4, s5, s6, s7]) (List.range' 1 (zs.length - 1)) (r := [.va (.kls (zs.map .int)), .va (.int 1), .va (.int 34), .ow false (.lst []), .no, .no, .no, .no]) ⟨[], _, _, _, _, ⟨fun m hm => (nomatch hm), Nat.zero_le _⟩, rfl⟩ (by
    rintro pre k post e r ⟨ms, s4, s5, s6, s7, h, rfl⟩
    have hk : k ∈ List.range' 1 (zs.length - 1) := by rw [e]; simp
    rw [List.mem_range'_1] at hk
    obtain ⟨ms', s5', s6', s7', h', g⟩ := nums_out zs (.va (.int 1)) k (by omega) ms h s5 s6 s7
    exact ⟨_, rfl, _, .inl g, ms', _, s5', s6', s7', h', rfl⟩)
  refine ⟨ms, h, ?_⟩
  have u : upFrom 1 (zs.length - 1) = (List.range' 1 (zs.length - 1)).map fun (i : Nat) => D.int (i : Int) := upFromN 1 _
  have b1 : -4611686018427387904 ≤ (zs.length : Int) := by omega
  have b2 : (zs.length : Int) < 4611686018427387904 := by omega
  have b3 : ((zs.length : Int) - 1).toNat = zs.length - 1 := by omega
  unfold d__law_numbers b__law_numbers
  push_cast [List.length_map, b1, b2, b3, u, e]
end TT
end

section
set_option autoImplicit false
set_option linter.all false
set_option maxRecDepth 20000
local macro_rules | `(tactic| push_cast [$ls,*]) => `(tactic| simp only [$ls,*, DL.K.eBin_K, DL.K.bin1_ok, DL.K.bin1_err, DL.K.opt_some, DL.K.bin2_ok, DL.K.bin2_err, DL.K.bin3_some, DL.K.eUn_K, DL.K.un1_ok, DL.K.un1_err, DL.K.un2_some, DL.K.aCons_K, DL.K.cons1_ok, DL.K.cons1_err, DL.K.cons2_ok, DL.K.cons2_err, DL.K.aNil_K, DL.K.ePure_K, DL.K.pure1_ok, DL.K.pure1_err, DL.K.pure2_some, DL.K.eTup_K, DL.K.tup1_ok, DL.K.tup1_err, DL.K.tup2_some, DL.K.eLst_K, DL.K.lst1_ok, DL.K.lst1_err, DL.K.lst2_some, DL.K.eName_K, DL.K.name1_va, DL.K.name1_ow, DL.K.eC_K, DL.K.rsv_fz, DL.K.rsv_tm, DL.K.rsv_br, DL.K.rsv1_ow, DL.K.rsv1_va, DL.K.rsvs_nil, DL.K.rsvs_cons, DL.K.rsvs1_some, DL.K.rsvs2_some, DL.K.fzo_fz, DL.K.fzo_tm, DL.K.fzo_br, DL.K.fzo1_ow, DL.K.fzo1_va, DL.K.fzos_nil, DL.K.fzos_cons, DL.K.fzos1_some, DL.K.fzos2_some, DL.K.tTru_K, DL.K.tru1_ok, DL.K.tru1_err, DL.K.tru2_some, DL.K.tru3_some, DL.K.tBl_K, DL.K.tbl1_ok, DL.K.tbl1_err, DL.K.tAnd_K, DL.K.and1_t, DL.K.and1_f, DL.K.and1_err, DL.K.tOr_K, DL.K.or1_t, DL.K.or1_f, DL.K.or1_err, DL.K.tNot_K, DL.K.not1_ok, DL.K.not1_err, DL.K.tYes_K, DL.K.eAnd_K, DL.K.eand1_t, DL.K.eand1_f, DL.K.eand1_err, DL.K.eOr_K, DL.K.eor1_t, DL.K.eor1_f, DL.K.eor1_err, DL.K.eNot_K, DL.K.eNotE_K, DL.K.enot1_ok, DL.K.enot1_err, DL.K.eIf_K, DL.K.eif1_t, DL.K.eif1_f, DL.K.eif1_err, DL.K.eCh_K, DL.K.ch1_ok, DL.K.ch1_err, DL.K.chLast_K, DL.K.chLink_K, DL.K.link1_ok, DL.K.link2_some, DL.K.link3_t, DL.K.link3_f, DL.K.eCall_K, DL.K.call1_ok, DL.K.call1_err, DL.K.call2_nil, DL.K.call2_one, DL.K.call3_ok0, DL.K.call3_err0, DL.K.call3_ok1, DL.K.call3_err1, DL.K.put1_ow, DL.K.isOw_ow, DL.K.iosOf_nil, DL.K.iosOf_f, DL.K.iosOf_t, DL.K.argsOf_nil, DL.K.argsOf_f, DL.K.args1_some, DL.K.args2_some, DL.K.argsOf_t, DL.K.args3_ow, DL.K.sSeq_K, DL.K.seq1_nx, DL.K.seq1_ret, DL.K.seq1_brk, DL.K.seq1_cnt, DL.K.seq1_err, DL.K.sNext_K, DL.K.sBreak_K, DL.K.sCont_K, DL.K.sRetN_K, DL.K.sRaise_K, DL.K.sExpr_K, DL.K.expr1_ok, DL.K.expr1_err, DL.K.sSet_K, DL.K.set1_fz, DL.K.set1_tm, DL.K.set1_br, DL.K.set2_some, DL.K.set1_err, DL.K.sUnp_K, DL.K.unp1_ok, DL.K.unp1_err, DL.K.unp2_some, DL.K.nxo_some, DL.K.put_one, DL.K.put_tup, DL.K.put_ktp, DL.K.setAll_nil, DL.K.setAll_cons, DL.K.sPar_K, DL.K.par1_ok, DL.K.par1_err, DL.K.par2_ok, DL.K.par2_err, DL.K.par3_some, DL.K.keep2_fz, DL.K.keep2_tm, DL.K.sAug_K, DL.K.aug0_va, DL.K.aug1_ok, DL.K.aug1_err, DL.K.aug2_some, DL.K.aug3_some, DL.K.sRet_K, DL.K.ret1_fz, DL.K.ret1_tm, DL.K.ret1_br, DL.K.ret1_err, DL.K.ret2_ow, DL.K.ret2_va, DL.K.sIf_K, DL.K.if1_t, DL.K.if1_f, DL.K.if1_err, DL.K.sSub_K, DL.K.sub1_ok, DL.K.sub1_err, DL.K.sub2_ok, DL.K.sub2_err, DL.K.sub3_some, DL.K.sub4_some, DL.K.sub5_some, DL.K.eMut_K, DL.K.isL_lst, DL.K.mut0_ok, DL.K.mut0_err, DL.K.mut1_some, DL.K.mut2_some, DL.K.mut3_some, DL.K.sFor_K, DL.K.for1_ok, DL.K.for1_err, DL.K.forGo_nil, DL.K.forGo_cons, DL.K.go0_some, DL.K.go1_nx, DL.K.go1_cnt, DL.K.go1_brk, DL.K.go1_ret, DL.K.go1_err, DL.K.whN_K, DL.K.wh1_t, DL.K.wh1_f, DL.K.wh2_nx, DL.K.wh2_cnt, DL.K.wh2_brk, DL.K.wh2_ret, DL.K.wh2_err, DL.K.iSeq_K, DL.K.iseq1_ok, DL.K.iseq1_err, DL.K.iseq2_lst, DL.K.iseq2_tup, DL.K.iseq2_kls, DL.K.iseq2_ktp, DL.K.iRng1_K, DL.K.rg1_ok, DL.K.rg1_err, DL.K.iRng2_K, DL.K.rg2_ok, DL.K.rg2_err, DL.K.rg3_ok, DL.K.rg3_err, DL.K.pNo_K, DL.K.pSome_K, DL.K.psome1_ok, DL.K.eSlice_K, DL.K.sl1_ok, DL.K.sl1_err, DL.K.sl2_ok, DL.K.sl3_ok, DL.K.eLc_K, DL.K.lc0_err, DL.K.lc0_ok, DL.K.lcGo_nil, DL.K.lcGo_cons, DL.K.lc1_some, DL.K.lc2_t, DL.K.lc2_f, DL.K.lc3_ok, DL.K.lc4_some, DL.K.wipeE_nil, DL.K.wipeE_cons, DL.K.backE_nil, DL.K.backE_cons, DL.K.backSl_some, DL.K.isOw_va, DL.K.isOw_no, DL.K.eNewK_K, DL.K.eNewT_K, DL.K.eDisp1_K, DL.K.disp1_ok, DL.K.disp2_ok, DL.K.disp4_i, DL.K.gDictOf_K, DL.K.gRev_lst, DL.K.eLstR1_K, DL.K.lstr1_ok, DL.K.iZip_K, DL.K.zip1_ok, DL.K.zip2_ok, DL.K.zip3_some, DL.K.zip3b_some, DL.K.zip4_lstlst, DL.K.zip4_lstkls, DL.K.zip4_klslst, DL.K.zip4_klskls, DL.K.zip4_tuptup, DL.K.zip4_tupktp, DL.K.zip4_ktptup, DL.K.zip4_ktpktp, DL.K.iEnum_K, DL.K.enum1_ok, DL.K.enum2_lst, DL.K.enum2_kls, DL.K.eLcN_K, DL.K.lcn2_some, DL.K.iKeysD_K, DL.K.kd1_va, DL.K.isK_vaint, DL.K.isK_owint, DL.K.isK_vastr, DL.K.isK_owstr, DL.K.isK_vatup, DL.K.isK_owtup, DL.K.isK_valst, DL.K.isK_owlst, DL.K.isK_vakls, DL.K.isK_owkls, DL.K.isK_vaktp, DL.K.isK_owktp, DL.K.isK_vabl, DL.K.isK_owbl, DL.K.isK_vanon, DL.K.isK_vadct, DL.K.isK_owdct, DL.K.gLen_dct, DL.K.gIn_dct, DL.K.gNotIn_dct, DL.K.gIx_dct, DL.K.ixd_some, DL.K.gSet_dct, DL.K.sTry_K, DL.K.try1_nx, DL.K.try1_ret, DL.K.try1_brk, DL.K.try1_cnt, DL.K.try1_err, DL.K.try3_t, DL.K.try3_f, DL.K.try2_nx, DL.K.try2_ret, DL.K.try2_brk, DL.K.try2_cnt, DL.K.fnD_K, DL.K.fn1_ret, DL.K.fn1_nx, DL.K.fn1_err, DL.K.fn3_some, DL.K.fn4_some, DL.K.iosAt_nil, DL.K.iosAt_f, DL.K.iosAt_t, DL.K.ios1_ow, DL.K.argSl_f, DL.K.argSl_t, DL.K.argSl_nil, DL.K.gAdd_i, DL.K.gAdd_t, DL.K.gAdd_l, DL.K.gSub_i, DL.K.gIAdd_i, DL.K.gLt_i, DL.K.gLe_i, DL.K.gGt_i, DL.K.gGe_i, DL.K.gIx_lst, DL.K.gLen_lst, DL.K.gList_lst, DL.K.gIx_kls, DL.K.gLen_kls, DL.K.gList_kls, DL.K.gIx_tup, DL.K.gLen_tup, DL.K.gList_tup, DL.K.gIx_ktp, DL.K.gLen_ktp, DL.K.gList_ktp, DL.K.ix1_some, DL.K.ix2_some, DL.K.gSlice_lst, DL.K.gSlice_kls, DL.K.gSlice_tup, DL.K.gTuple_tup, DL.K.gTuple_ktp, DL.K.gTuple_lst, DL.K.gTuple_kls, DL.K.gInt_i, DL.K.gAbs_i, DL.K.gNeg_i, DL.K.gGcd_i, DL.K.gMax_i, DL.K.gMin_i, DL.K.gIs_nn, DL.K.gIsNot_nn, DL.K.gIs_bb, DL.K.gIs_intn, DL.K.gIsNot_intn, DL.K.gIs_strn, DL.K.gIsNot_strn, DL.K.gIs_tupn, DL.K.gIsNot_tupn, DL.K.gIs_lstn, DL.K.gIsNot_lstn, DL.K.gIs_klsn, DL.K.gIsNot_klsn, DL.K.gIs_ktpn, DL.K.gIsNot_ktpn, DL.K.gIs_bln, DL.K.gIsNot_bln, DL.K.gIs_dctn, DL.K.gIsNot_dctn, DL.K.gIs_dttn, DL.K.gIsNot_dttn, DL.K.gEq_ii, DL.K.gNe_ii, DL.K.gNe_bb, DL.K.gEq_bb, DL.K.dtr_bl, DL.K.dtr_int, DL.K.dtr_non, DL.K.dtr_lst, DL.K.dtr_kls, DL.K.dtr_tup, DL.K.dtr_ktp, DL.K.eIsi_K, DL.K.gSet_lst, DL.K.set5_some, DL.K.gAppend_K, DL.K.small0, DL.K.less0, DL.K.small1, DL.K.less1, DL.K.small2, DL.K.less2, DL.K.small3, DL.K.less3, DL.K.small4, DL.K.less4, DL.K.small5, DL.K.less5, DL.K.small6, DL.K.less6, DL.K.small7, DL.K.less7, DL.K.small8, DL.K.less8, DL.K.small9, DL.K.less9, DL.K.small10, DL.K.less10, DL.K.small11, DL.K.less11, DL.K.small12, DL.K.less12, DL.K.small13, DL.K.less13, DL.K.small14, DL.K.less14, DL.K.small15, DL.K.less15, DL.K.small16, DL.K.less16, DL.K.isD_bool_non, DL.K.isD_bool_bl, DL.K.isD_bool_int, DL.K.isD_bool_str, DL.K.isD_bool_tup, DL.K.isD_bool_lst, DL.K.isD_bool_kls, DL.K.isD_bool_ktp, DL.K.isD_bool_dct, DL.K.isD_bool_dtt, DL.K.isD_int_non, DL.K.isD_int_bl, DL.K.isD_int_int, DL.K.isD_int_str, DL.K.isD_int_tup, DL.K.isD_int_lst, DL.K.isD_int_kls, DL.K.isD_int_ktp, DL.K.isD_int_dct, DL.K.isD_int_dtt, DL.K.isD_str_non, DL.K.isD_str_bl, DL.K.isD_str_int, DL.K.isD_str_str, DL.K.isD_str_tup, DL.K.isD_str_lst, DL.K.isD_str_kls, DL.K.isD_str_ktp, DL.K.isD_str_dct, DL.K.isD_str_dtt, DL.K.isD_list_non, DL.K.isD_list_bl, DL.K.isD_list_int, DL.K.isD_list_str, DL.K.isD_list_tup, DL.K.isD_list_lst, DL.K.isD_list_kls, DL.K.isD_list_ktp, DL.K.isD_list_dct, DL.K.isD_list_dtt, DL.K.isD_tuple_non, DL.K.isD_tuple_bl, DL.K.isD_tuple_int, DL.K.isD_tuple_str, DL.K.isD_tuple_tup, DL.K.isD_tuple_lst, DL.K.isD_tuple_kls, DL.K.isD_tuple_ktp, DL.K.isD_tuple_dct, DL.K.isD_tuple_dtt, DL.K.isD_dict_non, DL.K.isD_dict_bl, DL.K.isD_dict_int, DL.K.isD_dict_str, DL.K.isD_dict_tup, DL.K.isD_dict_lst, DL.K.isD_dict_kls, DL.K.isD_dict_ktp, DL.K.isD_dict_dct, DL.K.isD_dict_dtt, DL.K.eTupR1_K, DL.K.tupr1_ok, DL.K.gRev_tup, DL.K.eQ_K, DL.K.q1_lst, DL.K.frzAll_cons, DL.K.frzAll_nil, DL.K.frzS_va, DL.K.frzS_ow, DL.K.frzS_no, DL.K.gMul_r, DL.K.gMul_l, DL.K.gMod_i, DL.K.gFdiv_s, DL.ixI, List.getElem?_cons_zero, List.getElem?_cons_succ, List.set_cons_zero, List.set_cons_succ, List.length_cons, List.length_nil, List.cons_append, List.nil_append, List.replicate_succ, List.replicate_zero, List.map_cons, List.map_nil, List.all_cons, List.all_nil, List.isEmpty_cons, List.isEmpty_nil, Nat.reduceAdd, Nat.reduceSub, Nat.reduceLT, Nat.reduceLeDiff, Nat.reduceEqDiff, Nat.reducePow, Nat.zero_add, Int.reduceNeg, Int.reduceLT, Int.reduceLE, Int.reduceEq, Int.reduceNe, Int.reducePow, Int.reduceAdd, Int.reduceSub, Int.reduceMul, Int.reduceToNat, Int.cast_ofNat_Int, Int.natCast_add, Int.natCast_one, Int.natCast_zero, Int.natAbs_neg, Int.reduceAbs, Int.zero_add, not_false_eq_true, not_true_eq_false, and_self, ne_eq, or_false, false_or, or_true, true_or, if_true, if_false, reduceIte, Bool.not_true, Bool.not_false, decide_eq_true_eq, decide_true, decide_false, true_and, and_true, and_false, false_and, implies_true, Option.some.injEq, reduceCtorEq, List.nodup_nil, List.not_mem_nil, bne_self_eq_false, beq_self_eq_true, Bool.true_and, Bool.and_true, Bool.false_and, Bool.and_false, Bool.true_or, Bool.or_true, Bool.false_or, Bool.or_false, Bool.true_beq, Bool.false_beq, Bool.not_not])
/-! k60: what a neighborhood is. -/
namespace TT
open DL PySem
theorem isint_is (d : D) : d_is_integer [d] = .ok (.fz (.bl (isI d))) [] := by
  unfold d_is_integer b_is_integer
  cases d <;> push_cast [K.eC_K] <;> rfl
def key2 : D → Option (Int × Int)
  | .tup [.int a, .int b] => some (a, b)
  | _ => none
def ltP (p q : Int × Int) : Bool := if p.1 = q.1 then decide (p.2 < q.2) else decide (p.1 < q.1)
def prB (n : Int) (d : D) : Bool := match key2 d with
  | some p => decide (0 ≤ p.1) && (decide (p.1 < p.2) && decide (p.2 < n))
  | none => false
def key2' (d : D) : Int × Int := (key2 d).getD (0, 0)
def goodP (n : Int) : Int × Int → List D → Bool
  | _, [] => true
  | p, d :: ds => (prB n d && ltP p (key2' d)) && goodP n (key2' d) ds
def nhB : D → Bool
  | .tup [.int n, .tup rows] => decide (0 ≤ n) && (decide (n ≤ 24) && goodP n (-1, -1) rows)
  | _ => false
theorem goodP_zip (n : Int) : ∀ (ds : List D) (d : D), goodP n (key2' d) ds = (ds.all (prB n) && ((d :: ds).zip ds).all fun p => ltP (key2' p.1) (key2' p.2))
  | [], d => rfl
  | e :: ds, d => by
    unfold goodP
    rw [List.all_cons, List.zip_cons_cons, List.all_cons, goodP_zip n ds e]
    cases prB n e <;> cases ltP (key2' d) (key2' e) <;> cases ds.all (prB n) <;> rfl
theorem key2_some {d : D} {p : Int × Int} (h : key2 d = some p) : d = .tup [.int p.1, .int p.2] := by
  unfold key2 at h
  split at h
  · cases h; rfl
  · cases h
theorem goodP_all (n : Int) (ds : List D) : goodP n (-1, -1) ds = (ds.all (prB n) && (ds.zip ds.tail).all fun p => ltP (key2' p.1) (key2' p.2)) := by
  cases ds with
  | nil => rfl
  | cons d ds =>
    unfold goodP
    rw [List.all_cons, List.tail_cons, goodP_zip n ds d]
    cases c : prB n d with
    | false => rfl
    | true =>
      have : ltP (-1, -1) (key2' d) = true := by
        unfold prB at c
        split at c
        · rename_i q hq
          simp only [Bool.and_eq_true, decide_eq_true_eq] at c
          have hq' : key2' d = q := by unfold key2'; rw [hq]; rfl
          rw [hq']
          unfold ltP
          rw [if_neg (by dsimp only; omega), decide_eq_true_eq]
          dsimp only; omega
        · cases c
      rw [this]
      cases ds.all (prB n) <;> rfl
theorem key2_none {xs : List D} (h : key2 (.tup xs) = none) (hl : xs.length = 2) : ∃ x y, xs = [x, y] ∧ (isI x && isI y) = false := by
  match xs, hl with
  | [x, y], _ =>
    refine ⟨x, y, rfl, ?_⟩
    cases x <;> try rfl
    cases y <;> try rfl
    cases h
theorem two_of {xs : List D} (h : xs.length = 2) : ∃ x y, xs = [x, y] := by
  match xs, h with
  | [x, y], _ => exact ⟨x, y, rfl⟩
theorem ge_pair (a b c d : Int) : gGeA (.tup [.int a, .int b]) (.tup [.int c, .int d]) = some (.fz (.bl (!ltP (a, b) (c, d)))) := by
  show some (Op.fz (D.bl (!(if (a == c) = true then (if (b == d) = true then false else decide (b < d)) else decide (a < c))))) = _
  unfold ltP
  dsimp only
  congr 4
  by_cases h1 : a = c
  · rw [if_pos (by simpa using h1), if_pos h1]
    by_cases h2 : b = d
    · rw [if_pos (by simpa using h2), decide_eq_false (by omega)]
    · rw [if_neg (by simpa using h2)]
  · rw [if_neg (by simpa using h1), if_neg h1]
theorem lt_pair (a b c d : Int) : gLtA (.tup [.int a, .int b]) (.tup [.int c, .int d]) = some (.fz (.bl (ltP (a, b) (c, d)))) := by
  have e : lexLtI [a, b] [c, d] = ltP (a, b) (c, d) := by
    rw [Bool.eq_iff_iff]
    unfold ltP
    dsimp only
    by_cases h1 : a = c
    · rw [if_pos h1]; simp [lexLtI, h1]; omega
    · rw [if_neg h1]; simp [lexLtI, h1]
  show some (Op.fz (D.bl (lexLtI [a, b] [c, d]))) = _
  rw [e]
theorem map_empty {α β : Type} (f : α → β) (l : List α) : (l.map f).isEmpty = l.isEmpty := by cases l <;> rfl
theorem pair_is {L m : Nat} {d : D} (hd : okW L m d = true) (n : Int) : d_is_pair [d, .int n] = .ok (.fz (.bl (prB n d))) [] := by
  cases d with
  | tup xs =>
    cases h : key2 (.tup xs) with
    | none =>
      have e0 : prB n (.tup xs) = false := by unfold prB; rw [h]
      rw [e0]
      by_cases hl : xs.length = 2
      · obtain ⟨x, y, rfl, hi⟩ := key2_none h hl
        have lx := isint_is x
        have ly := isint_is y
        unfold d_is_pair b_is_pair
        cases hx : isI x with
        | false =>
          rw [hx] at lx
          push_cast [lx]
        | true =>
          rw [hx] at lx hi
          rw [show isI y = false from hi] at ly
          push_cast [lx, ly]
      · have hl' : ¬ ((xs.length : Int) = 2) := by omega
        unfold d_is_pair b_is_pair
        push_cast [hl']
    | some p =>
      have e0 := key2_some h
      cases e0
      have lx := isint_is (.int p.1)
      have ly := isint_is (.int p.2)
      rw [show isI (.int p.1) = true from rfl] at lx
      rw [show isI (.int p.2) = true from rfl] at ly
      have e3 : prB n (.tup [.int p.1, .int p.2]) = (decide (0 ≤ p.1) && (decide (p.1 < p.2) && decide (p.2 < n))) := rfl
      rw [e3]
      unfold d_is_pair b_is_pair
      by_cases c1 : 0 ≤ p.1
      · by_cases c2 : p.1 < p.2
        · push_cast [lx, ly, c1, c2]
        · push_cast [lx, ly, c1, c2]
      · push_cast [lx, ly, c1]
  | ktp _ => cases m <;> cases hd
  | _ =>
    unfold d_is_pair b_is_pair
    push_cast [K.eC_K]
    rfl
theorem key2'_eq {d : D} {n : Int} (h : prB n d = true) : ∃ a b : Int, d = .tup [.int a, .int b] ∧ key2' d = (a, b) := by
  unfold prB at h
  split at h
  · rename_i p hp
    have e := key2_some hp
    subst e
    exact ⟨p.1, p.2, rfl, rfl⟩
  · cases h
theorem nhB_tup {xs : List D} (h : xs.length ≠ 2) : nhB (.tup xs) = false := by
  match xs, h with
  | [], _ => rfl
  | [x], _ => cases x <;> rfl
  | [_, _], h => exact absurd rfl h
  | x :: y :: _ :: _, _ => cases x <;> cases y <;> rfl
theorem is_nh {L m : Nat} (hL : L ≤ 2000) (hm : m ≤ 50) {v : D} (hv : okW L m v = true) : d_is_neighborhood [v] = .ok (.fz (.bl (nhB v))) [] := by
  cases v with
  | tup xs =>
    by_cases h2 : xs.length = 2
    · obtain ⟨x, y, rfl⟩ := two_of h2
      cases m with
      | zero => cases hv
      | succ m =>
      have hy := (okW_tup.mp hv).2 y (by simp)
      have li := isint_is x
      cases x with
      | int n =>
        rw [show isI (.int n) = true from rfl] at li
        by_cases c1 : 0 ≤ n
        · by_cases c2 : n ≤ 24
          · cases y with
            | tup rows =>
              cases m with
              | zero => cases hy
              | succ m =>
              obtain ⟨hl, hx⟩ := okW_tup.mp hy
              have e0 : nhB (.tup [.int n, .tup rows]) = goodP n (-1, -1) rows := by
                show (decide (0 ≤ n) && (decide (n ≤ 24) && goodP n (-1, -1) rows)) = _
                rw [decide_eq_true c1, decide_eq_true c2]; rfl
              rw [e0, goodP_all]
              have e := lc_filter (vs := [3]) (t := .one 3) (c := t_is_neighborhood_1) (e := eName 3) (r0 := [.va (.tup [.int n, .tup rows]), .va (.int n), .va (.tup rows), .no, .no]) (fun d => !prB n d) rows (by unfold SZ; omega) (by
                intro d hd
                have li := pair_is (hx d hd) n
                refine ⟨[.va (.tup [.int n, .tup rows]), .va (.int n), .va (.tup rows), .va d, .no], rfl, rfl, ?_, fun _ => ⟨.fz d, ?_, rfl⟩⟩
                · unfold t_is_neighborhood_1
                  push_cast [li]
                · push_cast [K.eC_K])
              have o59 : okXs 59 rows = true := okXs_iff.mpr fun d hd => okW_X (okW_mono (Nat.le_refl L) (by omega) (hx d hd))
              have e2 := gNe_lnilX (okXs_filter (p := fun d => !prB n d) o59)
              rw [filter_empty] at e2
              simp only [Bool.not_not] at e2
              cases q : rows.all (prB n) with
              | false =>
                rw [q] at e2
                unfold d_is_neighborhood b_is_neighborhood
                push_cast [li, c1, c2, e, e2]
              | true =>
                rw [q] at e2
                rw [List.all_eq_true] at q
                have hz : ∀ p ∈ rows.zip rows.tail, p.1 ∈ rows ∧ p.2 ∈ rows := fun p hp => by
                  obtain ⟨a, b⟩ := p
                  exact ⟨(List.of_mem_zip hp).1, List.mem_of_mem_tail (List.of_mem_zip hp).2⟩
                have e3 := lc_is (vs := [3, 4]) (t := .many [3, 4]) (c := t_is_neighborhood_2) (e := eName 3) (r0 := [.va (.tup [.int n, .tup rows]), .va (.int n), .va (.tup rows), .no, .no]) (fun p : D × D => D.tup [p.1, p.2]) (fun p => !ltP (key2' p.1) (key2' p.2)) (fun p => p.1) (rows.zip rows.tail) (by rw [List.length_zip]; unfold SZ; omega) (by
                  intro p hp
                  obtain ⟨h1, h2⟩ := hz p hp
                  obtain ⟨a, b, e4, k4⟩ := key2'_eq (q _ h1)
                  obtain ⟨a', b', e5, k5⟩ := key2'_eq (q _ h2)
                  refine ⟨[.va (.tup [.int n, .tup rows]), .va (.int n), .va (.tup rows), .va p.1, .va p.2], rfl, rfl, ?_, fun _ => ⟨.fz p.1, ?_, rfl⟩⟩
                  · rw [k4, k5, e4, e5]
                    unfold t_is_neighborhood_2
                    push_cast [ge_pair]
                  · push_cast [K.eC_K])
                have ez : zipD rows (cutD rows (some 1) none) = (rows.zip rows.tail).map fun p => D.tup [p.1, p.2] := by
                  by_cases h1 : 1 ≤ rows.length
                  · have c := (cut_nat rows 1 h1).2
                    rw [show ((1 : Nat) : Int) = 1 from rfl] at c
                    rw [c]
                    have := zipD_eq (fun d : D => d) (fun d : D => d) rows (rows.drop 1)
                    rw [List.map_id', List.map_id', List.drop_one] at this
                    rw [List.drop_one]; exact this
                  · have : rows = [] := List.eq_nil_of_length_eq_zero (by omega)
                    subst this; rfl
                have e6 := gEq_lnilX (okXs_iff.mpr fun d hd => okXs_iff.mp o59 d (by
                  obtain ⟨p, hp, rfl⟩ := List.mem_map.mp hd
                  exact (hz p (List.mem_filter.mp hp).1).1) : okXs 59 (((rows.zip rows.tail).filter fun p => !ltP (key2' p.1) (key2' p.2)).map fun p => p.1) = true)
                rw [map_empty, filter_empty] at e6
                simp only [Bool.not_not] at e6
                unfold d_is_neighborhood b_is_neighborhood
                push_cast [li, c1, c2, e, e2, ez, e3, e6]
            | ktp _ => cases m <;> cases hy
            | _ =>
              unfold d_is_neighborhood b_is_neighborhood
              push_cast [li, c1, c2]
              rfl
          · have e0 : nhB (.tup [.int n, y]) = false := by
              cases y with
              | tup rows => show (decide (0 ≤ n) && (decide (n ≤ 24) && _)) = _; rw [decide_eq_false c2, Bool.false_and, Bool.and_false]
              | _ => rfl
            rw [e0]
            unfold d_is_neighborhood b_is_neighborhood
            push_cast [li, c1, c2]
        · have e0 : nhB (.tup [.int n, y]) = false := by
            cases y with
            | tup rows => show (decide (0 ≤ n) && (decide (n ≤ 24) && _)) = _; rw [decide_eq_false c1, Bool.false_and]
            | _ => rfl
          rw [e0]
          unfold d_is_neighborhood b_is_neighborhood
          push_cast [li, c1]
      | _ =>
        rw [show isI _ = false from rfl] at li
        unfold d_is_neighborhood b_is_neighborhood
        push_cast [li]
        rfl
    · have h2' : ¬ ((xs.length : Int) = 2) := by omega
      rw [nhB_tup h2]
      unfold d_is_neighborhood b_is_neighborhood
      push_cast [h2']
  | ktp _ => cases m <;> cases hv
  | _ =>
    unfold d_is_neighborhood b_is_neighborhood
    push_cast [K.eC_K]
    rfl
def pI (p : Int × Int) : D := .tup [.int p.1, .int p.2]
theorem lrow {L m : Nat} (n : Int) (y : D) (p : Int × Int) {d : D} (hd : okW L m d = true) :
    (prB n d && ltP p (key2' d)) = true ∧ w__law_is_neighborhood_1 [.va (.tup [.int n, y]), .va (pI p), .va d] = .nx [.va (.tup [.int n, y]), .va (pI (key2' d)), .va d] ∨
    (prB n d && ltP p (key2' d)) = false ∧ w__law_is_neighborhood_1 [.va (.tup [.int n, y]), .va (pI p), .va d] = .ret (.fz (.bl false)) [.va (.tup [.int n, y]), .va (pI p), .va d] := by
  cases d with
  | tup xs =>
    cases h : key2 (.tup xs) with
    | none =>
      have e0 : prB n (.tup xs) = false := by unfold prB; rw [h]
      rw [e0]
      refine .inr ⟨rfl, ?_⟩
      by_cases hl : xs.length = 2
      · obtain ⟨x, y', rfl, hi⟩ := key2_none h hl
        have lx := lint_is x
        have ly := lint_is y'
        unfold w__law_is_neighborhood_1
        cases hx : isI x with
        | false =>
          rw [hx] at lx
          push_cast [lx]
        | true =>
          rw [hx] at lx hi
          rw [show isI y' = false from hi] at ly
          push_cast [lx, ly]
      · have hl' : ¬ ((xs.length : Int) = 2) := by omega
        unfold w__law_is_neighborhood_1
        push_cast [hl']
    | some q =>
      have e0 := key2_some h
      cases e0
      have hq : key2' (.tup [.int q.1, .int q.2]) = q := rfl
      have hk : prB n (.tup [.int q.1, .int q.2]) = (decide (0 ≤ q.1) && (decide (q.1 < q.2) && decide (q.2 < n))) := rfl
      rw [hq, hk]
      have lx := lint_is (.int q.1)
      have ly := lint_is (.int q.2)
      rw [show isI (.int q.1) = true from rfl] at lx
      rw [show isI (.int q.2) = true from rfl] at ly
      have gl := lt_pair p.1 p.2 q.1 q.2
      unfold pI
      unfold w__law_is_neighborhood_1
      by_cases c1 : 0 ≤ q.1
      · by_cases c2 : q.1 < q.2
        · by_cases c3 : q.2 < n
          · cases c4 : ltP p q with
            | true =>
              rw [show ltP (p.1, p.2) (q.1, q.2) = true from c4] at gl
              refine .inl ⟨by simp [c1, c2, c3], ?_⟩
              push_cast [lx, ly, c1, c2, c3, gl]
            | false =>
              rw [show ltP (p.1, p.2) (q.1, q.2) = false from c4] at gl
              refine .inr ⟨by simp [c1, c2, c3], ?_⟩
              push_cast [lx, ly, c1, c2, c3, gl]
          · refine .inr ⟨by simp [c1, c2, c3], ?_⟩
            push_cast [lx, ly, c1, c2, c3]
        · refine .inr ⟨by simp [c1, c2], ?_⟩
          push_cast [lx, ly, c1, c2]
      · refine .inr ⟨by simp [c1], ?_⟩
        push_cast [lx, ly, c1]
  | ktp _ => cases m <;> cases hd
  | _ =>
    refine .inr ⟨rfl, ?_⟩
    unfold w__law_is_neighborhood_1
    push_cast [K.eC_K]
theorem lrows {L m : Nat} (n : Int) (y : D) : ∀ (ds : List D) (p : Int × Int) (s2 : Sl), (∀ d ∈ ds, okW L m d = true) →
    (goodP n p ds = true → ∃ r', forGo (.one 2) w__law_is_neighborhood_1 ds [.va (.tup [.int n, y]), .va (pI p), s2] = .nx r' ∧ ∃ p' s2', r' = [.va (.tup [.int n, y]), .va (pI p'), s2']) ∧
    (goodP n p ds = false → ∃ r', forGo (.one 2) w__law_is_neighborhood_1 ds [.va (.tup [.int n, y]), .va (pI p), s2] = .ret (.fz (.bl false)) r' ∧ ∃ p' s2', r' = [.va (.tup [.int n, y]), .va (pI p'), s2'])
  | [], p, s2, _ => ⟨fun _ => ⟨_, rfl, p, s2, rfl⟩, fun h => by cases h⟩
  | d :: ds, p, s2, h => by
    have go : forGo (.one 2) w__law_is_neighborhood_1 (d :: ds) [.va (.tup [.int n, y]), .va (pI p), s2] = K.go1 (.one 2) w__law_is_neighborhood_1 ds (w__law_is_neighborhood_1 [.va (.tup [.int n, y]), .va (pI p), .va d]) := by
      rw [K.forGo_cons, K.put_one, K.go0_some]; rfl
    rw [go]
    unfold goodP
    rcases lrow n y p (h d List.mem_cons_self) with ⟨c, e⟩ | ⟨c, e⟩
    · rw [c, e, Bool.true_and, K.go1_nx]
      exact lrows n y ds (key2' d) (.va d) fun x hx => h x (List.mem_cons_of_mem _ hx)
    · rw [c, e, Bool.false_and]
      exact ⟨fun h => (by cases h), fun _ => ⟨_, rfl, p, .va d, rfl⟩⟩
theorem law_nh {L m : Nat} {v : D} (hv : okW L m v = true) : d__law_is_neighborhood [v] = .ok (.fz (.bl (nhB v))) [] := by
  cases v with
  | tup xs =>
    by_cases h2 : xs.length = 2
    · obtain ⟨x, y, rfl⟩ := two_of h2
      cases m with
      | zero => cases hv
      | succ m =>
      have hy := (okW_tup.mp hv).2 y (by simp)
      have li := lint_is x
      cases x with
      | int n =>
        rw [show isI (.int n) = true from rfl] at li
        by_cases c1 : 0 ≤ n
        · by_cases c2 : n ≤ 24
          · cases y with
            | tup rows =>
              cases m with
              | zero => cases hy
              | succ m =>
              have hr := (okW_tup.mp hy).2
              have e0 : nhB (.tup [.int n, .tup rows]) = goodP n (-1, -1) rows := by
                show (decide (0 ≤ n) && (decide (n ≤ 24) && goodP n (-1, -1) rows)) = _
                rw [decide_eq_true c1, decide_eq_true c2]; rfl
              rw [e0]
              have e := lrows n (.tup rows) rows (-1, -1) .no hr
              unfold pI at e
              unfold d__law_is_neighborhood b__law_is_neighborhood
              cases q : goodP n (-1, -1) rows with
              | true =>
                obtain ⟨r', e1, p', s2', rfl⟩ := e.1 q
                push_cast [li, c1, c2, e1]
              | false =>
                obtain ⟨r', e1, p', s2', rfl⟩ := e.2 q
                push_cast [li, c1, c2, e1]
            | ktp _ => cases m <;> cases hy
            | _ =>
              unfold d__law_is_neighborhood b__law_is_neighborhood
              push_cast [li, c1, c2]
              rfl
          · have e0 : nhB (.tup [.int n, y]) = false := by
              cases y with
              | tup rows => show (decide (0 ≤ n) && (decide (n ≤ 24) && _)) = _; rw [decide_eq_false c2, Bool.false_and, Bool.and_false]
              | _ => rfl
            rw [e0]
            unfold d__law_is_neighborhood b__law_is_neighborhood
            push_cast [li, c1, c2]
        · have e0 : nhB (.tup [.int n, y]) = false := by
            cases y with
            | tup rows => show (decide (0 ≤ n) && (decide (n ≤ 24) && _)) = _; rw [decide_eq_false c1, Bool.false_and]
            | _ => rfl
          rw [e0]
          unfold d__law_is_neighborhood b__law_is_neighborhood
          push_cast [li, c1]
      | _ =>
        rw [show isI _ = false from rfl] at li
        unfold d__law_is_neighborhood b__law_is_neighborhood
        push_cast [li]
        rfl
    · have h2' : ¬ ((xs.length : Int) = 2) := by omega
      rw [nhB_tup h2]
      unfold d__law_is_neighborhood b__law_is_neighborhood
      push_cast [h2']
  | ktp _ => cases m <;> cases hv
  | _ =>
    unfold d__law_is_neighborhood b__law_is_neighborhood
    push_cast [K.eC_K]
    rfl
end TT
end

section
set_option autoImplicit false
set_option linter.all false
set_option maxRecDepth 20000
local macro_rules | `(tactic| push_cast [$ls,*]) => `(tactic| simp only [$ls,*, DL.K.eBin_K, DL.K.bin1_ok, DL.K.bin1_err, DL.K.opt_some, DL.K.bin2_ok, DL.K.bin2_err, DL.K.bin3_some, DL.K.eUn_K, DL.K.un1_ok, DL.K.un1_err, DL.K.un2_some, DL.K.aCons_K, DL.K.cons1_ok, DL.K.cons1_err, DL.K.cons2_ok, DL.K.cons2_err, DL.K.aNil_K, DL.K.ePure_K, DL.K.pure1_ok, DL.K.pure1_err, DL.K.pure2_some, DL.K.eTup_K, DL.K.tup1_ok, DL.K.tup1_err, DL.K.tup2_some, DL.K.eLst_K, DL.K.lst1_ok, DL.K.lst1_err, DL.K.lst2_some, DL.K.eName_K, DL.K.name1_va, DL.K.name1_ow, DL.K.eC_K, DL.K.rsv_fz, DL.K.rsv_tm, DL.K.rsv_br, DL.K.rsv1_ow, DL.K.rsv1_va, DL.K.rsvs_nil, DL.K.rsvs_cons, DL.K.rsvs1_some, DL.K.rsvs2_some, DL.K.fzo_fz, DL.K.fzo_tm, DL.K.fzo_br, DL.K.fzo1_ow, DL.K.fzo1_va, DL.K.fzos_nil, DL.K.fzos_cons, DL.K.fzos1_some, DL.K.fzos2_some, DL.K.tTru_K, DL.K.tru1_ok, DL.K.tru1_err, DL.K.tru2_some, DL.K.tru3_some, DL.K.tBl_K, DL.K.tbl1_ok, DL.K.tbl1_err, DL.K.tAnd_K, DL.K.and1_t, DL.K.and1_f, DL.K.and1_err, DL.K.tOr_K, DL.K.or1_t, DL.K.or1_f, DL.K.or1_err, DL.K.tNot_K, DL.K.not1_ok, DL.K.not1_err, DL.K.tYes_K, DL.K.eAnd_K, DL.K.eand1_t, DL.K.eand1_f, DL.K.eand1_err, DL.K.eOr_K, DL.K.eor1_t, DL.K.eor1_f, DL.K.eor1_err, DL.K.eNot_K, DL.K.eNotE_K, DL.K.enot1_ok, DL.K.enot1_err, DL.K.eIf_K, DL.K.eif1_t, DL.K.eif1_f, DL.K.eif1_err, DL.K.eCh_K, DL.K.ch1_ok, DL.K.ch1_err, DL.K.chLast_K, DL.K.chLink_K, DL.K.link1_ok, DL.K.link2_some, DL.K.link3_t, DL.K.link3_f, DL.K.eCall_K, DL.K.call1_ok, DL.K.call1_err, DL.K.call2_nil, DL.K.call2_one, DL.K.call3_ok0, DL.K.call3_err0, DL.K.call3_ok1, DL.K.call3_err1, DL.K.put1_ow, DL.K.isOw_ow, DL.K.iosOf_nil, DL.K.iosOf_f, DL.K.iosOf_t, DL.K.argsOf_nil, DL.K.argsOf_f, DL.K.args1_some, DL.K.args2_some, DL.K.argsOf_t, DL.K.args3_ow, DL.K.sSeq_K, DL.K.seq1_nx, DL.K.seq1_ret, DL.K.seq1_brk, DL.K.seq1_cnt, DL.K.seq1_err, DL.K.sNext_K, DL.K.sBreak_K, DL.K.sCont_K, DL.K.sRetN_K, DL.K.sRaise_K, DL.K.sExpr_K, DL.K.expr1_ok, DL.K.expr1_err, DL.K.sSet_K, DL.K.set1_fz, DL.K.set1_tm, DL.K.set1_br, DL.K.set2_some, DL.K.set1_err, DL.K.sUnp_K, DL.K.unp1_ok, DL.K.unp1_err, DL.K.unp2_some, DL.K.nxo_some, DL.K.put_one, DL.K.put_tup, DL.K.put_ktp, DL.K.setAll_nil, DL.K.setAll_cons, DL.K.sPar_K, DL.K.par1_ok, DL.K.par1_err, DL.K.par2_ok, DL.K.par2_err, DL.K.par3_some, DL.K.keep2_fz, DL.K.keep2_tm, DL.K.sAug_K, DL.K.aug0_va, DL.K.aug1_ok, DL.K.aug1_err, DL.K.aug2_some, DL.K.aug3_some, DL.K.sRet_K, DL.K.ret1_fz, DL.K.ret1_tm, DL.K.ret1_br, DL.K.ret1_err, DL.K.ret2_ow, DL.K.ret2_va, DL.K.sIf_K, DL.K.if1_t, DL.K.if1_f, DL.K.if1_err, DL.K.sSub_K, DL.K.sub1_ok, DL.K.sub1_err, DL.K.sub2_ok, DL.K.sub2_err, DL.K.sub3_some, DL.K.sub4_some, DL.K.sub5_some, DL.K.eMut_K, DL.K.isL_lst, DL.K.mut0_ok, DL.K.mut0_err, DL.K.mut1_some, DL.K.mut2_some, DL.K.mut3_some, DL.K.sFor_K, DL.K.for1_ok, DL.K.for1_err, DL.K.forGo_nil, DL.K.forGo_cons, DL.K.go0_some, DL.K.go1_nx, DL.K.go1_cnt, DL.K.go1_brk, DL.K.go1_ret, DL.K.go1_err, DL.K.whN_K, DL.K.wh1_t, DL.K.wh1_f, DL.K.wh2_nx, DL.K.wh2_cnt, DL.K.wh2_brk, DL.K.wh2_ret, DL.K.wh2_err, DL.K.iSeq_K, DL.K.iseq1_ok, DL.K.iseq1_err, DL.K.iseq2_lst, DL.K.iseq2_tup, DL.K.iseq2_kls, DL.K.iseq2_ktp, DL.K.iRng1_K, DL.K.rg1_ok, DL.K.rg1_err, DL.K.iRng2_K, DL.K.rg2_ok, DL.K.rg2_err, DL.K.rg3_ok, DL.K.rg3_err, DL.K.pNo_K, DL.K.pSome_K, DL.K.psome1_ok, DL.K.eSlice_K, DL.K.sl1_ok, DL.K.sl1_err, DL.K.sl2_ok, DL.K.sl3_ok, DL.K.eLc_K, DL.K.lc0_err, DL.K.lc0_ok, DL.K.lcGo_nil, DL.K.lcGo_cons, DL.K.lc1_some, DL.K.lc2_t, DL.K.lc2_f, DL.K.lc3_ok, DL.K.lc4_some, DL.K.wipeE_nil, DL.K.wipeE_cons, DL.K.backE_nil, DL.K.backE_cons, DL.K.backSl_some, DL.K.isOw_va, DL.K.isOw_no, DL.K.eNewK_K, DL.K.eNewT_K, DL.K.eDisp1_K, DL.K.disp1_ok, DL.K.disp2_ok, DL.K.disp4_i, DL.K.gDictOf_K, DL.K.gRev_lst, DL.K.eLstR1_K, DL.K.lstr1_ok, DL.K.iZip_K, DL.K.zip1_ok, DL.K.zip2_ok, DL.K.zip3_some, DL.K.zip3b_some, DL.K.zip4_lstlst, DL.K.zip4_lstkls, DL.K.zip4_klslst, DL.K.zip4_klskls, DL.K.zip4_tuptup, DL.K.zip4_tupktp, DL.K.zip4_ktptup, DL.K.zip4_ktpktp, DL.K.iEnum_K, DL.K.enum1_ok, DL.K.enum2_lst, DL.K.enum2_kls, DL.K.eLcN_K, DL.K.lcn2_some, DL.K.iKeysD_K, DL.K.kd1_va, DL.K.isK_vaint, DL.K.isK_owint, DL.K.isK_vastr, DL.K.isK_owstr, DL.K.isK_vatup, DL.K.isK_owtup, DL.K.isK_valst, DL.K.isK_owlst, DL.K.isK_vakls, DL.K.isK_owkls, DL.K.isK_vaktp, DL.K.isK_owktp, DL.K.isK_vabl, DL.K.isK_owbl, DL.K.isK_vanon, DL.K.isK_vadct, DL.K.isK_owdct, DL.K.gLen_dct, DL.K.gIn_dct, DL.K.gNotIn_dct, DL.K.gIx_dct, DL.K.ixd_some, DL.K.gSet_dct, DL.K.sTry_K, DL.K.try1_nx, DL.K.try1_ret, DL.K.try1_brk, DL.K.try1_cnt, DL.K.try1_err, DL.K.try3_t, DL.K.try3_f, DL.K.try2_nx, DL.K.try2_ret, DL.K.try2_brk, DL.K.try2_cnt, DL.K.fnD_K, DL.K.fn1_ret, DL.K.fn1_nx, DL.K.fn1_err, DL.K.fn3_some, DL.K.fn4_some, DL.K.iosAt_nil, DL.K.iosAt_f, DL.K.iosAt_t, DL.K.ios1_ow, DL.K.argSl_f, DL.K.argSl_t, DL.K.argSl_nil, DL.K.gAdd_i, DL.K.gAdd_t, DL.K.gAdd_l, DL.K.gSub_i, DL.K.gIAdd_i, DL.K.gLt_i, DL.K.gLe_i, DL.K.gGt_i, DL.K.gGe_i, DL.K.gIx_lst, DL.K.gLen_lst, DL.K.gList_lst, DL.K.gIx_kls, DL.K.gLen_kls, DL.K.gList_kls, DL.K.gIx_tup, DL.K.gLen_tup, DL.K.gList_tup, DL.K.gIx_ktp, DL.K.gLen_ktp, DL.K.gList_ktp, DL.K.ix1_some, DL.K.ix2_some, DL.K.gSlice_lst, DL.K.gSlice_kls, DL.K.gSlice_tup, DL.K.gTuple_tup, DL.K.gTuple_ktp, DL.K.gTuple_lst, DL.K.gTuple_kls, DL.K.gInt_i, DL.K.gAbs_i, DL.K.gNeg_i, DL.K.gGcd_i, DL.K.gMax_i, DL.K.gMin_i, DL.K.gIs_nn, DL.K.gIsNot_nn, DL.K.gIs_bb, DL.K.gIs_intn, DL.K.gIsNot_intn, DL.K.gIs_strn, DL.K.gIsNot_strn, DL.K.gIs_tupn, DL.K.gIsNot_tupn, DL.K.gIs_lstn, DL.K.gIsNot_lstn, DL.K.gIs_klsn, DL.K.gIsNot_klsn, DL.K.gIs_ktpn, DL.K.gIsNot_ktpn, DL.K.gIs_bln, DL.K.gIsNot_bln, DL.K.gIs_dctn, DL.K.gIsNot_dctn, DL.K.gIs_dttn, DL.K.gIsNot_dttn, DL.K.gEq_ii, DL.K.gNe_ii, DL.K.gNe_bb, DL.K.gEq_bb, DL.K.dtr_bl, DL.K.dtr_int, DL.K.dtr_non, DL.K.dtr_lst, DL.K.dtr_kls, DL.K.dtr_tup, DL.K.dtr_ktp, DL.K.eIsi_K, DL.K.gSet_lst, DL.K.set5_some, DL.K.gAppend_K, DL.K.small0, DL.K.less0, DL.K.small1, DL.K.less1, DL.K.small2, DL.K.less2, DL.K.small3, DL.K.less3, DL.K.small4, DL.K.less4, DL.K.small5, DL.K.less5, DL.K.small6, DL.K.less6, DL.K.small7, DL.K.less7, DL.K.small8, DL.K.less8, DL.K.small9, DL.K.less9, DL.K.small10, DL.K.less10, DL.K.small11, DL.K.less11, DL.K.small12, DL.K.less12, DL.K.small13, DL.K.less13, DL.K.small14, DL.K.less14, DL.K.small15, DL.K.less15, DL.K.small16, DL.K.less16, DL.K.isD_bool_non, DL.K.isD_bool_bl, DL.K.isD_bool_int, DL.K.isD_bool_str, DL.K.isD_bool_tup, DL.K.isD_bool_lst, DL.K.isD_bool_kls, DL.K.isD_bool_ktp, DL.K.isD_bool_dct, DL.K.isD_bool_dtt, DL.K.isD_int_non, DL.K.isD_int_bl, DL.K.isD_int_int, DL.K.isD_int_str, DL.K.isD_int_tup, DL.K.isD_int_lst, DL.K.isD_int_kls, DL.K.isD_int_ktp, DL.K.isD_int_dct, DL.K.isD_int_dtt, DL.K.isD_str_non, DL.K.isD_str_bl, DL.K.isD_str_int, DL.K.isD_str_str, DL.K.isD_str_tup, DL.K.isD_str_lst, DL.K.isD_str_kls, DL.K.isD_str_ktp, DL.K.isD_str_dct, DL.K.isD_str_dtt, DL.K.isD_list_non, DL.K.isD_list_bl, DL.K.isD_list_int, DL.K.isD_list_str, DL.K.isD_list_tup, DL.K.isD_list_lst, DL.K.isD_list_kls, DL.K.isD_list_ktp, DL.K.isD_list_dct, DL.K.isD_list_dtt, DL.K.isD_tuple_non, DL.K.isD_tuple_bl, DL.K.isD_tuple_int, DL.K.isD_tuple_str, DL.K.isD_tuple_tup, DL.K.isD_tuple_lst, DL.K.isD_tuple_kls, DL.K.isD_tuple_ktp, DL.K.isD_tuple_dct, DL.K.isD_tuple_dtt, DL.K.isD_dict_non, DL.K.isD_dict_bl, DL.K.isD_dict_int, DL.K.isD_dict_str, DL.K.isD_dict_tup, DL.K.isD_dict_lst, DL.K.isD_dict_kls, DL.K.isD_dict_ktp, DL.K.isD_dict_dct, DL.K.isD_dict_dtt, DL.K.eTupR1_K, DL.K.tupr1_ok, DL.K.gRev_tup, DL.K.eQ_K, DL.K.q1_lst, DL.K.frzAll_cons, DL.K.frzAll_nil, DL.K.frzS_va, DL.K.frzS_ow, DL.K.frzS_no, DL.K.gMul_r, DL.K.gMul_l, DL.K.gMod_i, DL.K.gFdiv_s, DL.ixI, List.getElem?_cons_zero, List.getElem?_cons_succ, List.set_cons_zero, List.set_cons_succ, List.length_cons, List.length_nil, List.cons_append, List.nil_append, List.replicate_succ, List.replicate_zero, List.map_cons, List.map_nil, List.all_cons, List.all_nil, List.isEmpty_cons, List.isEmpty_nil, Nat.reduceAdd, Nat.reduceSub, Nat.reduceLT, Nat.reduceLeDiff, Nat.reduceEqDiff, Nat.reducePow, Nat.zero_add, Int.reduceNeg, Int.reduceLT, Int.reduceLE, Int.reduceEq, Int.reduceNe, Int.reducePow, Int.reduceAdd, Int.reduceSub, Int.reduceMul, Int.reduceToNat, Int.cast_ofNat_Int, Int.natCast_add, Int.natCast_one, Int.natCast_zero, Int.natAbs_neg, Int.reduceAbs, Int.zero_add, not_false_eq_true, not_true_eq_false, and_self, ne_eq, or_false, false_or, or_true, true_or, if_true, if_false, reduceIte, Bool.not_true, Bool.not_false, decide_eq_true_eq, decide_true, decide_false, true_and, and_true, and_false, false_and, implies_true, Option.some.injEq, reduceCtorEq, List.nodup_nil, List.not_mem_nil, bne_self_eq_false, beq_self_eq_true, Bool.true_and, Bool.and_true, Bool.false_and, Bool.and_false, Bool.true_or, Bool.or_true, Bool.false_or, Bool.or_false, Bool.true_beq, Bool.false_beq, Bool.not_not])
/-! k60: neighborhoods that are drawn, who is near. -/
namespace TT
open DL PySem
def ltQ (p q : Nat × Nat) : Prop := p.1 < q.1 ∨ (p.1 = q.1 ∧ p.2 < q.2)
def PsOk (n : Nat) (ps : List (Nat × Nat)) : Prop := (∀ p ∈ ps, p.1 < p.2 ∧ p.2 < n) ∧ ps.Pairwise ltQ ∧ ps.length ≤ 400
def nhD (n : Nat) (ps : List (Nat × Nat)) : D := .tup [.int (n : Int), .tup (ps.map pD)]
def nr (ps : List (Nat × Nat)) (v : Nat) : List Nat := (ps.filter fun p => decide (v = p.1 ∨ v = p.2)).map fun p => p.1 + p.2 - v
def adj (ps : List (Nat × Nat)) (a b : Nat) : Bool := decide ((min a b, max a b) ∈ ps)
theorem nr_mem {n : Nat} {ps : List (Nat × Nat)} (h : PsOk n ps) {v w : Nat} : w ∈ nr ps v ↔ adj ps v w = true := by
  unfold nr adj
  rw [decide_eq_true_eq, List.mem_map]
  constructor
  · rintro ⟨p, hp, rfl⟩
    rw [List.mem_filter, decide_eq_true_eq] at hp
    have := h.1 p hp.1
    have e : (min v (p.1 + p.2 - v), max v (p.1 + p.2 - v)) = p := by
      apply Prod.ext
      · show min _ _ = _; omega
      · show max _ _ = _; omega
    rw [e]; exact hp.1
  · intro hm
    refine ⟨_, List.mem_filter.mpr ⟨hm, ?_⟩, ?_⟩
    · rw [decide_eq_true_eq]; dsimp only; omega
    · dsimp only; omega
theorem nr_nodup {n : Nat} {ps : List (Nat × Nat)} (h : PsOk n ps) (v : Nat) : (nr ps v).Nodup := by
  unfold nr
  rw [List.nodup_iff_pairwise_ne, List.pairwise_map]
  refine (List.Pairwise.filter _ (h.2.1)).imp_of_mem ?_
  intro p q hp hq hpq
  rw [List.mem_filter, decide_eq_true_eq] at hp hq
  have := h.1 p hp.1
  have := h.1 q hq.1
  unfold ltQ at hpq
  omega
theorem near_is {n : Nat} {ps : List (Nat × Nat)} (h : PsOk n ps) (v : Nat) : d_near [nhD n ps, .int (v : Int)] = .ok (.tm (.lst ((nr ps v).map nD))) [] := by
  have e := lc_is (vs := [2, 3]) (t := .many [2, 3]) (c := t_near_1) (e := x_near_1) (r0 := [.va (nhD n ps), .va (.int (v : Int)), .no, .no]) pD (fun p => decide (v = p.1 ∨ v = p.2)) (fun p => nD (p.1 + p.2 - v)) ps (by have := h.2.2; unfold SZ; omega) (by
    intro p hp
    refine ⟨[.va (nhD n ps), .va (.int (v : Int)), .va (nD p.1), .va (nD p.2)], rfl, rfl, ?_, fun hq => ⟨.fz (nD (p.1 + p.2 - v)), ?_, rfl⟩⟩
    · unfold t_near_1
      push_cast [gIn_p]
    · rw [decide_eq_true_eq] at hq
      have e : ((p.1 : Int) + (p.2 : Int) - (v : Int)) = ((p.1 + p.2 - v : Nat) : Int) := by omega
      unfold x_near_1
      push_cast [e])
  unfold d_near b_near
  unfold nhD at e ⊢
  push_cast [e]
  unfold nr
  rw [List.map_map]
  rfl
def th (n : Nat) (ps : List (Nat × Nat)) (i j : Nat) : List Nat := (List.range n).filter fun k => adj ps i k && adj ps j k
theorem adj_lt {n : Nat} {ps : List (Nat × Nat)} (h : PsOk n ps) {a b : Nat} (k : adj ps a b = true) : b < n := by
  unfold adj at k
  rw [decide_eq_true_eq] at k
  have := h.1 _ k
  dsimp only at this
  omega
theorem th_eq {n : Nat} {ps : List (Nat × Nat)} (h : PsOk n ps) (i j : Nat) : srt ((nr ps i).filter fun k => decide (k ∈ nr ps j)) = th n ps i j := by
  refine srt_unique ((srt_perm _).trans ?_) (srt_sorted _) (List.Pairwise.filter _ List.pairwise_le_range)
  refine (List.perm_ext_iff_of_nodup ((nr_nodup h i).filter _) (List.nodup_range.filter _)).mpr fun k => ?_
  rw [List.mem_filter, List.mem_filter, List.mem_range, decide_eq_true_eq, nr_mem h, nr_mem h, Bool.and_eq_true]
  exact ⟨fun ⟨a, b⟩ => ⟨adj_lt h a, a, b⟩, fun ⟨_, a, b⟩ => ⟨a, b⟩⟩
theorem th_len (n : Nat) (ps : List (Nat × Nat)) (i j : Nat) : (th n ps i j).length ≤ n := by
  have := List.length_filter_le (fun k => adj ps i k && adj ps j k) (List.range n)
  rw [List.length_range] at this
  exact this
theorem thirds_is {n : Nat} {ps : List (Nat × Nat)} (h : PsOk n ps) (i j : Nat) : d_thirds [nhD n ps, .int (i : Int), .int (j : Int)] = .ok (.tm (.lst ((th n ps i j).map nD))) [] := by
  have e1 := near_is h j
  have e2 := near_is h i
  have hl : (nr ps i).length ≤ 400 := by
    unfold nr; rw [List.length_map]
    exact Nat.le_trans (List.length_filter_le _ _) h.2.2
  have e3 := lc_is (vs := [4]) (t := .one 4) (c := t_thirds_1) (e := eName 4) (r0 := [.va (nhD n ps), .va (.int (i : Int)), .va (.int (j : Int)), .ow false (.lst ((nr ps j).map nD)), .no]) nD (fun k => decide (k ∈ nr ps j)) nD (nr ps i) (by unfold SZ; omega) (by
    intro k hk
    refine ⟨[.va (nhD n ps), .va (.int (i : Int)), .va (.int (j : Int)), .ow false (.lst ((nr ps j).map nD)), .va (nD k)], rfl, rfl, ?_, fun _ => ⟨.fz (nD k), ?_, rfl⟩⟩
    · have g := gIn_nD k (nr ps j)
      unfold t_thirds_1
      push_cast [g]
    · push_cast [K.eC_K])
  unfold d_thirds b_thirds
  push_cast [e1, e2, e3, gSorted_nD]
  rw [th_eq h]
theorem in_mm (ps : List (Nat × Nat)) (a b : Nat) : gInA (.tup [.int (if (b : Int) < (a : Int) then (b : Int) else (a : Int)), .int (if (a : Int) < (b : Int) then (b : Int) else (a : Int))]) (.tup (ps.map pD)) = some (.fz (.bl (adj ps a b))) := by
  have g := gIn_pDt (min a b, max a b) ps
  rw [show decide ((min a b, max a b) ∈ ps) = adj ps a b from rfl] at g
  rw [← g]
  unfold pD
  congr 3
  · congr 1; split <;> simp only [] <;> omega
  · congr 2; split <;> simp only [] <;> omega
theorem filter_snoc' {α : Type} (p : α → Bool) (l : List α) (x : α) : (l ++ [x]).filter p = l.filter p ++ (if p x = true then [x] else []) := by
  rw [List.filter_append]
  congr 1
  cases h : p x <;> simp [h]
theorem lthirds_is {n : Nat} (hn : n ≤ 100) (ps : List (Nat × Nat)) (i j : Nat) : d__law_thirds [nhD n ps, .int (i : Int), .int (j : Int)] = .ok (.tm (.lst ((th n ps i j).map nD))) [] := by
  obtain ⟨r', e, s4, s5, rfl⟩ := for_inv (t := .one 4) (b := w__law_thirds_1) nD (fun pre r => ∃ s4 s5, r = [.va (nhD n ps), .va (.int (i : Int)), .va (.int (j : Int)), .ow false (.lst ((pre.filter fun k => adj ps i k && adj ps j k).map nD)), s4, s5]) (List.range n) (r := [.va (nhD n ps), .va (.int (i : Int)), .va (.int (j : Int)), .ow false (.lst []), .no, .no]) ⟨_, _, rfl⟩ (by
    rintro pre k post e r ⟨s4, s5, rfl⟩
    have hlen := congrArg List.length e
    rw [List.length_append, List.length_cons, List.length_range] at hlen
    have hs : (pre.filter fun k => adj ps i k && adj ps j k).length < SZ := by
      have := List.length_filter_le (fun k => adj ps i k && adj ps j k) pre
      unfold SZ; omega
    have g1 := in_mm ps i k
    have g2 := in_mm ps j k
    refine ⟨[.va (nhD n ps), .va (.int (i : Int)), .va (.int (j : Int)), .ow false (.lst ((pre.filter fun k => adj ps i k && adj ps j k).map nD)), .va (nD k), s5], rfl, [.va (nhD n ps), .va (.int (i : Int)), .va (.int (j : Int)), .ow false (.lst (((pre ++ [k]).filter fun k => adj ps i k && adj ps j k).map nD)), .va (nD k), .va (.bl (adj ps i k))], .inl ?_, _, _, rfl⟩
    rw [filter_snoc', List.map_append]
    unfold nhD
    unfold w__law_thirds_1
    cases c1 : adj ps i k with
    | false =>
      rw [c1] at g1
      push_cast [g1, List.append_nil]
    | true =>
      rw [c1] at g1
      cases c2 : adj ps j k with
      | false =>
        rw [c2] at g2
        push_cast [g1, g2, List.append_nil]
      | true =>
        rw [c2] at g2
        push_cast [g1, g2, List.length_map, hs])
  have u : upFrom 0 n = (List.range n).map nD := upFrom_nD n
  have b3 : -4611686018427387904 ≤ (n : Int) := by omega
  have b4 : (n : Int) < 4611686018427387904 := by omega
  unfold nhD at e ⊢
  unfold d__law_thirds b__law_thirds
  push_cast [b3, b4, Int.toNat_natCast, u, e]
  rfl
end TT
end

section
set_option autoImplicit false
set_option linter.all false
set_option maxRecDepth 20000
local macro_rules | `(tactic| push_cast [$ls,*]) => `(tactic| simp only [$ls,*, DL.K.eBin_K, DL.K.bin1_ok, DL.K.bin1_err, DL.K.opt_some, DL.K.bin2_ok, DL.K.bin2_err, DL.K.bin3_some, DL.K.eUn_K, DL.K.un1_ok, DL.K.un1_err, DL.K.un2_some, DL.K.aCons_K, DL.K.cons1_ok, DL.K.cons1_err, DL.K.cons2_ok, DL.K.cons2_err, DL.K.aNil_K, DL.K.ePure_K, DL.K.pure1_ok, DL.K.pure1_err, DL.K.pure2_some, DL.K.eTup_K, DL.K.tup1_ok, DL.K.tup1_err, DL.K.tup2_some, DL.K.eLst_K, DL.K.lst1_ok, DL.K.lst1_err, DL.K.lst2_some, DL.K.eName_K, DL.K.name1_va, DL.K.name1_ow, DL.K.eC_K, DL.K.rsv_fz, DL.K.rsv_tm, DL.K.rsv_br, DL.K.rsv1_ow, DL.K.rsv1_va, DL.K.rsvs_nil, DL.K.rsvs_cons, DL.K.rsvs1_some, DL.K.rsvs2_some, DL.K.fzo_fz, DL.K.fzo_tm, DL.K.fzo_br, DL.K.fzo1_ow, DL.K.fzo1_va, DL.K.fzos_nil, DL.K.fzos_cons, DL.K.fzos1_some, DL.K.fzos2_some, DL.K.tTru_K, DL.K.tru1_ok, DL.K.tru1_err, DL.K.tru2_some, DL.K.tru3_some, DL.K.tBl_K, DL.K.tbl1_ok, DL.K.tbl1_err, DL.K.tAnd_K, DL.K.and1_t, DL.K.and1_f, DL.K.and1_err, DL.K.tOr_K, DL.K.or1_t, DL.K.or1_f, DL.K.or1_err, DL.K.tNot_K, DL.K.not1_ok, DL.K.not1_err, DL.K.tYes_K, DL.K.eAnd_K, DL.K.eand1_t, DL.K.eand1_f, DL.K.eand1_err, DL.K.eOr_K, DL.K.eor1_t, DL.K.eor1_f, DL.K.eor1_err, DL.K.eNot_K, DL.K.eNotE_K, DL.K.enot1_ok, DL.K.enot1_err, DL.K.eIf_K, DL.K.eif1_t, DL.K.eif1_f, DL.K.eif1_err, DL.K.eCh_K, DL.K.ch1_ok, DL.K.ch1_err, DL.K.chLast_K, DL.K.chLink_K, DL.K.link1_ok, DL.K.link2_some, DL.K.link3_t, DL.K.link3_f, DL.K.eCall_K, DL.K.call1_ok, DL.K.call1_err, DL.K.call2_nil, DL.K.call2_one, DL.K.call3_ok0, DL.K.call3_err0, DL.K.call3_ok1, DL.K.call3_err1, DL.K.put1_ow, DL.K.isOw_ow, DL.K.iosOf_nil, DL.K.iosOf_f, DL.K.iosOf_t, DL.K.argsOf_nil, DL.K.argsOf_f, DL.K.args1_some, DL.K.args2_some, DL.K.argsOf_t, DL.K.args3_ow, DL.K.sSeq_K, DL.K.seq1_nx, DL.K.seq1_ret, DL.K.seq1_brk, DL.K.seq1_cnt, DL.K.seq1_err, DL.K.sNext_K, DL.K.sBreak_K, DL.K.sCont_K, DL.K.sRetN_K, DL.K.sRaise_K, DL.K.sExpr_K, DL.K.expr1_ok, DL.K.expr1_err, DL.K.sSet_K, DL.K.set1_fz, DL.K.set1_tm, DL.K.set1_br, DL.K.set2_some, DL.K.set1_err, DL.K.sUnp_K, DL.K.unp1_ok, DL.K.unp1_err, DL.K.unp2_some, DL.K.nxo_some, DL.K.put_one, DL.K.put_tup, DL.K.put_ktp, DL.K.setAll_nil, DL.K.setAll_cons, DL.K.sPar_K, DL.K.par1_ok, DL.K.par1_err, DL.K.par2_ok, DL.K.par2_err, DL.K.par3_some, DL.K.keep2_fz, DL.K.keep2_tm, DL.K.sAug_K, DL.K.aug0_va, DL.K.aug1_ok, DL.K.aug1_err, DL.K.aug2_some, DL.K.aug3_some, DL.K.sRet_K, DL.K.ret1_fz, DL.K.ret1_tm, DL.K.ret1_br, DL.K.ret1_err, DL.K.ret2_ow, DL.K.ret2_va, DL.K.sIf_K, DL.K.if1_t, DL.K.if1_f, DL.K.if1_err, DL.K.sSub_K, DL.K.sub1_ok, DL.K.sub1_err, DL.K.sub2_ok, DL.K.sub2_err, DL.K.sub3_some, DL.K.sub4_some, DL.K.sub5_some, DL.K.eMut_K, DL.K.isL_lst, DL.K.mut0_ok, DL.K.mut0_err, DL.K.mut1_some, DL.K.mut2_some, DL.K.mut3_some, DL.K.sFor_K, DL.K.for1_ok, DL.K.for1_err, DL.K.forGo_nil, DL.K.forGo_cons, DL.K.go0_some, DL.K.go1_nx, DL.K.go1_cnt, DL.K.go1_brk, DL.K.go1_ret, DL.K.go1_err, DL.K.whN_K, DL.K.wh1_t, DL.K.wh1_f, DL.K.wh2_nx, DL.K.wh2_cnt, DL.K.wh2_brk, DL.K.wh2_ret, DL.K.wh2_err, DL.K.iSeq_K, DL.K.iseq1_ok, DL.K.iseq1_err, DL.K.iseq2_lst, DL.K.iseq2_tup, DL.K.iseq2_kls, DL.K.iseq2_ktp, DL.K.iRng1_K, DL.K.rg1_ok, DL.K.rg1_err, DL.K.iRng2_K, DL.K.rg2_ok, DL.K.rg2_err, DL.K.rg3_ok, DL.K.rg3_err, DL.K.pNo_K, DL.K.pSome_K, DL.K.psome1_ok, DL.K.eSlice_K, DL.K.sl1_ok, DL.K.sl1_err, DL.K.sl2_ok, DL.K.sl3_ok, DL.K.eLc_K, DL.K.lc0_err, DL.K.lc0_ok, DL.K.lcGo_nil, DL.K.lcGo_cons, DL.K.lc1_some, DL.K.lc2_t, DL.K.lc2_f, DL.K.lc3_ok, DL.K.lc4_some, DL.K.wipeE_nil, DL.K.wipeE_cons, DL.K.backE_nil, DL.K.backE_cons, DL.K.backSl_some, DL.K.isOw_va, DL.K.isOw_no, DL.K.eNewK_K, DL.K.eNewT_K, DL.K.eDisp1_K, DL.K.disp1_ok, DL.K.disp2_ok, DL.K.disp4_i, DL.K.gDictOf_K, DL.K.gRev_lst, DL.K.eLstR1_K, DL.K.lstr1_ok, DL.K.iZip_K, DL.K.zip1_ok, DL.K.zip2_ok, DL.K.zip3_some, DL.K.zip3b_some, DL.K.zip4_lstlst, DL.K.zip4_lstkls, DL.K.zip4_klslst, DL.K.zip4_klskls, DL.K.zip4_tuptup, DL.K.zip4_tupktp, DL.K.zip4_ktptup, DL.K.zip4_ktpktp, DL.K.iEnum_K, DL.K.enum1_ok, DL.K.enum2_lst, DL.K.enum2_kls, DL.K.eLcN_K, DL.K.lcn2_some, DL.K.iKeysD_K, DL.K.kd1_va, DL.K.isK_vaint, DL.K.isK_owint, DL.K.isK_vastr, DL.K.isK_owstr, DL.K.isK_vatup, DL.K.isK_owtup, DL.K.isK_valst, DL.K.isK_owlst, DL.K.isK_vakls, DL.K.isK_owkls, DL.K.isK_vaktp, DL.K.isK_owktp, DL.K.isK_vabl, DL.K.isK_owbl, DL.K.isK_vanon, DL.K.isK_vadct, DL.K.isK_owdct, DL.K.gLen_dct, DL.K.gIn_dct, DL.K.gNotIn_dct, DL.K.gIx_dct, DL.K.ixd_some, DL.K.gSet_dct, DL.K.sTry_K, DL.K.try1_nx, DL.K.try1_ret, DL.K.try1_brk, DL.K.try1_cnt, DL.K.try1_err, DL.K.try3_t, DL.K.try3_f, DL.K.try2_nx, DL.K.try2_ret, DL.K.try2_brk, DL.K.try2_cnt, DL.K.fnD_K, DL.K.fn1_ret, DL.K.fn1_nx, DL.K.fn1_err, DL.K.fn3_some, DL.K.fn4_some, DL.K.iosAt_nil, DL.K.iosAt_f, DL.K.iosAt_t, DL.K.ios1_ow, DL.K.argSl_f, DL.K.argSl_t, DL.K.argSl_nil, DL.K.gAdd_i, DL.K.gAdd_t, DL.K.gAdd_l, DL.K.gSub_i, DL.K.gIAdd_i, DL.K.gLt_i, DL.K.gLe_i, DL.K.gGt_i, DL.K.gGe_i, DL.K.gIx_lst, DL.K.gLen_lst, DL.K.gList_lst, DL.K.gIx_kls, DL.K.gLen_kls, DL.K.gList_kls, DL.K.gIx_tup, DL.K.gLen_tup, DL.K.gList_tup, DL.K.gIx_ktp, DL.K.gLen_ktp, DL.K.gList_ktp, DL.K.ix1_some, DL.K.ix2_some, DL.K.gSlice_lst, DL.K.gSlice_kls, DL.K.gSlice_tup, DL.K.gTuple_tup, DL.K.gTuple_ktp, DL.K.gTuple_lst, DL.K.gTuple_kls, DL.K.gInt_i, DL.K.gAbs_i, DL.K.gNeg_i, DL.K.gGcd_i, DL.K.gMax_i, DL.K.gMin_i, DL.K.gIs_nn, DL.K.gIsNot_nn, DL.K.gIs_bb, DL.K.gIs_intn, DL.K.gIsNot_intn, DL.K.gIs_strn, DL.K.gIsNot_strn, DL.K.gIs_tupn, DL.K.gIsNot_tupn, DL.K.gIs_lstn, DL.K.gIsNot_lstn, DL.K.gIs_klsn, DL.K.gIsNot_klsn, DL.K.gIs_ktpn, DL.K.gIsNot_ktpn, DL.K.gIs_bln, DL.K.gIsNot_bln, DL.K.gIs_dctn, DL.K.gIsNot_dctn, DL.K.gIs_dttn, DL.K.gIsNot_dttn, DL.K.gEq_ii, DL.K.gNe_ii, DL.K.gNe_bb, DL.K.gEq_bb, DL.K.dtr_bl, DL.K.dtr_int, DL.K.dtr_non, DL.K.dtr_lst, DL.K.dtr_kls, DL.K.dtr_tup, DL.K.dtr_ktp, DL.K.eIsi_K, DL.K.gSet_lst, DL.K.set5_some, DL.K.gAppend_K, DL.K.small0, DL.K.less0, DL.K.small1, DL.K.less1, DL.K.small2, DL.K.less2, DL.K.small3, DL.K.less3, DL.K.small4, DL.K.less4, DL.K.small5, DL.K.less5, DL.K.small6, DL.K.less6, DL.K.small7, DL.K.less7, DL.K.small8, DL.K.less8, DL.K.small9, DL.K.less9, DL.K.small10, DL.K.less10, DL.K.small11, DL.K.less11, DL.K.small12, DL.K.less12, DL.K.small13, DL.K.less13, DL.K.small14, DL.K.less14, DL.K.small15, DL.K.less15, DL.K.small16, DL.K.less16, DL.K.isD_bool_non, DL.K.isD_bool_bl, DL.K.isD_bool_int, DL.K.isD_bool_str, DL.K.isD_bool_tup, DL.K.isD_bool_lst, DL.K.isD_bool_kls, DL.K.isD_bool_ktp, DL.K.isD_bool_dct, DL.K.isD_bool_dtt, DL.K.isD_int_non, DL.K.isD_int_bl, DL.K.isD_int_int, DL.K.isD_int_str, DL.K.isD_int_tup, DL.K.isD_int_lst, DL.K.isD_int_kls, DL.K.isD_int_ktp, DL.K.isD_int_dct, DL.K.isD_int_dtt, DL.K.isD_str_non, DL.K.isD_str_bl, DL.K.isD_str_int, DL.K.isD_str_str, DL.K.isD_str_tup, DL.K.isD_str_lst, DL.K.isD_str_kls, DL.K.isD_str_ktp, DL.K.isD_str_dct, DL.K.isD_str_dtt, DL.K.isD_list_non, DL.K.isD_list_bl, DL.K.isD_list_int, DL.K.isD_list_str, DL.K.isD_list_tup, DL.K.isD_list_lst, DL.K.isD_list_kls, DL.K.isD_list_ktp, DL.K.isD_list_dct, DL.K.isD_list_dtt, DL.K.isD_tuple_non, DL.K.isD_tuple_bl, DL.K.isD_tuple_int, DL.K.isD_tuple_str, DL.K.isD_tuple_tup, DL.K.isD_tuple_lst, DL.K.isD_tuple_kls, DL.K.isD_tuple_ktp, DL.K.isD_tuple_dct, DL.K.isD_tuple_dtt, DL.K.isD_dict_non, DL.K.isD_dict_bl, DL.K.isD_dict_int, DL.K.isD_dict_str, DL.K.isD_dict_tup, DL.K.isD_dict_lst, DL.K.isD_dict_kls, DL.K.isD_dict_ktp, DL.K.isD_dict_dct, DL.K.isD_dict_dtt, DL.K.eTupR1_K, DL.K.tupr1_ok, DL.K.gRev_tup, DL.K.eQ_K, DL.K.q1_lst, DL.K.frzAll_cons, DL.K.frzAll_nil, DL.K.frzS_va, DL.K.frzS_ow, DL.K.frzS_no, DL.K.gMul_r, DL.K.gMul_l, DL.K.gMod_i, DL.K.gFdiv_s, DL.ixI, List.getElem?_cons_zero, List.getElem?_cons_succ, List.set_cons_zero, List.set_cons_succ, List.length_cons, List.length_nil, List.cons_append, List.nil_append, List.replicate_succ, List.replicate_zero, List.map_cons, List.map_nil, List.all_cons, List.all_nil, List.isEmpty_cons, List.isEmpty_nil, Nat.reduceAdd, Nat.reduceSub, Nat.reduceLT, Nat.reduceLeDiff, Nat.reduceEqDiff, Nat.reducePow, Nat.zero_add, Int.reduceNeg, Int.reduceLT, Int.reduceLE, Int.reduceEq, Int.reduceNe, Int.reducePow, Int.reduceAdd, Int.reduceSub, Int.reduceMul, Int.reduceToNat, Int.cast_ofNat_Int, Int.natCast_add, Int.natCast_one, Int.natCast_zero, Int.natAbs_neg, Int.reduceAbs, Int.zero_add, not_false_eq_true, not_true_eq_false, and_self, ne_eq, or_false, false_or, or_true, true_or, if_true, if_false, reduceIte, Bool.not_true, Bool.not_false, decide_eq_true_eq, decide_true, decide_false, true_and, and_true, and_false, false_and, implies_true, Option.some.injEq, reduceCtorEq, List.nodup_nil, List.not_mem_nil, bne_self_eq_false, beq_self_eq_true, Bool.true_and, Bool.and_true, Bool.false_and, Bool.and_false, Bool.true_or, Bool.or_true, Bool.false_or, Bool.or_false, Bool.true_beq, Bool.false_beq, Bool.not_not])
/-! k60: the loops over pairs of stations. -/
namespace TT
open DL PySem
def row' (n i : Nat) : List (Nat × Nat) := (List.range' (i + 1) (n - (i + 1))).map fun j => (i, j)
def idx (n : Nat) : List (Nat × Nat) := (List.range n).flatMap (row' n)
/-- two loops, one in the other -/
theorem nest {n : Nat} {a b : Nat} {w1 w2 : S} {lo hi : E} (hw : w2 = sFor (.one b) (iRng2 lo hi) w1) (hn : n ≤ 100) (I : List (Nat × Nat) → Ev → Prop)
    (h0 : ∀ pre r i, I pre r → i < n → ∃ r1, (Tg.one a).put (nD i) r = some r1 ∧ iRng2 lo hi r1 = .ok ((List.range' (i + 1) (n - (i + 1))).map nD) r1 ∧ I pre r1 ∧ r1[a]? = some (.va (nD i)))
    (h1 : ∀ pre r i j, I pre r → r[a]? = some (.va (nD i)) → i < j → j < n → pre.length ≤ n * n → ∃ r1, (Tg.one b).put (nD j) r = some r1 ∧ ∃ r2, w1 r1 = .nx r2 ∧ I (pre ++ [(i, j)]) r2 ∧ r2[a]? = some (.va (nD i)))
    {r : Ev} (h : I [] r) : ∃ r', forGo (.one a) w2 ((List.range n).map nD) r = .nx r' ∧ I (idx n) r' := by
  refine for_inv (t := .one a) (b := w2) nD (fun pre r => I (pre.flatMap (row' n)) r) (List.range n) h ?_
  rintro pre i post e r hI
  have hlen := congrArg List.length e
  rw [List.length_append, List.length_cons, List.length_range] at hlen
  have hi : i = pre.length := by
    have := congrArg (fun l : List Nat => l[pre.length]?) e
    rw [List.getElem?_append_right (Nat.le_refl _), Nat.sub_self, List.getElem?_cons_zero, List.getElem?_range (by omega)] at this
    exact (Option.some.inj this).symm
  obtain ⟨r1, e1, e2, hI1, g1⟩ := h0 _ r i hI (by omega)
  have bound : (pre.flatMap (row' n)).length ≤ pre.length * n := by
    clear e hlen hi hI e1 e2 hI1 g1
    induction pre with
    | nil => simp
    | cons x xs ih =>
      rw [List.flatMap_cons, List.length_append, List.length_cons, Nat.succ_mul]
      have : (row' n x).length ≤ n := by unfold row'; rw [List.length_map, List.length_range']; omega
      omega
  obtain ⟨r2, e3, hI2, g2⟩ := for_inv (t := .one b) (b := w1) nD (fun p r => I (pre.flatMap (row' n) ++ p.map fun j => (i, j)) r ∧ r[a]? = some (.va (nD i))) (List.range' (i + 1) (n - (i + 1))) (r := r1) ⟨by rw [List.map_nil, List.append_nil]; exact hI1, g1⟩ (by
    rintro p j q e r ⟨hI, g⟩
    have hj : j ∈ List.range' (i + 1) (n - (i + 1)) := by rw [e]; simp
    rw [List.mem_range'_1] at hj
    have hp := congrArg List.length e
    rw [List.length_range', List.length_append, List.length_cons] at hp
    have hb : (pre.flatMap (row' n) ++ p.map fun j => (i, j)).length ≤ n * n := by
      rw [List.length_append, List.length_map]
      have : (pre.length + 1) * n ≤ n * n := Nat.mul_le_mul_right n (by omega)
      rw [Nat.succ_mul] at this
      omega
    obtain ⟨r1, k1, r2, k2, k3, k4⟩ := h1 _ r i j hI g (by omega) (by omega) hb
    refine ⟨r1, k1, r2, .inl k2, ?_, k4⟩
    rw [List.map_append, ← List.append_assoc]; exact k3)
  refine ⟨r1, e1, r2, .inl ?_, ?_⟩
  · rw [hw]
    rw [K.sFor_K, e2, K.for1_ok]; exact e3
  · rw [List.flatMap_append, List.flatMap_cons, List.flatMap_nil, List.append_nil]
    exact hI2
theorem rng_facts {n i : Nat} (hn : n ≤ 100) (hi : i < n) : -4611686018427387904 ≤ (i : Int) + 1 ∧ (i : Int) + 1 < 4611686018427387904 ∧ -4611686018427387904 ≤ (n : Int) ∧ (n : Int) < 4611686018427387904 ∧ ((n : Int) - ((i : Int) + 1)).toNat = n - (i + 1) ∧ upFrom ((i : Int) + 1) (n - (i + 1)) = (List.range' (i + 1) (n - (i + 1))).map nD :=
  ⟨by omega, by omega, by omega, by omega, by omega, upFromN1 i _⟩
def sepB (n : Nat) (ps : List (Nat × Nat)) (p : Nat × Nat) : Bool := decide (p ∈ ps) || !(th n ps p.1 p.2).isEmpty
def tri (p : Nat × Nat) : D := .tup [.int (p.1 : Int), .int (p.2 : Int), .int 1]
def seps (n : Nat) (ps : List (Nat × Nat)) : List (Nat × Nat) := (idx n).filter (sepB n ps)
theorem code_is {n : Nat} (hn : n ≤ 8) {ps : List (Nat × Nat)} (h : PsOk n ps) : d_code_separations [nhD n ps] = .ok (.fz (.tup [.int (n : Int), .tup ((seps n ps).map tri)])) [] := by
  obtain ⟨r', e, s4, s5, rfl⟩ := nest (a := 4) (b := 5) (w1 := w_code_separations_1) (w2 := w_code_separations_2) (n := n) rfl (by omega) (fun pre r => ∃ s4 s5, r = [.va (nhD n ps), .va (.int (n : Int)), .va (.tup (ps.map pD)), .ow false (.lst ((pre.filter (sepB n ps)).map tri)), s4, s5]) (by
    rintro pre r i ⟨s4, s5, rfl⟩ hi
    obtain ⟨b1, b2, b3, b4, b5, u⟩ := rng_facts (by omega : n ≤ 100) hi
    refine ⟨[.va (nhD n ps), .va (.int (n : Int)), .va (.tup (ps.map pD)), .ow false (.lst ((pre.filter (sepB n ps)).map tri)), .va (nD i), s5], rfl, ?_, ⟨_, _, rfl⟩, rfl⟩
    push_cast [b1, b2, b3, b4, b5, u]) (by
    rintro pre r i j ⟨s4, s5, rfl⟩ g hij hj hb
    have g' : s4 = .va (nD i) := by simpa using g
    subst g'
    refine ⟨[.va (nhD n ps), .va (.int (n : Int)), .va (.tup (ps.map pD)), .ow false (.lst ((pre.filter (sepB n ps)).map tri)), .va (nD i), .va (nD j)], rfl, [.va (nhD n ps), .va (.int (n : Int)), .va (.tup (ps.map pD)), .ow false (.lst (((pre ++ [(i, j)]).filter (sepB n ps)).map tri)), .va (nD i), .va (nD j)], ?_, ⟨_, _, rfl⟩, rfl⟩
    have g1 : gInA (.tup [.int (i : Int), .int (j : Int)]) (.tup (ps.map pD)) = some (.fz (.bl (decide ((i, j) ∈ ps)))) := gIn_pDt (i, j) ps
    have e1 := thirds_is h i j
    have g2 := gNe_nil (th n ps i j)
    have hs : (pre.filter (sepB n ps)).length < SZ := by
      have h1 := List.length_filter_le (sepB n ps) pre
      have h2 : n * n ≤ 8 * 8 := Nat.mul_le_mul hn hn
      unfold SZ; omega
    rw [filter_snoc', List.map_append]
    unfold nhD at e1 ⊢
    unfold w_code_separations_1
    cases c1 : decide ((i, j) ∈ ps) with
    | true =>
      rw [c1] at g1
      have cS : sepB n ps (i, j) = true := by unfold sepB; rw [c1]; rfl
      push_cast [g1, cS, List.length_map, hs]
      rfl
    | false =>
      rw [c1] at g1
      cases c2 : (th n ps i j).isEmpty with
      | true =>
        rw [c2] at g2
        have cS : sepB n ps (i, j) = false := by unfold sepB; rw [c1, c2]; rfl
        push_cast [g1, cS, e1, g2, List.append_nil]
      | false =>
        rw [c2] at g2
        have cS : sepB n ps (i, j) = true := by unfold sepB; rw [c1, c2]; rfl
        push_cast [g1, cS, e1, g2, List.length_map, hs]
        rfl) ⟨.no, .no, rfl⟩
  have u : upFrom 0 n = (List.range n).map nD := upFrom_nD n
  have b3 : -4611686018427387904 ≤ (n : Int) := by omega
  have b4 : (n : Int) < 4611686018427387904 := by omega
  rw [List.filter_nil, List.map_nil] at e
  unfold nhD at e ⊢
  unfold d_code_separations b_code_separations
  push_cast [b3, b4, Int.toNat_natCast, u, e]
  rfl
def cdD (cs : List Int) : D := .tup (cs.map .int)
theorem at_cd {cs : List Int} {k : Nat} (h : k < cs.length) : gIx (.tup (cs.map .int)) (.int (k : Int)) = some (.fz (.int (cs.getD k 0))) := by
  have i0 : ixI (cs.map D.int).length (k : Int) = some k := by
    unfold ixI; rw [List.length_map, if_pos (by omega), if_pos (by omega), Int.toNat_natCast]
  rw [K.gIx_tup, i0, K.ix1_some, List.getElem?_map, List.getElem?_eq_getElem h, List.getD_eq_getElem?_getD, List.getElem?_eq_getElem h]
  rfl
def sameC (cs : List Int) (p : Nat × Nat) : Bool := decide (cs.getD p.1 0 = cs.getD p.2 0)
theorem coll_is {n : Nat} {ps : List (Nat × Nat)} (h : PsOk n ps) {cs : List Int} (hc : cs.length = n) : d_collisions [nhD n ps, cdD cs] = .ok (.tm (.lst ((ps.filter (sameC cs)).map pD))) [] := by
  have e := lc_is (vs := [2, 3]) (t := .many [2, 3]) (c := t_collisions_1) (e := x_collisions_1) (r0 := [.va (nhD n ps), .va (cdD cs), .no, .no]) pD (sameC cs) pD ps (by have := h.2.2; unfold SZ; omega) (by
    intro p hp
    have hb := h.1 p hp
    have g1 := at_cd (cs := cs) (k := p.1) (by omega)
    have g2 := at_cd (cs := cs) (k := p.2) (by omega)
    refine ⟨[.va (nhD n ps), .va (cdD cs), .va (nD p.1), .va (nD p.2)], rfl, rfl, ?_, fun hq => ⟨.fz (pD p), ?_, rfl⟩⟩
    · unfold t_collisions_1 cdD sameC
      push_cast [g1, g2]
    · unfold x_collisions_1 pD
      push_cast [K.eC_K])
  unfold d_collisions b_collisions
  unfold nhD at e ⊢
  push_cast [e]
def quad (i j k : Nat) : D := .tup [.int (i : Int), .int (j : Int), .int (k : Int)]
def conf (n : Nat) (ps : List (Nat × Nat)) (cs : List Int) (p : Nat × Nat) : List D := if sameC cs p = true then (th n ps p.1 p.2).map (quad p.1 p.2) else []
theorem conf_len (n : Nat) (ps : List (Nat × Nat)) (cs : List Int) (p : Nat × Nat) : (conf n ps cs p).length ≤ n := by
  unfold conf
  split
  · rw [List.length_map]; exact th_len n ps _ _
  · exact Nat.zero_le _
theorem flat_len {α : Type} (f : α → List D) (n : Nat) (h : ∀ x, (f x).length ≤ n) : ∀ l : List α, (l.flatMap f).length ≤ l.length * n
  | [] => by simp
  | x :: l => by
    have := h x
    have := flat_len f n h l
    rw [List.flatMap_cons, List.length_append, List.length_cons, Nat.succ_mul]
    omega
theorem ext_lst {xs ys : List D} (h : xs.length + ys.length ≤ SZ) : gExtend (.lst xs) [.lst ys] = some (.lst (xs ++ ys), .fz .non) := if_pos h
theorem confs_is {n : Nat} (hn : n ≤ 8) {ps : List (Nat × Nat)} (h : PsOk n ps) {cs : List Int} (hc : cs.length = n) : d_confusions [nhD n ps, cdD cs] = .ok (.tm (.lst ((idx n).flatMap (conf n ps cs)))) [] := by
  obtain ⟨r', e, s4, s5, rfl⟩ := nest (a := 3) (b := 4) (w1 := w_confusions_1) (w2 := w_confusions_2) (n := n) rfl (by omega) (fun pre r => ∃ s3 s4, r = [.va (nhD n ps), .va (cdD cs), .ow false (.lst (pre.flatMap (conf n ps cs))), s3, s4, .no]) (by
    rintro pre r i ⟨s4, s5, rfl⟩ hi
    obtain ⟨b1, b2, b3, b4, b5, u⟩ := rng_facts (by omega : n ≤ 100) hi
    refine ⟨[.va (nhD n ps), .va (cdD cs), .ow false (.lst (pre.flatMap (conf n ps cs))), .va (nD i), s5, .no], rfl, ?_, ⟨_, _, rfl⟩, rfl⟩
    unfold nhD
    push_cast [b1, b2, b3, b4, b5, u]) (by
    rintro pre r i j ⟨s4, s5, rfl⟩ g hij hj hb
    have g' : s4 = .va (nD i) := by simpa using g
    subst g'
    refine ⟨[.va (nhD n ps), .va (cdD cs), .ow false (.lst (pre.flatMap (conf n ps cs))), .va (nD i), .va (nD j), .no], rfl, [.va (nhD n ps), .va (cdD cs), .ow false (.lst ((pre ++ [(i, j)]).flatMap (conf n ps cs))), .va (nD i), .va (nD j), .no], ?_, ⟨_, _, rfl⟩, rfl⟩
    have g1 := at_cd (cs := cs) (k := i) (by omega)
    have g2 := at_cd (cs := cs) (k := j) (by omega)
    have e1 := thirds_is h i j
    have hl := th_len n ps i j
    have e2 := lc_is (vs := [5]) (t := .one 5) (c := tYes) (e := x_confusions_1) (r0 := [.va (nhD n ps), .va (cdD cs), .ow false (.lst (pre.flatMap (conf n ps cs))), .va (nD i), .va (nD j), .no]) nD (fun _ => true) (quad i j) (th n ps i j) (by unfold SZ; omega) (by
      intro k hk
      refine ⟨[.va (nhD n ps), .va (cdD cs), .ow false (.lst (pre.flatMap (conf n ps cs))), .va (nD i), .va (nD j), .va (nD k)], rfl, rfl, rfl, fun _ => ⟨.fz (quad i j k), ?_, rfl⟩⟩
      unfold x_confusions_1 quad
      push_cast [K.eC_K])
    rw [List.filter_eq_self.mpr (fun _ _ => rfl)] at e2
    have hf := flat_len (conf n ps cs) n (conf_len n ps cs) pre
    have hs : (pre.flatMap (conf n ps cs)).length + ((th n ps i j).map (quad i j)).length ≤ SZ := by
      have h2 : n * n ≤ 8 * 8 := Nat.mul_le_mul hn hn
      have h3 : pre.length * n ≤ 64 * 8 := Nat.mul_le_mul (by omega) hn
      rw [List.length_map]
      unfold SZ; omega
    have hs2 := ext_lst hs
    rw [List.flatMap_append, List.flatMap_cons, List.flatMap_nil, List.append_nil]
    unfold w_confusions_1
    cases c1 : sameC cs (i, j) with
    | true =>
      have c1' : cs.getD i 0 = cs.getD j 0 := by unfold sameC at c1; rw [decide_eq_true_eq] at c1; exact c1
      rw [show conf n ps cs (i, j) = (th n ps i j).map (quad i j) from if_pos c1]
      unfold cdD at e2 ⊢
      push_cast [g1, g2, c1', e1, e2, hs2]
    | false =>
      have c1' : ¬ cs.getD i 0 = cs.getD j 0 := by unfold sameC at c1; rw [decide_eq_false_iff_not] at c1; exact c1
      rw [show conf n ps cs (i, j) = [] from if_neg (by rw [c1]; decide)]
      unfold cdD
      push_cast [g1, g2, c1', List.append_nil]) ⟨.no, .no, rfl⟩
  have u : upFrom 0 n = (List.range n).map nD := upFrom_nD n
  have b3 : -4611686018427387904 ≤ (n : Int) := by omega
  have b4 : (n : Int) < 4611686018427387904 := by omega
  rw [List.flatMap_nil] at e
  unfold nhD at e ⊢
  unfold d_confusions b_confusions
  push_cast [b3, b4, Int.toNat_natCast, u, e]
end TT
end

section
set_option autoImplicit false
set_option linter.all false
set_option maxRecDepth 20000
local macro_rules | `(tactic| push_cast [$ls,*]) => `(tactic| simp only [$ls,*, DL.K.eBin_K, DL.K.bin1_ok, DL.K.bin1_err, DL.K.opt_some, DL.K.bin2_ok, DL.K.bin2_err, DL.K.bin3_some, DL.K.eUn_K, DL.K.un1_ok, DL.K.un1_err, DL.K.un2_some, DL.K.aCons_K, DL.K.cons1_ok, DL.K.cons1_err, DL.K.cons2_ok, DL.K.cons2_err, DL.K.aNil_K, DL.K.ePure_K, DL.K.pure1_ok, DL.K.pure1_err, DL.K.pure2_some, DL.K.eTup_K, DL.K.tup1_ok, DL.K.tup1_err, DL.K.tup2_some, DL.K.eLst_K, DL.K.lst1_ok, DL.K.lst1_err, DL.K.lst2_some, DL.K.eName_K, DL.K.name1_va, DL.K.name1_ow, DL.K.eC_K, DL.K.rsv_fz, DL.K.rsv_tm, DL.K.rsv_br, DL.K.rsv1_ow, DL.K.rsv1_va, DL.K.rsvs_nil, DL.K.rsvs_cons, DL.K.rsvs1_some, DL.K.rsvs2_some, DL.K.fzo_fz, DL.K.fzo_tm, DL.K.fzo_br, DL.K.fzo1_ow, DL.K.fzo1_va, DL.K.fzos_nil, DL.K.fzos_cons, DL.K.fzos1_some, DL.K.fzos2_some, DL.K.tTru_K, DL.K.tru1_ok, DL.K.tru1_err, DL.K.tru2_some, DL.K.tru3_some, DL.K.tBl_K, DL.K.tbl1_ok, DL.K.tbl1_err, DL.K.tAnd_K, DL.K.and1_t, DL.K.and1_f, DL.K.and1_err, DL.K.tOr_K, DL.K.or1_t, DL.K.or1_f, DL.K.or1_err, DL.K.tNot_K, DL.K.not1_ok, DL.K.not1_err, DL.K.tYes_K, DL.K.eAnd_K, DL.K.eand1_t, DL.K.eand1_f, DL.K.eand1_err, DL.K.eOr_K, DL.K.eor1_t, DL.K.eor1_f, DL.K.eor1_err, DL.K.eNot_K, DL.K.eNotE_K, DL.K.enot1_ok, DL.K.enot1_err, DL.K.eIf_K, DL.K.eif1_t, DL.K.eif1_f, DL.K.eif1_err, DL.K.eCh_K, DL.K.ch1_ok, DL.K.ch1_err, DL.K.chLast_K, DL.K.chLink_K, DL.K.link1_ok, DL.K.link2_some, DL.K.link3_t, DL.K.link3_f, DL.K.eCall_K, DL.K.call1_ok, DL.K.call1_err, DL.K.call2_nil, DL.K.call2_one, DL.K.call3_ok0, DL.K.call3_err0, DL.K.call3_ok1, DL.K.call3_err1, DL.K.put1_ow, DL.K.isOw_ow, DL.K.iosOf_nil, DL.K.iosOf_f, DL.K.iosOf_t, DL.K.argsOf_nil, DL.K.argsOf_f, DL.K.args1_some, DL.K.args2_some, DL.K.argsOf_t, DL.K.args3_ow, DL.K.sSeq_K, DL.K.seq1_nx, DL.K.seq1_ret, DL.K.seq1_brk, DL.K.seq1_cnt, DL.K.seq1_err, DL.K.sNext_K, DL.K.sBreak_K, DL.K.sCont_K, DL.K.sRetN_K, DL.K.sRaise_K, DL.K.sExpr_K, DL.K.expr1_ok, DL.K.expr1_err, DL.K.sSet_K, DL.K.set1_fz, DL.K.set1_tm, DL.K.set1_br, DL.K.set2_some, DL.K.set1_err, DL.K.sUnp_K, DL.K.unp1_ok, DL.K.unp1_err, DL.K.unp2_some, DL.K.nxo_some, DL.K.put_one, DL.K.put_tup, DL.K.put_ktp, DL.K.setAll_nil, DL.K.setAll_cons, DL.K.sPar_K, DL.K.par1_ok, DL.K.par1_err, DL.K.par2_ok, DL.K.par2_err, DL.K.par3_some, DL.K.keep2_fz, DL.K.keep2_tm, DL.K.sAug_K, DL.K.aug0_va, DL.K.aug1_ok, DL.K.aug1_err, DL.K.aug2_some, DL.K.aug3_some, DL.K.sRet_K, DL.K.ret1_fz, DL.K.ret1_tm, DL.K.ret1_br, DL.K.ret1_err, DL.K.ret2_ow, DL.K.ret2_va, DL.K.sIf_K, DL.K.if1_t, DL.K.if1_f, DL.K.if1_err, DL.K.sSub_K, DL.K.sub1_ok, DL.K.sub1_err, DL.K.sub2_ok, DL.K.sub2_err, DL.K.sub3_some, DL.K.sub4_some, DL.K.sub5_some, DL.K.eMut_K, DL.K.isL_lst, DL.K.mut0_ok, DL.K.mut0_err, DL.K.mut1_some, DL.K.mut2_some, DL.K.mut3_some, DL.K.sFor_K, DL.K.for1_ok, DL.K.for1_err, DL.K.forGo_nil, DL.K.forGo_cons, DL.K.go0_some, DL.K.go1_nx, DL.K.go1_cnt, DL.K.go1_brk, DL.K.go1_ret, DL.K.go1_err, DL.K.whN_K, DL.K.wh1_t, DL.K.wh1_f, DL.K.wh2_nx, DL.K.wh2_cnt, DL.K.wh2_brk, DL.K.wh2_ret, DL.K.wh2_err, DL.K.iSeq_K, DL.K.iseq1_ok, DL.K.iseq1_err, DL.K.iseq2_lst, DL.K.iseq2_tup, DL.K.iseq2_kls, DL.K.iseq2_ktp, DL.K.iRng1_K, DL.K.rg1_ok, DL.K.rg1_err, DL.K.iRng2_K, DL.K.rg2_ok, DL.K.rg2_err, DL.K.rg3_ok, DL.K.rg3_err, DL.K.pNo_K, DL.K.pSome_K, DL.K.psome1_ok, DL.K.eSlice_K, DL.K.sl1_ok, DL.K.sl1_err, DL.K.sl2_ok, DL.K.sl3_ok, DL.K.eLc_K, DL.K.lc0_err, DL.K.lc0_ok, DL.K.lcGo_nil, DL.K.lcGo_cons, DL.K.lc1_some, DL.K.lc2_t, DL.K.lc2_f, DL.K.lc3_ok, DL.K.lc4_some, DL.K.wipeE_nil, DL.K.wipeE_cons, DL.K.backE_nil, DL.K.backE_cons, DL.K.backSl_some, DL.K.isOw_va, DL.K.isOw_no, DL.K.eNewK_K, DL.K.eNewT_K, DL.K.eDisp1_K, DL.K.disp1_ok, DL.K.disp2_ok, DL.K.disp4_i, DL.K.gDictOf_K, DL.K.gRev_lst, DL.K.eLstR1_K, DL.K.lstr1_ok, DL.K.iZip_K, DL.K.zip1_ok, DL.K.zip2_ok, DL.K.zip3_some, DL.K.zip3b_some, DL.K.zip4_lstlst, DL.K.zip4_lstkls, DL.K.zip4_klslst, DL.K.zip4_klskls, DL.K.zip4_tuptup, DL.K.zip4_tupktp, DL.K.zip4_ktptup, DL.K.zip4_ktpktp, DL.K.iEnum_K, DL.K.enum1_ok, DL.K.enum2_lst, DL.K.enum2_kls, DL.K.eLcN_K, DL.K.lcn2_some, DL.K.iKeysD_K, DL.K.kd1_va, DL.K.isK_vaint, DL.K.isK_owint, DL.K.isK_vastr, DL.K.isK_owstr, DL.K.isK_vatup, DL.K.isK_owtup, DL.K.isK_valst, DL.K.isK_owlst, DL.K.isK_vakls, DL.K.isK_owkls, DL.K.isK_vaktp, DL.K.isK_owktp, DL.K.isK_vabl, DL.K.isK_owbl, DL.K.isK_vanon, DL.K.isK_vadct, DL.K.isK_owdct, DL.K.gLen_dct, DL.K.gIn_dct, DL.K.gNotIn_dct, DL.K.gIx_dct, DL.K.ixd_some, DL.K.gSet_dct, DL.K.sTry_K, DL.K.try1_nx, DL.K.try1_ret, DL.K.try1_brk, DL.K.try1_cnt, DL.K.try1_err, DL.K.try3_t, DL.K.try3_f, DL.K.try2_nx, DL.K.try2_ret, DL.K.try2_brk, DL.K.try2_cnt, DL.K.fnD_K, DL.K.fn1_ret, DL.K.fn1_nx, DL.K.fn1_err, DL.K.fn3_some, DL.K.fn4_some, DL.K.iosAt_nil, DL.K.iosAt_f, DL.K.iosAt_t, DL.K.ios1_ow, DL.K.argSl_f, DL.K.argSl_t, DL.K.argSl_nil, DL.K.gAdd_i, DL.K.gAdd_t, DL.K.gAdd_l, DL.K.gSub_i, DL.K.gIAdd_i, DL.K.gLt_i, DL.K.gLe_i, DL.K.gGt_i, DL.K.gGe_i, DL.K.gIx_lst, DL.K.gLen_lst, DL.K.gList_lst, DL.K.gIx_kls, DL.K.gLen_kls, DL.K.gList_kls, DL.K.gIx_tup, DL.K.gLen_tup, DL.K.gList_tup, DL.K.gIx_ktp, DL.K.gLen_ktp, DL.K.gList_ktp, DL.K.ix1_some, DL.K.ix2_some, DL.K.gSlice_lst, DL.K.gSlice_kls, DL.K.gSlice_tup, DL.K.gTuple_tup, DL.K.gTuple_ktp, DL.K.gTuple_lst, DL.K.gTuple_kls, DL.K.gInt_i, DL.K.gAbs_i, DL.K.gNeg_i, DL.K.gGcd_i, DL.K.gMax_i, DL.K.gMin_i, DL.K.gIs_nn, DL.K.gIsNot_nn, DL.K.gIs_bb, DL.K.gIs_intn, DL.K.gIsNot_intn, DL.K.gIs_strn, DL.K.gIsNot_strn, DL.K.gIs_tupn, DL.K.gIsNot_tupn, DL.K.gIs_lstn, DL.K.gIsNot_lstn, DL.K.gIs_klsn, DL.K.gIsNot_klsn, DL.K.gIs_ktpn, DL.K.gIsNot_ktpn, DL.K.gIs_bln, DL.K.gIsNot_bln, DL.K.gIs_dctn, DL.K.gIsNot_dctn, DL.K.gIs_dttn, DL.K.gIsNot_dttn, DL.K.gEq_ii, DL.K.gNe_ii, DL.K.gNe_bb, DL.K.gEq_bb, DL.K.dtr_bl, DL.K.dtr_int, DL.K.dtr_non, DL.K.dtr_lst, DL.K.dtr_kls, DL.K.dtr_tup, DL.K.dtr_ktp, DL.K.eIsi_K, DL.K.gSet_lst, DL.K.set5_some, DL.K.gAppend_K, DL.K.small0, DL.K.less0, DL.K.small1, DL.K.less1, DL.K.small2, DL.K.less2, DL.K.small3, DL.K.less3, DL.K.small4, DL.K.less4, DL.K.small5, DL.K.less5, DL.K.small6, DL.K.less6, DL.K.small7, DL.K.less7, DL.K.small8, DL.K.less8, DL.K.small9, DL.K.less9, DL.K.small10, DL.K.less10, DL.K.small11, DL.K.less11, DL.K.small12, DL.K.less12, DL.K.small13, DL.K.less13, DL.K.small14, DL.K.less14, DL.K.small15, DL.K.less15, DL.K.small16, DL.K.less16, DL.K.isD_bool_non, DL.K.isD_bool_bl, DL.K.isD_bool_int, DL.K.isD_bool_str, DL.K.isD_bool_tup, DL.K.isD_bool_lst, DL.K.isD_bool_kls, DL.K.isD_bool_ktp, DL.K.isD_bool_dct, DL.K.isD_bool_dtt, DL.K.isD_int_non, DL.K.isD_int_bl, DL.K.isD_int_int, DL.K.isD_int_str, DL.K.isD_int_tup, DL.K.isD_int_lst, DL.K.isD_int_kls, DL.K.isD_int_ktp, DL.K.isD_int_dct, DL.K.isD_int_dtt, DL.K.isD_str_non, DL.K.isD_str_bl, DL.K.isD_str_int, DL.K.isD_str_str, DL.K.isD_str_tup, DL.K.isD_str_lst, DL.K.isD_str_kls, DL.K.isD_str_ktp, DL.K.isD_str_dct, DL.K.isD_str_dtt, DL.K.isD_list_non, DL.K.isD_list_bl, DL.K.isD_list_int, DL.K.isD_list_str, DL.K.isD_list_tup, DL.K.isD_list_lst, DL.K.isD_list_kls, DL.K.isD_list_ktp, DL.K.isD_list_dct, DL.K.isD_list_dtt, DL.K.isD_tuple_non, DL.K.isD_tuple_bl, DL.K.isD_tuple_int, DL.K.isD_tuple_str, DL.K.isD_tuple_tup, DL.K.isD_tuple_lst, DL.K.isD_tuple_kls, DL.K.isD_tuple_ktp, DL.K.isD_tuple_dct, DL.K.isD_tuple_dtt, DL.K.isD_dict_non, DL.K.isD_dict_bl, DL.K.isD_dict_int, DL.K.isD_dict_str, DL.K.isD_dict_tup, DL.K.isD_dict_lst, DL.K.isD_dict_kls, DL.K.isD_dict_ktp, DL.K.isD_dict_dct, DL.K.isD_dict_dtt, DL.K.eTupR1_K, DL.K.tupr1_ok, DL.K.gRev_tup, DL.K.eQ_K, DL.K.q1_lst, DL.K.frzAll_cons, DL.K.frzAll_nil, DL.K.frzS_va, DL.K.frzS_ow, DL.K.frzS_no, DL.K.gMul_r, DL.K.gMul_l, DL.K.gMod_i, DL.K.gFdiv_s, DL.ixI, List.getElem?_cons_zero, List.getElem?_cons_succ, List.set_cons_zero, List.set_cons_succ, List.length_cons, List.length_nil, List.cons_append, List.nil_append, List.replicate_succ, List.replicate_zero, List.map_cons, List.map_nil, List.all_cons, List.all_nil, List.isEmpty_cons, List.isEmpty_nil, Nat.reduceAdd, Nat.reduceSub, Nat.reduceLT, Nat.reduceLeDiff, Nat.reduceEqDiff, Nat.reducePow, Nat.zero_add, Int.reduceNeg, Int.reduceLT, Int.reduceLE, Int.reduceEq, Int.reduceNe, Int.reducePow, Int.reduceAdd, Int.reduceSub, Int.reduceMul, Int.reduceToNat, Int.cast_ofNat_Int, Int.natCast_add, Int.natCast_one, Int.natCast_zero, Int.natAbs_neg, Int.reduceAbs, Int.zero_add, not_false_eq_true, not_true_eq_false, and_self, ne_eq, or_false, false_or, or_true, true_or, if_true, if_false, reduceIte, Bool.not_true, Bool.not_false, decide_eq_true_eq, decide_true, decide_false, true_and, and_true, and_false, false_and, implies_true, Option.some.injEq, reduceCtorEq, List.nodup_nil, List.not_mem_nil, bne_self_eq_false, beq_self_eq_true, Bool.true_and, Bool.and_true, Bool.false_and, Bool.and_false, Bool.true_or, Bool.or_true, Bool.false_or, Bool.or_false, Bool.true_beq, Bool.false_beq, Bool.not_not])
/-! k60: the neighborhood that is drawn; the law's loop. -/
namespace TT
open DL PySem
theorem lst0 {ms : List Int} (h : NN ms) : ∃ m : Int, 0 ≤ m ∧ gIx (.lst (ms.map .int)) (.int 0) = some (.fz (.int m)) := by
  obtain ⟨m, h0, e⟩ := nn_at h 0
  refine ⟨m, h0, ?_⟩
  rw [show (0 : Int).fmod (ms.length : Int) = 0 from Int.zero_fmod _] at e
  exact e
theorem mem_idx {n : Nat} {p : Nat × Nat} : p ∈ idx n ↔ p.1 < p.2 ∧ p.2 < n := by
  unfold idx row'
  simp only [List.mem_flatMap, List.mem_range, List.mem_map, List.mem_range'_1]
  constructor
  · rintro ⟨i, hi, j, hj, rfl⟩
    exact ⟨by dsimp only; omega, by dsimp only; omega⟩
  · intro ⟨a, b⟩
    exact ⟨p.1, by omega, p.2, by omega, rfl⟩
theorem idx_asc (n : Nat) : (idx n).Pairwise ltQ := by
  unfold idx
  rw [List.pairwise_flatMap]
  refine ⟨fun i _ => ?_, ?_⟩
  · unfold row'
    rw [List.pairwise_map]
    exact (List.pairwise_lt_range' (s := i + 1) (n := n - (i + 1))).imp fun h => .inr ⟨rfl, h⟩
  · refine List.pairwise_lt_range.imp fun {a b} h => ?_
    intro x hx y hy
    unfold row' at hx hy
    obtain ⟨_, _, rfl⟩ := List.mem_map.mp hx
    obtain ⟨_, _, rfl⟩ := List.mem_map.mp hy
    exact .inl h
theorem idx_len (n : Nat) : (idx n).length ≤ n * n := by
  unfold idx
  have : ∀ l : List Nat, (l.flatMap (row' n)).length ≤ l.length * n := by
    intro l
    induction l with
    | nil => simp
    | cons x xs ih =>
      rw [List.flatMap_cons, List.length_append, List.length_cons, Nat.succ_mul]
      have : (row' n x).length ≤ n := by unfold row'; rw [List.length_map, List.length_range']; omega
      omega
  have := this (List.range n)
  rw [List.length_range] at this
  exact this
theorem nhd_is {ms : List Int} (hm : NN ms) : ∃ n ps, n ≤ 8 ∧ PsOk n ps ∧ d__law_neighborhood [.lst (ms.map .int), .int 8] = .ok (.fz (nhD n ps)) [] := by
  obtain ⟨m, m0, e1⟩ := lst0 hm
  have f0 := Int.fmod_nonneg_of_pos m (show (0 : Int) < 9 by decide)
  have f1 := Int.fmod_lt_of_pos m (show (0 : Int) < 9 by decide)
  obtain ⟨n, hn'⟩ : ∃ n : Nat, m.fmod 9 = (n : Int) := ⟨(m.fmod 9).toNat, by omega⟩
  have hn : n ≤ 8 := by omega
  have hnn : n * n ≤ 8 * 8 := Nat.mul_le_mul hn hn
  have l1 : ¬ (ms.length : Int) = 0 := by have := hm.1; omega
  have l2 : (ms.length : Int).natAbs < 2 ^ 64 := by have := hm.2.1; omega
  obtain ⟨r', e, ps, t, s5, s6, hps, ht, rfl⟩ := nest (a := 5) (b := 6) (w1 := w__law_neighborhood_1) (w2 := w__law_neighborhood_2) (n := n) rfl (by omega) (fun pre r => ∃ (ps : List (Nat × Nat)) (t : Nat) (s5 s6 : Sl), ps.Sublist pre ∧ t = 1 + pre.length ∧ r = [.va (.lst (ms.map .int)), .va (.int 8), .va (.int (n : Int)), .ow false (.lst (ps.map pD)), .va (.int (t : Int)), s5, s6]) (by
    rintro pre r i ⟨ps, t, s5, s6, h1, h4, rfl⟩ hi
    obtain ⟨b1, b2, b3, b4, b5, u⟩ := rng_facts (by omega : n ≤ 100) hi
    refine ⟨[.va (.lst (ms.map .int)), .va (.int 8), .va (.int (n : Int)), .ow false (.lst (ps.map pD)), .va (.int (t : Int)), .va (nD i), s6], rfl, ?_, ⟨ps, t, _, _, h1, h4, rfl⟩, rfl⟩
    push_cast [b1, b2, b3, b4, b5, u]) (by
    rintro pre r i j ⟨ps, t, s5, s6, h1, h4, rfl⟩ g hij hj hb
    have g' : s5 = .va (nD i) := by simpa using g
    subst g'
    obtain ⟨x, x0, e2⟩ := nn_at hm (t : Int)
    obtain ⟨q, hq⟩ : ∃ q : Int, (t : Int).fdiv (ms.length : Int) = q := ⟨_, rfl⟩
    have q0 : 0 ≤ q := by rw [← hq]; exact Int.fdiv_nonneg (by omega) (by omega)
    have q1 : q ≤ t := by
      rw [← hq, Int.fdiv_eq_ediv_of_nonneg _ (by omega)]
      exact Int.ediv_le_self _ (by omega)
    have d1 : ¬ (1 + q = 0) := by omega
    have d2 : (1 + q).natAbs < 2 ^ 64 := by omega
    have hs : (ps.map pD).length < SZ := by rw [List.length_map]; have := h1.length_le; unfold SZ; omega
    have hs2 : ps.length < SZ := by have := h1.length_le; unfold SZ; omega
    obtain ⟨y, hy⟩ : ∃ y : Int, (x.fdiv (1 + q)).fmod 3 = y := ⟨_, rfl⟩
    by_cases c : y = 0
    · refine ⟨[.va (.lst (ms.map .int)), .va (.int 8), .va (.int (n : Int)), .ow false (.lst (ps.map pD)), .va (.int (t : Int)), .va (nD i), .va (nD j)], rfl, [.va (.lst (ms.map .int)), .va (.int 8), .va (.int (n : Int)), .ow false (.lst ((ps ++ [(i, j)]).map pD)), .va (.int ((t + 1 : Nat) : Int)), .va (nD i), .va (nD j)], ?_, ⟨ps ++ [(i, j)], t + 1, _, _, h1.append (List.Sublist.refl _), by rw [List.length_append, List.length_singleton]; omega, rfl⟩, rfl⟩
      rw [List.map_append]
      unfold w__law_neighborhood_1
      push_cast [List.length_map, l1, l2, e2, hq, d1, d2, hy, c, hs, hs2]
      rfl
    · refine ⟨[.va (.lst (ms.map .int)), .va (.int 8), .va (.int (n : Int)), .ow false (.lst (ps.map pD)), .va (.int (t : Int)), .va (nD i), .va (nD j)], rfl, [.va (.lst (ms.map .int)), .va (.int 8), .va (.int (n : Int)), .ow false (.lst (ps.map pD)), .va (.int ((t + 1 : Nat) : Int)), .va (nD i), .va (nD j)], ?_, ⟨ps, t + 1, _, _, h1.trans (List.sublist_append_left _ _), by rw [List.length_append, List.length_singleton]; omega, rfl⟩, rfl⟩
      unfold w__law_neighborhood_1
      push_cast [List.length_map, l1, l2, e2, hq, d1, d2, hy, c]) ⟨[], 1, .no, .no, List.Sublist.refl _, rfl, rfl⟩
  have hl := idx_len n
  refine ⟨n, ps, hn, ⟨fun p hp => mem_idx.mp (hps.subset hp), (idx_asc n).sublist hps, by have := hps.length_le; omega⟩, ?_⟩
  have u : upFrom 0 n = (List.range n).map nD := upFrom_nD n
  have b3 : -4611686018427387904 ≤ (n : Int) := by omega
  have b4 : (n : Int) < 4611686018427387904 := by omega
  rw [List.map_nil, show ((1 : Nat) : Int) = 1 from rfl] at e
  unfold d__law_neighborhood b__law_neighborhood
  push_cast [e1, hn', b3, b4, Int.toNat_natCast, u, e]
  rfl
def meetB (ps : List (Nat × Nat)) (cs : List Int) (p : Nat × Nat) : Bool := sameC cs p && decide (p ∈ ps)
abbrev L60 (x0 x1 : Sl) (n : Nat) (ps : List (Nat × Nat)) (x3 : Sl) (cs : List Int) (l6 l7 l8 : List D) (s9 s10 s11 x12 x13 x14 x15 x16 : Sl) : Ev := [x0, x1, .va (nhD n ps), x3, .va (.int (n : Int)), .va (cdD cs), .ow false (.lst l6), .ow false (.lst l7), .ow false (.lst l8), s9, s10, s11, x12, x13, x14, x15, x16, .no]
theorem cat_lst {xs ys : List D} (h : xs.length + ys.length ≤ SZ) : gAdd (.lst xs) (.lst ys) = some (.tm (.lst (xs ++ ys))) := if_pos h
theorem body60 (x0 x1 : Sl) {n : Nat} (hn : n ≤ 8) {ps : List (Nat × Nat)} (h : PsOk n ps) (x3 : Sl) {cs : List Int} (hc : cs.length = n) (l6 l7 l8 : List D) (h6 : l6.length ≤ 1000) (h7 : l7.length ≤ 1000) (h8 : l8.length ≤ 1000) (s11 x12 x13 x14 x15 x16 : Sl) {i j : Nat} (hij : i < j) (hj : j < n) :
    ∃ s11', w_law_1 (L60 x0 x1 n ps x3 cs l6 l7 l8 (.va (nD i)) (.va (nD j)) s11 x12 x13 x14 x15 x16) = .nx (L60 x0 x1 n ps x3 cs (l6 ++ (if sepB n ps (i, j) = true then [tri (i, j)] else [])) (l7 ++ (if meetB ps cs (i, j) = true then [pD (i, j)] else [])) (l8 ++ conf n ps cs (i, j)) (.va (nD i)) (.va (nD j)) s11' x12 x13 x14 x15 x16) := by
  have e1 := lthirds_is (by omega : n ≤ 100) ps i j
  have g1 : gInA (.tup [.int (i : Int), .int (j : Int)]) (.tup (ps.map pD)) = some (.fz (.bl (decide ((i, j) ∈ ps)))) := gIn_pDt (i, j) ps
  have g2 := gNe_nil (th n ps i j)
  have a1 := at_cd (cs := cs) (k := i) (by omega)
  have a2 := at_cd (cs := cs) (k := j) (by omega)
  have hl := th_len n ps i j
  have z6 : l6.length < SZ := by unfold SZ; omega
  have z7 : l7.length < SZ := by unfold SZ; omega
  have z8 : gAdd (.lst l8) (.lst ((th n ps i j).map (quad i j))) = some (.tm (.lst (l8 ++ (th n ps i j).map (quad i j)))) := cat_lst (by rw [List.length_map]; unfold SZ; omega)
  have lc (l6 l7 : List D) (s11 : Sl) (hs : s11 = .va (.lst ((th n ps i j).map nD))) := lc_is (vs := [17]) (t := .one 17) (c := tYes) (e := x_law_2) (r0 := L60 x0 x1 n ps x3 cs l6 l7 l8 (.va (nD i)) (.va (nD j)) s11 x12 x13 x14 x15 x16) nD (fun _ => true) (quad i j) (th n ps i j) (by unfold SZ; omega) (by
    intro k hk
    refine ⟨[x0, x1, .va (nhD n ps), x3, .va (.int (n : Int)), .va (cdD cs), .ow false (.lst l6), .ow false (.lst l7), .ow false (.lst l8), .va (nD i), .va (nD j), s11, x12, x13, x14, x15, x16, .va (nD k)], rfl, rfl, rfl, fun _ => ⟨.fz (quad i j k), ?_, rfl⟩⟩
    unfold x_law_2 quad
    push_cast [K.eC_K])
  simp only [List.filter_eq_self.mpr (fun _ _ => rfl)] at lc
  unfold L60 nhD cdD at lc
  unfold L60 nhD cdD
  unfold nhD at e1
  by_cases c3 : cs.getD i 0 = cs.getD j 0
  · have k3 : sameC cs (i, j) = true := by unfold sameC; rw [decide_eq_true_eq]; exact c3
    refine ⟨.va (.lst ((th n ps i j).map nD)), ?_⟩
    rw [show conf n ps cs (i, j) = (th n ps i j).map (quad i j) from if_pos k3]
    cases c1 : decide ((i, j) ∈ ps) with
    | true =>
      rw [c1] at g1
      have cS : sepB n ps (i, j) = true := by unfold sepB; rw [c1]; rfl
      have cM : meetB ps cs (i, j) = true := by unfold meetB; rw [k3, c1]; rfl
      have lc' := lc (l6 ++ [.tup [.int (i : Int), .int (j : Int), .int 1]]) (l7 ++ [.tup [.int (i : Int), .int (j : Int)]]) _ rfl
      unfold w_law_1
      push_cast [e1, g1, cS, cM, z6, z7, a1, a2, c3, lc', z8]
      rfl
    | false =>
      rw [c1] at g1
      have cM : meetB ps cs (i, j) = false := by unfold meetB; rw [k3, c1]; rfl
      cases c2 : (th n ps i j).isEmpty with
      | true =>
        rw [c2] at g2
        have cS : sepB n ps (i, j) = false := by unfold sepB; rw [c1, c2]; rfl
        have lc' := lc l6 l7 _ rfl
        unfold w_law_1
        push_cast [e1, g1, g2, cS, cM, z6, z7, a1, a2, c3, lc', z8, List.append_nil]
      | false =>
        rw [c2] at g2
        have cS : sepB n ps (i, j) = true := by unfold sepB; rw [c1, c2]; rfl
        have lc' := lc (l6 ++ [tri (i, j)]) l7 _ rfl
        unfold tri at lc'
        unfold w_law_1
        push_cast [e1, g1, g2, cS, cM, z6, z7, a1, a2, c3, lc', z8, List.append_nil]
        rfl
  · have k3 : sameC cs (i, j) = false := by unfold sameC; rw [decide_eq_false_iff_not]; exact c3
    have cM : meetB ps cs (i, j) = false := by unfold meetB; rw [k3]; rfl
    refine ⟨.ow false (.lst ((th n ps i j).map nD)), ?_⟩
    rw [show conf n ps cs (i, j) = [] from if_neg (by rw [k3]; decide)]
    cases c1 : decide ((i, j) ∈ ps) with
    | true =>
      rw [c1] at g1
      have cS : sepB n ps (i, j) = true := by unfold sepB; rw [c1]; rfl
      unfold w_law_1
      push_cast [e1, g1, cS, cM, z6, z7, a1, a2, c3, List.append_nil]
      rfl
    | false =>
      rw [c1] at g1
      cases c2 : (th n ps i j).isEmpty with
      | true =>
        rw [c2] at g2
        have cS : sepB n ps (i, j) = false := by unfold sepB; rw [c1, c2]; rfl
        unfold w_law_1
        push_cast [e1, g1, g2, cS, cM, z6, z7, a1, a2, c3, List.append_nil]
      | false =>
        rw [c2] at g2
        have cS : sepB n ps (i, j) = true := by unfold sepB; rw [c1, c2]; rfl
        unfold w_law_1
        push_cast [e1, g1, g2, cS, cM, z6, z7, a1, a2, c3, List.append_nil]
        rfl
end TT
end

section
set_option autoImplicit false
set_option linter.all false
set_option maxRecDepth 20000
local macro_rules | `(tactic| push_cast [$ls,*]) => `(tactic| simp only [$ls,*, DL.K.eBin_K, DL.K.bin1_ok, DL.K.bin1_err, DL.K.opt_some, DL.K.bin2_ok, DL.K.bin2_err, DL.K.bin3_some, DL.K.eUn_K, DL.K.un1_ok, DL.K.un1_err, DL.K.un2_some, DL.K.aCons_K, DL.K.cons1_ok, DL.K.cons1_err, DL.K.cons2_ok, DL.K.cons2_err, DL.K.aNil_K, DL.K.ePure_K, DL.K.pure1_ok, DL.K.pure1_err, DL.K.pure2_some, DL.K.eTup_K, DL.K.tup1_ok, DL.K.tup1_err, DL.K.tup2_some, DL.K.eLst_K, DL.K.lst1_ok, DL.K.lst1_err, DL.K.lst2_some, DL.K.eName_K, DL.K.name1_va, DL.K.name1_ow, DL.K.eC_K, DL.K.rsv_fz, DL.K.rsv_tm, DL.K.rsv_br, DL.K.rsv1_ow, DL.K.rsv1_va, DL.K.rsvs_nil, DL.K.rsvs_cons, DL.K.rsvs1_some, DL.K.rsvs2_some, DL.K.fzo_fz, DL.K.fzo_tm, DL.K.fzo_br, DL.K.fzo1_ow, DL.K.fzo1_va, DL.K.fzos_nil, DL.K.fzos_cons, DL.K.fzos1_some, DL.K.fzos2_some, DL.K.tTru_K, DL.K.tru1_ok, DL.K.tru1_err, DL.K.tru2_some, DL.K.tru3_some, DL.K.tBl_K, DL.K.tbl1_ok, DL.K.tbl1_err, DL.K.tAnd_K, DL.K.and1_t, DL.K.and1_f, DL.K.and1_err, DL.K.tOr_K, DL.K.or1_t, DL.K.or1_f, DL.K.or1_err, DL.K.tNot_K, DL.K.not1_ok, DL.K.not1_err, DL.K.tYes_K, DL.K.eAnd_K, DL.K.eand1_t, DL.K.eand1_f, DL.K.eand1_err, DL.K.eOr_K, DL.K.eor1_t, DL.K.eor1_f, DL.K.eor1_err, DL.K.eNot_K, DL.K.eNotE_K, DL.K.enot1_ok, DL.K.enot1_err, DL.K.eIf_K, DL.K.eif1_t, DL.K.eif1_f, DL.K.eif1_err, DL.K.eCh_K, DL.K.ch1_ok, DL.K.ch1_err, DL.K.chLast_K, DL.K.chLink_K, DL.K.link1_ok, DL.K.link2_some, DL.K.link3_t, DL.K.link3_f, DL.K.eCall_K, DL.K.call1_ok, DL.K.call1_err, DL.K.call2_nil, DL.K.call2_one, DL.K.call3_ok0, DL.K.call3_err0, DL.K.call3_ok1, DL.K.call3_err1, DL.K.put1_ow, DL.K.isOw_ow, DL.K.iosOf_nil, DL.K.iosOf_f, DL.K.iosOf_t, DL.K.argsOf_nil, DL.K.argsOf_f, DL.K.args1_some, DL.K.args2_some, DL.K.argsOf_t, DL.K.args3_ow, DL.K.sSeq_K, DL.K.seq1_nx, DL.K.seq1_ret, DL.K.seq1_brk, DL.K.seq1_cnt, DL.K.seq1_err, DL.K.sNext_K, DL.K.sBreak_K, DL.K.sCont_K, DL.K.sRetN_K, DL.K.sRaise_K, DL.K.sExpr_K, DL.K.expr1_ok, DL.K.expr1_err, DL.K.sSet_K, DL.K.set1_fz, DL.K.set1_tm, DL.K.set1_br, DL.K.set2_some, DL.K.set1_err, DL.K.sUnp_K, DL.K.unp1_ok, DL.K.unp1_err, DL.K.unp2_some, DL.K.nxo_some, DL.K.put_one, DL.K.put_tup, DL.K.put_ktp, DL.K.setAll_nil, DL.K.setAll_cons, DL.K.sPar_K, DL.K.par1_ok, DL.K.par1_err, DL.K.par2_ok, DL.K.par2_err, DL.K.par3_some, DL.K.keep2_fz, DL.K.keep2_tm, DL.K.sAug_K, DL.K.aug0_va, DL.K.aug1_ok, DL.K.aug1_err, DL.K.aug2_some, DL.K.aug3_some, DL.K.sRet_K, DL.K.ret1_fz, DL.K.ret1_tm, DL.K.ret1_br, DL.K.ret1_err, DL.K.ret2_ow, DL.K.ret2_va, DL.K.sIf_K, DL.K.if1_t, DL.K.if1_f, DL.K.if1_err, DL.K.sSub_K, DL.K.sub1_ok, DL.K.sub1_err, DL.K.sub2_ok, DL.K.sub2_err, DL.K.sub3_some, DL.K.sub4_some, DL.K.sub5_some, DL.K.eMut_K, DL.K.isL_lst, DL.K.mut0_ok, DL.K.mut0_err, DL.K.mut1_some, DL.K.mut2_some, DL.K.mut3_some, DL.K.sFor_K, DL.K.for1_ok, DL.K.for1_err, DL.K.forGo_nil, DL.K.forGo_cons, DL.K.go0_some, DL.K.go1_nx, DL.K.go1_cnt, DL.K.go1_brk, DL.K.go1_ret, DL.K.go1_err, DL.K.whN_K, DL.K.wh1_t, DL.K.wh1_f, DL.K.wh2_nx, DL.K.wh2_cnt, DL.K.wh2_brk, DL.K.wh2_ret, DL.K.wh2_err, DL.K.iSeq_K, DL.K.iseq1_ok, DL.K.iseq1_err, DL.K.iseq2_lst, DL.K.iseq2_tup, DL.K.iseq2_kls, DL.K.iseq2_ktp, DL.K.iRng1_K, DL.K.rg1_ok, DL.K.rg1_err, DL.K.iRng2_K, DL.K.rg2_ok, DL.K.rg2_err, DL.K.rg3_ok, DL.K.rg3_err, DL.K.pNo_K, DL.K.pSome_K, DL.K.psome1_ok, DL.K.eSlice_K, DL.K.sl1_ok, DL.K.sl1_err, DL.K.sl2_ok, DL.K.sl3_ok, DL.K.eLc_K, DL.K.lc0_err, DL.K.lc0_ok, DL.K.lcGo_nil, DL.K.lcGo_cons, DL.K.lc1_some, DL.K.lc2_t, DL.K.lc2_f, DL.K.lc3_ok, DL.K.lc4_some, DL.K.wipeE_nil, DL.K.wipeE_cons, DL.K.backE_nil, DL.K.backE_cons, DL.K.backSl_some, DL.K.isOw_va, DL.K.isOw_no, DL.K.eNewK_K, DL.K.eNewT_K, DL.K.eDisp1_K, DL.K.disp1_ok, DL.K.disp2_ok, DL.K.disp4_i, DL.K.gDictOf_K, DL.K.gRev_lst, DL.K.eLstR1_K, DL.K.lstr1_ok, DL.K.iZip_K, DL.K.zip1_ok, DL.K.zip2_ok, DL.K.zip3_some, DL.K.zip3b_some, DL.K.zip4_lstlst, DL.K.zip4_lstkls, DL.K.zip4_klslst, DL.K.zip4_klskls, DL.K.zip4_tuptup, DL.K.zip4_tupktp, DL.K.zip4_ktptup, DL.K.zip4_ktpktp, DL.K.iEnum_K, DL.K.enum1_ok, DL.K.enum2_lst, DL.K.enum2_kls, DL.K.eLcN_K, DL.K.lcn2_some, DL.K.iKeysD_K, DL.K.kd1_va, DL.K.isK_vaint, DL.K.isK_owint, DL.K.isK_vastr, DL.K.isK_owstr, DL.K.isK_vatup, DL.K.isK_owtup, DL.K.isK_valst, DL.K.isK_owlst, DL.K.isK_vakls, DL.K.isK_owkls, DL.K.isK_vaktp, DL.K.isK_owktp, DL.K.isK_vabl, DL.K.isK_owbl, DL.K.isK_vanon, DL.K.isK_vadct, DL.K.isK_owdct, DL.K.gLen_dct, DL.K.gIn_dct, DL.K.gNotIn_dct, DL.K.gIx_dct, DL.K.ixd_some, DL.K.gSet_dct, DL.K.sTry_K, DL.K.try1_nx, DL.K.try1_ret, DL.K.try1_brk, DL.K.try1_cnt, DL.K.try1_err, DL.K.try3_t, DL.K.try3_f, DL.K.try2_nx, DL.K.try2_ret, DL.K.try2_brk, DL.K.try2_cnt, DL.K.fnD_K, DL.K.fn1_ret, DL.K.fn1_nx, DL.K.fn1_err, DL.K.fn3_some, DL.K.fn4_some, DL.K.iosAt_nil, DL.K.iosAt_f, DL.K.iosAt_t, DL.K.ios1_ow, DL.K.argSl_f, DL.K.argSl_t, DL.K.argSl_nil, DL.K.gAdd_i, DL.K.gAdd_t, DL.K.gAdd_l, DL.K.gSub_i, DL.K.gIAdd_i, DL.K.gLt_i, DL.K.gLe_i, DL.K.gGt_i, DL.K.gGe_i, DL.K.gIx_lst, DL.K.gLen_lst, DL.K.gList_lst, DL.K.gIx_kls, DL.K.gLen_kls, DL.K.gList_kls, DL.K.gIx_tup, DL.K.gLen_tup, DL.K.gList_tup, DL.K.gIx_ktp, DL.K.gLen_ktp, DL.K.gList_ktp, DL.K.ix1_some, DL.K.ix2_some, DL.K.gSlice_lst, DL.K.gSlice_kls, DL.K.gSlice_tup, DL.K.gTuple_tup, DL.K.gTuple_ktp, DL.K.gTuple_lst, DL.K.gTuple_kls, DL.K.gInt_i, DL.K.gAbs_i, DL.K.gNeg_i, DL.K.gGcd_i, DL.K.gMax_i, DL.K.gMin_i, DL.K.gIs_nn, DL.K.gIsNot_nn, DL.K.gIs_bb, DL.K.gIs_intn, DL.K.gIsNot_intn, DL.K.gIs_strn, DL.K.gIsNot_strn, DL.K.gIs_tupn, DL.K.gIsNot_tupn, DL.K.gIs_lstn, DL.K.gIsNot_lstn, DL.K.gIs_klsn, DL.K.gIsNot_klsn, DL.K.gIs_ktpn, DL.K.gIsNot_ktpn, DL.K.gIs_bln, DL.K.gIsNot_bln, DL.K.gIs_dctn, DL.K.gIsNot_dctn, DL.K.gIs_dttn, DL.K.gIsNot_dttn, DL.K.gEq_ii, DL.K.gNe_ii, DL.K.gNe_bb, DL.K.gEq_bb, DL.K.dtr_bl, DL.K.dtr_int, DL.K.dtr_non, DL.K.dtr_lst, DL.K.dtr_kls, DL.K.dtr_tup, DL.K.dtr_ktp, DL.K.eIsi_K, DL.K.gSet_lst, DL.K.set5_some, DL.K.gAppend_K, DL.K.small0, DL.K.less0, DL.K.small1, DL.K.less1, DL.K.small2, DL.K.less2, DL.K.small3, DL.K.less3, DL.K.small4, DL.K.less4, DL.K.small5, DL.K.less5, DL.K.small6, DL.K.less6, DL.K.small7, DL.K.less7, DL.K.small8, DL.K.less8, DL.K.small9, DL.K.less9, DL.K.small10, DL.K.less10, DL.K.small11, DL.K.less11, DL.K.small12, DL.K.less12, DL.K.small13, DL.K.less13, DL.K.small14, DL.K.less14, DL.K.small15, DL.K.less15, DL.K.small16, DL.K.less16, DL.K.isD_bool_non, DL.K.isD_bool_bl, DL.K.isD_bool_int, DL.K.isD_bool_str, DL.K.isD_bool_tup, DL.K.isD_bool_lst, DL.K.isD_bool_kls, DL.K.isD_bool_ktp, DL.K.isD_bool_dct, DL.K.isD_bool_dtt, DL.K.isD_int_non, DL.K.isD_int_bl, DL.K.isD_int_int, DL.K.isD_int_str, DL.K.isD_int_tup, DL.K.isD_int_lst, DL.K.isD_int_kls, DL.K.isD_int_ktp, DL.K.isD_int_dct, DL.K.isD_int_dtt, DL.K.isD_str_non, DL.K.isD_str_bl, DL.K.isD_str_int, DL.K.isD_str_str, DL.K.isD_str_tup, DL.K.isD_str_lst, DL.K.isD_str_kls, DL.K.isD_str_ktp, DL.K.isD_str_dct, DL.K.isD_str_dtt, DL.K.isD_list_non, DL.K.isD_list_bl, DL.K.isD_list_int, DL.K.isD_list_str, DL.K.isD_list_tup, DL.K.isD_list_lst, DL.K.isD_list_kls, DL.K.isD_list_ktp, DL.K.isD_list_dct, DL.K.isD_list_dtt, DL.K.isD_tuple_non, DL.K.isD_tuple_bl, DL.K.isD_tuple_int, DL.K.isD_tuple_str, DL.K.isD_tuple_tup, DL.K.isD_tuple_lst, DL.K.isD_tuple_kls, DL.K.isD_tuple_ktp, DL.K.isD_tuple_dct, DL.K.isD_tuple_dtt, DL.K.isD_dict_non, DL.K.isD_dict_bl, DL.K.isD_dict_int, DL.K.isD_dict_str, DL.K.isD_dict_tup, DL.K.isD_dict_lst, DL.K.isD_dict_kls, DL.K.isD_dict_ktp, DL.K.isD_dict_dct, DL.K.isD_dict_dtt, DL.K.eTupR1_K, DL.K.tupr1_ok, DL.K.gRev_tup, DL.K.eQ_K, DL.K.q1_lst, DL.K.frzAll_cons, DL.K.frzAll_nil, DL.K.frzS_va, DL.K.frzS_ow, DL.K.frzS_no, DL.K.gMul_r, DL.K.gMul_l, DL.K.gMod_i, DL.K.gFdiv_s, DL.ixI, List.getElem?_cons_zero, List.getElem?_cons_succ, List.set_cons_zero, List.set_cons_succ, List.length_cons, List.length_nil, List.cons_append, List.nil_append, List.replicate_succ, List.replicate_zero, List.map_cons, List.map_nil, List.all_cons, List.all_nil, List.isEmpty_cons, List.isEmpty_nil, Nat.reduceAdd, Nat.reduceSub, Nat.reduceLT, Nat.reduceLeDiff, Nat.reduceEqDiff, Nat.reducePow, Nat.zero_add, Int.reduceNeg, Int.reduceLT, Int.reduceLE, Int.reduceEq, Int.reduceNe, Int.reducePow, Int.reduceAdd, Int.reduceSub, Int.reduceMul, Int.reduceToNat, Int.cast_ofNat_Int, Int.natCast_add, Int.natCast_one, Int.natCast_zero, Int.natAbs_neg, Int.reduceAbs, Int.zero_add, not_false_eq_true, not_true_eq_false, and_self, ne_eq, or_false, false_or, or_true, true_or, if_true, if_false, reduceIte, Bool.not_true, Bool.not_false, decide_eq_true_eq, decide_true, decide_false, true_and, and_true, and_false, false_and, implies_true, Option.some.injEq, reduceCtorEq, List.nodup_nil, List.not_mem_nil, bne_self_eq_false, beq_self_eq_true, Bool.true_and, Bool.and_true, Bool.false_and, Bool.and_false, Bool.true_or, Bool.or_true, Bool.false_or, Bool.or_false, Bool.true_beq, Bool.false_beq, Bool.not_not])
/-! k60: the law. -/
namespace TT
open DL PySem
theorem asc_ext : ∀ {a b : List (Nat × Nat)}, a.Pairwise ltQ → b.Pairwise ltQ → (∀ p, p ∈ a ↔ p ∈ b) → a = b
  | [], [], _, _, _ => rfl
  | [], y :: b, _, _, h => absurd ((h y).mpr List.mem_cons_self) (by simp)
  | x :: a, [], _, _, h => absurd ((h x).mp List.mem_cons_self) (by simp)
  | x :: a, y :: b, ha, hb, h => by
    rw [List.pairwise_cons] at ha hb
    have e : x = y := by
      rcases List.mem_cons.mp ((h x).mp List.mem_cons_self) with e | e
      · exact e
      · rcases List.mem_cons.mp ((h y).mpr List.mem_cons_self) with e2 | e2
        · exact e2.symm
        · have h1 := hb.1 x e
          have h2 := ha.1 y e2
          unfold ltQ at h1 h2
          omega
    subst e
    have irr : ∀ z, ¬ ltQ z z := fun z h => by unfold ltQ at h; omega
    rw [asc_ext ha.2 hb.2 fun p => ⟨fun hp => ?_, fun hp => ?_⟩]
    · rcases List.mem_cons.mp ((h p).mp (List.mem_cons_of_mem _ hp)) with e | e
      · subst e; exact absurd (ha.1 p hp) (irr p)
      · exact e
    · rcases List.mem_cons.mp ((h p).mpr (List.mem_cons_of_mem _ hp)) with e | e
      · subst e; exact absurd (hb.1 p hp) (irr p)
      · exact e
theorem meet_eq {n : Nat} {ps : List (Nat × Nat)} (h : PsOk n ps) (cs : List Int) : (idx n).filter (meetB ps cs) = ps.filter (sameC cs) := by
  refine asc_ext ((idx_asc n).filter _) (h.2.1.filter _) fun p => ?_
  unfold meetB
  rw [List.mem_filter, List.mem_filter, Bool.and_eq_true, decide_eq_true_eq, mem_idx]
  exact ⟨fun ⟨_, a, b⟩ => ⟨b, a⟩, fun ⟨b, a⟩ => ⟨h.1 p b, a, b⟩⟩
def NC (cs : List Int) : Prop := ∀ c ∈ cs, 0 ≤ c ∧ c < 6
def okA (n : Nat) (ps : List (Nat × Nat)) (cs : List Int) : Bool := (seps n ps).all fun p => !sameC cs p
theorem asg_is {n : Nat} (hn : n ≤ 8) (ps : List (Nat × Nat)) {cs : List Int} (hc : cs.length = n) (h6 : NC cs) : d__law_is_assignment [.tup [.int (n : Int), .tup ((seps n ps).map tri)], .int 6, cdD cs] = .ok (.fz (.bl (okA n ps cs))) [] := by
  obtain ⟨r', e1, s3, rfl⟩ := for_inv (t := .one 3) (b := w__law_is_assignment_1) D.int (fun _ r => ∃ s3, r = [.va (.tup [.int (n : Int), .tup ((seps n ps).map tri)]), .va (.int 6), .va (cdD cs), s3, .no, .no, .no]) cs (r := [.va (.tup [.int (n : Int), .tup ((seps n ps).map tri)]), .va (.int 6), .va (cdD cs), .no, .no, .no, .no]) ⟨_, rfl⟩ (by
    rintro pre c post e r ⟨s3, rfl⟩
    have hm := h6 c (by rw [e]; simp)
    have li := lint_is (.int c)
    rw [show isI (.int c) = true from rfl] at li
    refine ⟨[.va (.tup [.int (n : Int), .tup ((seps n ps).map tri)]), .va (.int 6), .va (cdD cs), .va (.int c), .no, .no, .no], rfl, [.va (.tup [.int (n : Int), .tup ((seps n ps).map tri)]), .va (.int 6), .va (cdD cs), .va (.int c), .no, .no, .no], .inl ?_, _, rfl⟩
    unfold w__law_is_assignment_1
    push_cast [li, hm.1, hm.2])
  have fa := for_all (t := .many [4, 5, 6]) (b := w__law_is_assignment_2) (fun r => ∃ s4 s5 s6, r = [.va (.tup [.int (n : Int), .tup ((seps n ps).map tri)]), .va (.int 6), .va (cdD cs), s3, s4, s5, s6]) (.bl false) (fun p => !sameC cs p) tri (seps n ps) [.va (.tup [.int (n : Int), .tup ((seps n ps).map tri)]), .va (.int 6), .va (cdD cs), s3, .no, .no, .no] ⟨_, _, _, rfl⟩ (by
    rintro p hp r ⟨s4, s5, s6, rfl⟩
    unfold seps at hp
    have hb := mem_idx.mp (List.mem_filter.mp hp).1
    have a1 := at_cd (cs := cs) (k := p.1) (by omega)
    have a2 := at_cd (cs := cs) (k := p.2) (by omega)
    obtain ⟨z, hz⟩ : ∃ z : Int, (if cs.getD p.1 0 - cs.getD p.2 0 < 0 then -(cs.getD p.1 0 - cs.getD p.2 0) else cs.getD p.1 0 - cs.getD p.2 0) = z := ⟨_, rfl⟩
    refine ⟨[.va (.tup [.int (n : Int), .tup ((seps n ps).map tri)]), .va (.int 6), .va (cdD cs), s3, .va (nD p.1), .va (nD p.2), .va (.int 1)], rfl, fun q => ⟨[.va (.tup [.int (n : Int), .tup ((seps n ps).map tri)]), .va (.int 6), .va (cdD cs), s3, .va (nD p.1), .va (nD p.2), .va (.int 1)], .inl ?_, _, _, _, rfl⟩, fun q => ⟨[.va (.tup [.int (n : Int), .tup ((seps n ps).map tri)]), .va (.int 6), .va (cdD cs), s3, .va (nD p.1), .va (nD p.2), .va (.int 1)], ?_, _, _, _, rfl⟩⟩
    · unfold sameC at q
      rw [Bool.not_eq_true', decide_eq_false_iff_not] at q
      have c1 : ¬ (z < 1) := by rw [← hz]; split <;> omega
      unfold w__law_is_assignment_2 cdD
      push_cast [a1, a2, hz, c1]
    · unfold sameC at q
      rw [Bool.not_eq_false', decide_eq_true_eq] at q
      have c1 : z < 1 := by rw [← hz]; split <;> omega
      unfold w__law_is_assignment_2 cdD
      push_cast [a1, a2, hz, c1])
  have len : (cs.length : Int) = (n : Int) := by omega
  have e0 : forGo (.one 3) w__law_is_assignment_1 (cs.map D.int) = forGo (.one 3) w__law_is_assignment_1 (cs.map D.int) := rfl
  unfold okA
  unfold d__law_is_assignment b__law_is_assignment
  unfold cdD at e1 fa ⊢
  cases q : (seps n ps).all (fun p => !sameC cs p) with
  | true =>
    obtain ⟨r', e2, s4, s5, s6, rfl⟩ := fa.1 q
    push_cast [List.length_map, len, e1, e2]
  | false =>
    obtain ⟨r', e2, s4, s5, s6, rfl⟩ := fa.2 q
    push_cast [List.length_map, len, e1, e2]
theorem okA_eq {n : Nat} {ps : List (Nat × Nat)} (h : PsOk n ps) (cs : List Int) : okA n ps cs = (((idx n).filter (meetB ps cs)).isEmpty && ((idx n).flatMap (conf n ps cs)).isEmpty) := by
  rw [Bool.eq_iff_iff, Bool.and_eq_true, List.isEmpty_iff, List.isEmpty_iff, List.filter_eq_nil_iff, List.flatMap_eq_nil_iff]
  unfold okA seps
  rw [List.all_eq_true]
  constructor
  · intro hA
    refine ⟨fun p hp hm => ?_, fun p hp => ?_⟩
    · unfold meetB at hm
      rw [Bool.and_eq_true] at hm
      have := hA p (List.mem_filter.mpr ⟨hp, by unfold sepB; rw [hm.2]; rfl⟩)
      rw [hm.1] at this; cases this
    · unfold conf
      cases c : sameC cs p with
      | false => rfl
      | true =>
        rw [if_pos rfl, List.map_eq_nil_iff]
        by_cases t : (th n ps p.1 p.2).isEmpty = true
        · exact List.isEmpty_iff.mp t
        · rw [Bool.not_eq_true] at t
          have := hA p (List.mem_filter.mpr ⟨hp, by unfold sepB; rw [t]; simp⟩)
          rw [c] at this; cases this
  · rintro ⟨h1, h2⟩ p hp
    rw [List.mem_filter] at hp
    cases c : sameC cs p with
    | false => rfl
    | true =>
      have k1 := h1 p hp.1
      have k2 := h2 p hp.1
      unfold meetB at k1
      unfold conf at k2
      rw [c, Bool.true_and] at k1
      rw [c, if_pos rfl, List.map_eq_nil_iff] at k2
      have k3 := hp.2
      unfold sepB at k3
      rw [k2, Bool.or_eq_true] at k3
      rcases k3 with k3 | k3
      · exact absurd k3 k1
      · cases k3
end TT
end

section
set_option autoImplicit false
set_option linter.all false
set_option maxRecDepth 20000
local macro_rules | `(tactic| push_cast [$ls,*]) => `(tactic| simp only [$ls,*, DL.K.eBin_K, DL.K.bin1_ok, DL.K.bin1_err, DL.K.opt_some, DL.K.bin2_ok, DL.K.bin2_err, DL.K.bin3_some, DL.K.eUn_K, DL.K.un1_ok, DL.K.un1_err, DL.K.un2_some, DL.K.aCons_K, DL.K.cons1_ok, DL.K.cons1_err, DL.K.cons2_ok, DL.K.cons2_err, DL.K.aNil_K, DL.K.ePure_K, DL.K.pure1_ok, DL.K.pure1_err, DL.K.pure2_some, DL.K.eTup_K, DL.K.tup1_ok, DL.K.tup1_err, DL.K.tup2_some, DL.K.eLst_K, DL.K.lst1_ok, DL.K.lst1_err, DL.K.lst2_some, DL.K.eName_K, DL.K.name1_va, DL.K.name1_ow, DL.K.eC_K, DL.K.rsv_fz, DL.K.rsv_tm, DL.K.rsv_br, DL.K.rsv1_ow, DL.K.rsv1_va, DL.K.rsvs_nil, DL.K.rsvs_cons, DL.K.rsvs1_some, DL.K.rsvs2_some, DL.K.fzo_fz, DL.K.fzo_tm, DL.K.fzo_br, DL.K.fzo1_ow, DL.K.fzo1_va, DL.K.fzos_nil, DL.K.fzos_cons, DL.K.fzos1_some, DL.K.fzos2_some, DL.K.tTru_K, DL.K.tru1_ok, DL.K.tru1_err, DL.K.tru2_some, DL.K.tru3_some, DL.K.tBl_K, DL.K.tbl1_ok, DL.K.tbl1_err, DL.K.tAnd_K, DL.K.and1_t, DL.K.and1_f, DL.K.and1_err, DL.K.tOr_K, DL.K.or1_t, DL.K.or1_f, DL.K.or1_err, DL.K.tNot_K, DL.K.not1_ok, DL.K.not1_err, DL.K.tYes_K, DL.K.eAnd_K, DL.K.eand1_t, DL.K.eand1_f, DL.K.eand1_err, DL.K.eOr_K, DL.K.eor1_t, DL.K.eor1_f, DL.K.eor1_err, DL.K.eNot_K, DL.K.eNotE_K, DL.K.enot1_ok, DL.K.enot1_err, DL.K.eIf_K, DL.K.eif1_t, DL.K.eif1_f, DL.K.eif1_err, DL.K.eCh_K, DL.K.ch1_ok, DL.K.ch1_err, DL.K.chLast_K, DL.K.chLink_K, DL.K.link1_ok, DL.K.link2_some, DL.K.link3_t, DL.K.link3_f, DL.K.eCall_K, DL.K.call1_ok, DL.K.call1_err, DL.K.call2_nil, DL.K.call2_one, DL.K.call3_ok0, DL.K.call3_err0, DL.K.call3_ok1, DL.K.call3_err1, DL.K.put1_ow, DL.K.isOw_ow, DL.K.iosOf_nil, DL.K.iosOf_f, DL.K.iosOf_t, DL.K.argsOf_nil, DL.K.argsOf_f, DL.K.args1_some, DL.K.args2_some, DL.K.argsOf_t, DL.K.args3_ow, DL.K.sSeq_K, DL.K.seq1_nx, DL.K.seq1_ret, DL.K.seq1_brk, DL.K.seq1_cnt, DL.K.seq1_err, DL.K.sNext_K, DL.K.sBreak_K, DL.K.sCont_K, DL.K.sRetN_K, DL.K.sRaise_K, DL.K.sExpr_K, DL.K.expr1_ok, DL.K.expr1_err, DL.K.sSet_K, DL.K.set1_fz, DL.K.set1_tm, DL.K.set1_br, DL.K.set2_some, DL.K.set1_err, DL.K.sUnp_K, DL.K.unp1_ok, DL.K.unp1_err, DL.K.unp2_some, DL.K.nxo_some, DL.K.put_one, DL.K.put_tup, DL.K.put_ktp, DL.K.setAll_nil, DL.K.setAll_cons, DL.K.sPar_K, DL.K.par1_ok, DL.K.par1_err, DL.K.par2_ok, DL.K.par2_err, DL.K.par3_some, DL.K.keep2_fz, DL.K.keep2_tm, DL.K.sAug_K, DL.K.aug0_va, DL.K.aug1_ok, DL.K.aug1_err, DL.K.aug2_some, DL.K.aug3_some, DL.K.sRet_K, DL.K.ret1_fz, DL.K.ret1_tm, DL.K.ret1_br, DL.K.ret1_err, DL.K.ret2_ow, DL.K.ret2_va, DL.K.sIf_K, DL.K.if1_t, DL.K.if1_f, DL.K.if1_err, DL.K.sSub_K, DL.K.sub1_ok, DL.K.sub1_err, DL.K.sub2_ok, DL.K.sub2_err, DL.K.sub3_some, DL.K.sub4_some, DL.K.sub5_some, DL.K.eMut_K, DL.K.isL_lst, DL.K.mut0_ok, DL.K.mut0_err, DL.K.mut1_some, DL.K.mut2_some, DL.K.mut3_some, DL.K.sFor_K, DL.K.for1_ok, DL.K.for1_err, DL.K.forGo_nil, DL.K.forGo_cons, DL.K.go0_some, DL.K.go1_nx, DL.K.go1_cnt, DL.K.go1_brk, DL.K.go1_ret, DL.K.go1_err, DL.K.whN_K, DL.K.wh1_t, DL.K.wh1_f, DL.K.wh2_nx, DL.K.wh2_cnt, DL.K.wh2_brk, DL.K.wh2_ret, DL.K.wh2_err, DL.K.iSeq_K, DL.K.iseq1_ok, DL.K.iseq1_err, DL.K.iseq2_lst, DL.K.iseq2_tup, DL.K.iseq2_kls, DL.K.iseq2_ktp, DL.K.iRng1_K, DL.K.rg1_ok, DL.K.rg1_err, DL.K.iRng2_K, DL.K.rg2_ok, DL.K.rg2_err, DL.K.rg3_ok, DL.K.rg3_err, DL.K.pNo_K, DL.K.pSome_K, DL.K.psome1_ok, DL.K.eSlice_K, DL.K.sl1_ok, DL.K.sl1_err, DL.K.sl2_ok, DL.K.sl3_ok, DL.K.eLc_K, DL.K.lc0_err, DL.K.lc0_ok, DL.K.lcGo_nil, DL.K.lcGo_cons, DL.K.lc1_some, DL.K.lc2_t, DL.K.lc2_f, DL.K.lc3_ok, DL.K.lc4_some, DL.K.wipeE_nil, DL.K.wipeE_cons, DL.K.backE_nil, DL.K.backE_cons, DL.K.backSl_some, DL.K.isOw_va, DL.K.isOw_no, DL.K.eNewK_K, DL.K.eNewT_K, DL.K.eDisp1_K, DL.K.disp1_ok, DL.K.disp2_ok, DL.K.disp4_i, DL.K.gDictOf_K, DL.K.gRev_lst, DL.K.eLstR1_K, DL.K.lstr1_ok, DL.K.iZip_K, DL.K.zip1_ok, DL.K.zip2_ok, DL.K.zip3_some, DL.K.zip3b_some, DL.K.zip4_lstlst, DL.K.zip4_lstkls, DL.K.zip4_klslst, DL.K.zip4_klskls, DL.K.zip4_tuptup, DL.K.zip4_tupktp, DL.K.zip4_ktptup, DL.K.zip4_ktpktp, DL.K.iEnum_K, DL.K.enum1_ok, DL.K.enum2_lst, DL.K.enum2_kls, DL.K.eLcN_K, DL.K.lcn2_some, DL.K.iKeysD_K, DL.K.kd1_va, DL.K.isK_vaint, DL.K.isK_owint, DL.K.isK_vastr, DL.K.isK_owstr, DL.K.isK_vatup, DL.K.isK_owtup, DL.K.isK_valst, DL.K.isK_owlst, DL.K.isK_vakls, DL.K.isK_owkls, DL.K.isK_vaktp, DL.K.isK_owktp, DL.K.isK_vabl, DL.K.isK_owbl, DL.K.isK_vanon, DL.K.isK_vadct, DL.K.isK_owdct, DL.K.gLen_dct, DL.K.gIn_dct, DL.K.gNotIn_dct, DL.K.gIx_dct, DL.K.ixd_some, DL.K.gSet_dct, DL.K.sTry_K, DL.K.try1_nx, DL.K.try1_ret, DL.K.try1_brk, DL.K.try1_cnt, DL.K.try1_err, DL.K.try3_t, DL.K.try3_f, DL.K.try2_nx, DL.K.try2_ret, DL.K.try2_brk, DL.K.try2_cnt, DL.K.fnD_K, DL.K.fn1_ret, DL.K.fn1_nx, DL.K.fn1_err, DL.K.fn3_some, DL.K.fn4_some, DL.K.iosAt_nil, DL.K.iosAt_f, DL.K.iosAt_t, DL.K.ios1_ow, DL.K.argSl_f, DL.K.argSl_t, DL.K.argSl_nil, DL.K.gAdd_i, DL.K.gAdd_t, DL.K.gAdd_l, DL.K.gSub_i, DL.K.gIAdd_i, DL.K.gLt_i, DL.K.gLe_i, DL.K.gGt_i, DL.K.gGe_i, DL.K.gIx_lst, DL.K.gLen_lst, DL.K.gList_lst, DL.K.gIx_kls, DL.K.gLen_kls, DL.K.gList_kls, DL.K.gIx_tup, DL.K.gLen_tup, DL.K.gList_tup, DL.K.gIx_ktp, DL.K.gLen_ktp, DL.K.gList_ktp, DL.K.ix1_some, DL.K.ix2_some, DL.K.gSlice_lst, DL.K.gSlice_kls, DL.K.gSlice_tup, DL.K.gTuple_tup, DL.K.gTuple_ktp, DL.K.gTuple_lst, DL.K.gTuple_kls, DL.K.gInt_i, DL.K.gAbs_i, DL.K.gNeg_i, DL.K.gGcd_i, DL.K.gMax_i, DL.K.gMin_i, DL.K.gIs_nn, DL.K.gIsNot_nn, DL.K.gIs_bb, DL.K.gIs_intn, DL.K.gIsNot_intn, DL.K.gIs_strn, DL.K.gIsNot_strn, DL.K.gIs_tupn, DL.K.gIsNot_tupn, DL.K.gIs_lstn, DL.K.gIsNot_lstn, DL.K.gIs_klsn, DL.K.gIsNot_klsn, DL.K.gIs_ktpn, DL.K.gIsNot_ktpn, DL.K.gIs_bln, DL.K.gIsNot_bln, DL.K.gIs_dctn, DL.K.gIsNot_dctn, DL.K.gIs_dttn, DL.K.gIsNot_dttn, DL.K.gEq_ii, DL.K.gNe_ii, DL.K.gNe_bb, DL.K.gEq_bb, DL.K.dtr_bl, DL.K.dtr_int, DL.K.dtr_non, DL.K.dtr_lst, DL.K.dtr_kls, DL.K.dtr_tup, DL.K.dtr_ktp, DL.K.eIsi_K, DL.K.gSet_lst, DL.K.set5_some, DL.K.gAppend_K, DL.K.small0, DL.K.less0, DL.K.small1, DL.K.less1, DL.K.small2, DL.K.less2, DL.K.small3, DL.K.less3, DL.K.small4, DL.K.less4, DL.K.small5, DL.K.less5, DL.K.small6, DL.K.less6, DL.K.small7, DL.K.less7, DL.K.small8, DL.K.less8, DL.K.small9, DL.K.less9, DL.K.small10, DL.K.less10, DL.K.small11, DL.K.less11, DL.K.small12, DL.K.less12, DL.K.small13, DL.K.less13, DL.K.small14, DL.K.less14, DL.K.small15, DL.K.less15, DL.K.small16, DL.K.less16, DL.K.isD_bool_non, DL.K.isD_bool_bl, DL.K.isD_bool_int, DL.K.isD_bool_str, DL.K.isD_bool_tup, DL.K.isD_bool_lst, DL.K.isD_bool_kls, DL.K.isD_bool_ktp, DL.K.isD_bool_dct, DL.K.isD_bool_dtt, DL.K.isD_int_non, DL.K.isD_int_bl, DL.K.isD_int_int, DL.K.isD_int_str, DL.K.isD_int_tup, DL.K.isD_int_lst, DL.K.isD_int_kls, DL.K.isD_int_ktp, DL.K.isD_int_dct, DL.K.isD_int_dtt, DL.K.isD_str_non, DL.K.isD_str_bl, DL.K.isD_str_int, DL.K.isD_str_str, DL.K.isD_str_tup, DL.K.isD_str_lst, DL.K.isD_str_kls, DL.K.isD_str_ktp, DL.K.isD_str_dct, DL.K.isD_str_dtt, DL.K.isD_list_non, DL.K.isD_list_bl, DL.K.isD_list_int, DL.K.isD_list_str, DL.K.isD_list_tup, DL.K.isD_list_lst, DL.K.isD_list_kls, DL.K.isD_list_ktp, DL.K.isD_list_dct, DL.K.isD_list_dtt, DL.K.isD_tuple_non, DL.K.isD_tuple_bl, DL.K.isD_tuple_int, DL.K.isD_tuple_str, DL.K.isD_tuple_tup, DL.K.isD_tuple_lst, DL.K.isD_tuple_kls, DL.K.isD_tuple_ktp, DL.K.isD_tuple_dct, DL.K.isD_tuple_dtt, DL.K.isD_dict_non, DL.K.isD_dict_bl, DL.K.isD_dict_int, DL.K.isD_dict_str, DL.K.isD_dict_tup, DL.K.isD_dict_lst, DL.K.isD_dict_kls, DL.K.isD_dict_ktp, DL.K.isD_dict_dct, DL.K.isD_dict_dtt, DL.K.eTupR1_K, DL.K.tupr1_ok, DL.K.gRev_tup, DL.K.eQ_K, DL.K.q1_lst, DL.K.frzAll_cons, DL.K.frzAll_nil, DL.K.frzS_va, DL.K.frzS_ow, DL.K.frzS_no, DL.K.gMul_r, DL.K.gMul_l, DL.K.gMod_i, DL.K.gFdiv_s, DL.ixI, List.getElem?_cons_zero, List.getElem?_cons_succ, List.set_cons_zero, List.set_cons_succ, List.length_cons, List.length_nil, List.cons_append, List.nil_append, List.replicate_succ, List.replicate_zero, List.map_cons, List.map_nil, List.all_cons, List.all_nil, List.isEmpty_cons, List.isEmpty_nil, Nat.reduceAdd, Nat.reduceSub, Nat.reduceLT, Nat.reduceLeDiff, Nat.reduceEqDiff, Nat.reducePow, Nat.zero_add, Int.reduceNeg, Int.reduceLT, Int.reduceLE, Int.reduceEq, Int.reduceNe, Int.reducePow, Int.reduceAdd, Int.reduceSub, Int.reduceMul, Int.reduceToNat, Int.cast_ofNat_Int, Int.natCast_add, Int.natCast_one, Int.natCast_zero, Int.natAbs_neg, Int.reduceAbs, Int.zero_add, not_false_eq_true, not_true_eq_false, and_self, ne_eq, or_false, false_or, or_true, true_or, if_true, if_false, reduceIte, Bool.not_true, Bool.not_false, decide_eq_true_eq, decide_true, decide_false, true_and, and_true, and_false, false_and, implies_true, Option.some.injEq, reduceCtorEq, List.nodup_nil, List.not_mem_nil, bne_self_eq_false, beq_self_eq_true, Bool.true_and, Bool.and_true, Bool.false_and, Bool.and_false, Bool.true_or, Bool.or_true, Bool.false_or, Bool.or_false, Bool.true_beq, Bool.false_beq, Bool.not_not])
/-! k60: the law holds. -/
namespace TT
open DL PySem
theorem nn_at2 {ms : List Int} (h : NN ms) (i : Int) : 0 ≤ ms.getD (i.fmod (ms.length : Int)).toNat 0 ∧ gIx (.lst (ms.map .int)) (.int (i.fmod (ms.length : Int))) = some (.fz (.int (ms.getD (i.fmod (ms.length : Int)).toNat 0))) := by
  obtain ⟨h1, h2, h3⟩ := h
  have f0 := Int.fmod_nonneg_of_pos i (show (0 : Int) < (ms.length : Int) by omega)
  have f1 := Int.fmod_lt_of_pos i (show (0 : Int) < (ms.length : Int) by omega)
  obtain ⟨k, hk⟩ : ∃ k : Nat, i.fmod (ms.length : Int) = (k : Int) := ⟨(i.fmod (ms.length : Int)).toNat, by omega⟩
  rw [hk] at f0 f1 ⊢
  have hkl : k < ms.length := by omega
  have e : ms.getD (k : Int).toNat 0 = ms[k] := by
    rw [Int.toNat_natCast, List.getD_eq_getElem?_getD, List.getElem?_eq_getElem hkl]; rfl
  rw [e]
  refine ⟨h3 _ (List.getElem_mem hkl), ?_⟩
  have i0 : ixI (ms.map D.int).length (k : Int) = some k := by
    unfold ixI; rw [List.length_map, if_pos (by omega), if_pos (by omega), Int.toNat_natCast]
  rw [K.gIx_lst, i0, K.ix1_some, List.getElem?_map, List.getElem?_eq_getElem hkl]
  rfl
theorem cell_is (zs : List Int) : ∃ z : Int, d__law_cell [.kls (zs.map .int), .int 0] = .ok (.fz (.int z)) [] := by
  unfold d__law_cell b__law_cell
  cases zs with
  | nil => push_cast [K.eC_K]; exact ⟨_, rfl⟩
  | cons z zs =>
    have c : (0 : Int) < ((z :: zs).length : Int) := by rw [List.length_cons]; omega
    have g := at_kls (zs := z :: zs) (k := 0) (by simp)
    rw [show ((0 : Nat) : Int) = 0 from rfl] at g
    obtain ⟨w, hw⟩ : ∃ w, w = z :: zs := ⟨_, rfl⟩
    refine ⟨(z :: zs)[0], ?_⟩
    rw [List.map_cons] at g ⊢
    have c2 : (0 : Int) < (zs.length : Int) + 1 := by omega
    push_cast [List.length_map, c2]
    rfl
theorem okS_rows {α : Type} (f : α → D) (hf : ∀ x, okS 38 (f x) = true) (l : List α) (h : l.length < 100000) : okS 39 (.lst (l.map f)) = true := by
  unfold okS
  rw [Bool.and_eq_true, decide_eq_true_eq, okSs_iff, List.length_map]
  exact ⟨h, fun d hd => by obtain ⟨x, _, rfl⟩ := List.mem_map.mp hd; exact hf x⟩
theorem okS_told {n : Nat} {l : List (Nat × Nat)} (h : l.length < 100000) : okS 39 (.tup [.int (n : Int), .tup (l.map tri)]) = true := by
  have : okS 38 (.tup (l.map tri)) = true := by
    unfold okS
    rw [Bool.and_eq_true, decide_eq_true_eq, okSs_iff, List.length_map]
    exact ⟨h, fun d hd => by obtain ⟨x, _, rfl⟩ := List.mem_map.mp hd; rfl⟩
  unfold okS
  rw [Bool.and_eq_true, decide_eq_true_eq, okSs_iff]
  refine ⟨by show 2 < 100000; decide, fun d hd => ?_⟩
  simp only [List.mem_cons, List.not_mem_nil, or_false] at hd
  rcases hd with rfl | rfl
  · rfl
  · exact this
theorem okW_nh {n : Nat} {ps : List (Nat × Nat)} (h : ps.length ≤ 400) : okW 400 3 (nhD n ps) = true := by
  refine okW_tup.mpr ⟨by show 2 ≤ 400; decide, fun d hd => ?_⟩
  simp only [List.mem_cons, List.not_mem_nil, or_false] at hd
  rcases hd with rfl | rfl
  · rfl
  · refine okW_tup.mpr ⟨by rw [List.length_map]; exact h, fun d hd => ?_⟩
    obtain ⟨p, _, rfl⟩ := List.mem_map.mp hd
    refine okW_tup.mpr ⟨by show 2 ≤ 400; decide, fun d hd => ?_⟩
    simp only [List.mem_cons, List.not_mem_nil, or_false] at hd
    rcases hd with rfl | rfl <;> rfl
abbrev M60 (x0 x1 : Sl) (n : Nat) (ps : List (Nat × Nat)) (x3 : Sl) (cs : List Int) (x6 x7 x8 s9 s10 s11 x12 x13 x14 x15 x16 : Sl) : Ev := [x0, x1, .va (nhD n ps), x3, .va (.int (n : Int)), .va (cdD cs), x6, x7, x8, s9, s10, s11, x12, x13, x14, x15, x16, .no]
theorem turn60 (x0 : Sl) {ms : List Int} (hm : NN ms) (n : Nat) (ps : List (Nat × Nat)) (dg : Int) (cs : List Int) (x6 x7 x8 : Sl) (s9 s10 s11 x12 s13 x15 x16 : Sl) (t : Int) {L m : Nat} (hL : 3 ≤ L) (hL2 : L ≤ 900) (h8 : m ≤ 20) {v : D} (hv : okW L m v = true) (hs : s13 = .va v ∨ s13 = .ow false v) :
    ∃ v' s13' x15' x16', okW (L + 1) (m + 2) v' = true ∧ (s13' = .va v' ∨ s13' = .ow false v') ∧ w_law_3 (M60 x0 (.va (.lst (ms.map .int))) n ps (.va (.int dg)) cs x6 x7 x8 s9 s10 s11 x12 s13 (.va (.int t)) x15 x16) = .nx (M60 x0 (.va (.lst (ms.map .int))) n ps (.va (.int dg)) cs x6 x7 x8 s9 s10 s11 x12 s13' (.va (.int t)) x15' x16') := by
  have e1 := members_is (by omega : L ≤ 2000) hv
  have e2 := is_nh (by omega : L ≤ 2000) (by omega) hv
  have e3 := gNe_rowW (by omega : m ≤ 59) (memb_ok hv).1
  have e4 := law_nh hv
  have e5 := equal_refl 39 (.bl (nhB v)) rfl
  rw [show 39 + 1 = 40 from rfl] at e5
  obtain ⟨o, ⟨v', ho, hv'⟩, e6⟩ := bend_is hL (by omega) hm 40 m v ((dg.fdiv 8).fmod 7 + t * 3) (by omega) hv
  unfold M60
  rcases ho with rfl | rfl
  · refine ⟨v', .va v', .ow false (.lst (memb v)), .va (.bl (nhB v)), hv', .inl rfl, ?_⟩
    unfold w_law_3
    rcases hs with rfl | rfl
    · push_cast [e1, e2, e3, e4, e5, e6]
    · push_cast [e1, e2, e3, e4, e5, e6]
  · refine ⟨v', .ow false v', .ow false (.lst (memb v)), .va (.bl (nhB v)), hv', .inr rfl, ?_⟩
    unfold w_law_3
    rcases hs with rfl | rfl
    · push_cast [e1, e2, e3, e4, e5, e6]
    · push_cast [e1, e2, e3, e4, e5, e6]
theorem law_is (zs : List Int) (hz : zs.length ≤ 63) : d_law [.kls (zs.map .int)] = .ok (.fz (.bl true)) [] := by
  obtain ⟨ms0, hms0, e1⟩ := nums_is zs hz
  obtain ⟨ms, hms⟩ : ∃ ms, ms = ms0 ++ [1, 2, 3] := ⟨_, rfl⟩
  have hm : NN ms := by
    rw [hms]
    refine ⟨by rw [List.length_append]; show 1 ≤ _ + 3; omega, by rw [List.length_append]; have := hms0.2; show _ + 3 ≤ 1000; omega, fun x hx => ?_⟩
    rcases List.mem_append.mp hx with h | h
    · exact (hms0.1 x h).1
    · simp only [List.mem_cons, List.not_mem_nil, or_false] at h
      omega
  have za : gAdd (.lst (ms0.map .int)) (.lst [.int 1, .int 2, .int 3]) = some (.tm (.lst (ms.map .int))) := by
    rw [cat_lst (by rw [List.length_map]; have := hms0.2; show _ + 3 ≤ SZ; unfold SZ; omega), hms, List.map_append]
    rfl
  obtain ⟨n, ps, hn, hps, e2⟩ := nhd_is hm
  obtain ⟨z, e3⟩ := cell_is zs
  obtain ⟨dg, hdg⟩ : ∃ dg : Int, (if z < 0 then -z else z) = dg := ⟨_, rfl⟩
  have dg0 : 0 ≤ dg := by rw [← hdg]; split <;> omega
  have l1 : ¬ (ms.length : Int) = 0 := by have := hm.1; omega
  have l2 : (ms.length : Int).natAbs < 2 ^ 64 := by have := hm.2.1; omega
  obtain ⟨d6, hd6⟩ : ∃ d6 : Int, dg.fmod 6 = d6 := ⟨_, rfl⟩
  have d60 : 0 ≤ d6 := by rw [← hd6]; exact Int.fmod_nonneg_of_pos _ (by decide)
  have d61 : d6 < 6 := by rw [← hd6]; exact Int.fmod_lt_of_pos _ (by decide)
  have n1 : ¬ (1 + d6 = 0) := by omega
  have n2 : (1 + d6).natAbs < 2 ^ 64 := by omega
  obtain ⟨cs, hcs⟩ : ∃ cs : List Int, cs = (List.range n).map fun (k : Nat) => ((ms.getD ((k : Int).fmod (ms.length : Int)).toNat 0).fdiv 9).fmod (1 + d6) := ⟨_, rfl⟩
  have hc : cs.length = n := by rw [hcs, List.length_map, List.length_range]
  have h6 : NC cs := fun c hc => by
    rw [hcs] at hc
    obtain ⟨k, _, rfl⟩ := List.mem_map.mp hc
    have h0 := Int.fmod_nonneg_of_pos ((ms.getD ((k : Int).fmod (ms.length : Int)).toNat 0).fdiv 9) (show 0 < 1 + d6 by omega)
    have h1 := Int.fmod_lt_of_pos ((ms.getD ((k : Int).fmod (ms.length : Int)).toNat 0).fdiv 9) (show 0 < 1 + d6 by omega)
    exact ⟨h0, by omega⟩
  have c1 := lc_is (vs := [17]) (t := .one 17) (c := tYes) (e := x_law_1) (r0 := [.va (.kls (zs.map .int)), .va (.lst (ms.map .int)), .va (nhD n ps), .va (.int dg), .va (.int (n : Int)), .no, .no, .no, .no, .no, .no, .no, .no, .no, .no, .no, .no, .no]) nD (fun _ => true) (fun (k : Nat) => .int (((ms.getD ((k : Int).fmod (ms.length : Int)).toNat 0).fdiv 9).fmod (1 + d6))) (List.range n) (by rw [List.length_range]; unfold SZ; omega) (by
    intro k hk
    have g := (nn_at2 hm (k : Int)).2
    refine ⟨[.va (.kls (zs.map .int)), .va (.lst (ms.map .int)), .va (nhD n ps), .va (.int dg), .va (.int (n : Int)), .no, .no, .no, .no, .no, .no, .no, .no, .no, .no, .no, .no, .va (nD k)], rfl, rfl, rfl, fun _ => ⟨.fz (.int (((ms.getD ((k : Int).fmod (ms.length : Int)).toNat 0).fdiv 9).fmod (1 + d6))), ?_, rfl⟩⟩
    unfold x_law_1
    push_cast [List.length_map, l1, l2, g, hd6, n1, n2])
  rw [List.filter_eq_self.mpr (fun _ _ => rfl), show ((List.range n).map fun (k : Nat) => D.int (((ms.getD ((k : Int).fmod (ms.length : Int)).toNat 0).fdiv 9).fmod (1 + d6))) = cs.map .int by rw [hcs, List.map_map]; rfl] at c1
  have hnn : n * n ≤ 8 * 8 := Nat.mul_le_mul hn hn
  obtain ⟨r', f1, s9, s10, s11, rfl⟩ := nest (a := 9) (b := 10) (w1 := w_law_1) (w2 := w_law_2) (n := n) rfl (by omega) (fun pre r => ∃ s9 s10 s11, r = L60 (.va (.kls (zs.map .int))) (.va (.lst (ms.map .int))) n ps (.va (.int dg)) cs ((pre.filter (sepB n ps)).map tri) ((pre.filter (meetB ps cs)).map pD) (pre.flatMap (conf n ps cs)) s9 s10 s11 .no .no .no .no .no) (by
    rintro pre r i ⟨s9, s10, s11, rfl⟩ hi
    obtain ⟨b1, b2, b3, b4, b5, u⟩ := rng_facts (by omega : n ≤ 100) hi
    refine ⟨L60 (.va (.kls (zs.map .int))) (.va (.lst (ms.map .int))) n ps (.va (.int dg)) cs ((pre.filter (sepB n ps)).map tri) ((pre.filter (meetB ps cs)).map pD) (pre.flatMap (conf n ps cs)) (.va (nD i)) s10 s11 .no .no .no .no .no, rfl, ?_, ⟨_, _, _, rfl⟩, rfl⟩
    unfold L60
    push_cast [b1, b2, b3, b4, b5, u]) (by
    rintro pre r i j ⟨s9, s10, s11, rfl⟩ g hij hj hb
    have g' : s9 = .va (nD i) := by simpa using g
    subst g'
    have hf := flat_len (conf n ps cs) n (conf_len n ps cs) pre
    have h3 : pre.length * n ≤ 64 * 8 := Nat.mul_le_mul (by omega) hn
    obtain ⟨s11', g2⟩ := body60 (.va (.kls (zs.map .int))) (.va (.lst (ms.map .int))) hn hps (.va (.int dg)) hc ((pre.filter (sepB n ps)).map tri) ((pre.filter (meetB ps cs)).map pD) (pre.flatMap (conf n ps cs)) (by rw [List.length_map]; have := List.length_filter_le (sepB n ps) pre; omega) (by rw [List.length_map]; have := List.length_filter_le (meetB ps cs) pre; omega) (by omega) s11 .no .no .no .no .no hij hj
    refine ⟨_, rfl, _, g2, ⟨.va (nD i), .va (nD j), s11', ?_⟩, rfl⟩
    rw [filter_snoc', filter_snoc', List.map_append, List.map_append, List.flatMap_append, List.flatMap_cons, List.flatMap_nil, List.append_nil]
    have m1 : (if sepB n ps (i, j) = true then [(i, j)] else []).map tri = (if sepB n ps (i, j) = true then [tri (i, j)] else []) := by split <;> rfl
    have m2 : (if meetB ps cs (i, j) = true then [(i, j)] else []).map pD = (if meetB ps cs (i, j) = true then [pD (i, j)] else []) := by split <;> rfl
    rw [m1, m2]) ⟨.no, .no, .no, rfl⟩
  rw [show (idx n).filter (sepB n ps) = seps n ps from rfl] at f1
  have i1 := idx_len n
  have e4 := code_is hn hps
  have e5 := coll_is hps hc
  have e6 := confs_is hn hps hc
  have e7 := asg_is hn ps hc h6
  have sl : (seps n ps).length ≤ 64 := by have := List.length_filter_le (sepB n ps) (idx n); unfold seps; omega
  have cl : ((idx n).flatMap (conf n ps cs)).length ≤ 512 := by
    have hf := flat_len (conf n ps cs) n (conf_len n ps cs) (idx n)
    have h3 : (idx n).length * n ≤ 64 * 8 := Nat.mul_le_mul (by omega) hn
    omega
  have me := meet_eq hps cs
  rw [← me] at e5
  have q1 := equal_refl 39 (.tup [.int (n : Int), .tup ((seps n ps).map tri)]) (okS_told (by omega))
  have q2 := equal_refl 39 (.lst (((idx n).filter (meetB ps cs)).map pD)) (okS_rows pD (fun _ => rfl) _ (by have := List.length_filter_le (meetB ps cs) (idx n); omega))
  have q3 := equal_refl 39 (.lst ((idx n).flatMap (conf n ps cs))) (by
    unfold okS
    rw [Bool.and_eq_true, decide_eq_true_eq, okSs_iff]
    refine ⟨by omega, fun d hd => ?_⟩
    obtain ⟨p, _, h⟩ := List.mem_flatMap.mp hd
    unfold conf at h
    split at h
    · obtain ⟨k, _, rfl⟩ := List.mem_map.mp h; rfl
    · cases h)
  have q4 := equal_refl 39 (.bl (okA n ps cs)) rfl
  rw [show 39 + 1 = 40 from rfl] at q1 q2 q3 q4
  have g7 := gEq_lnil (okDs_pD 62 ((idx n).filter (meetB ps cs)))
  have g8 := gEq_lnil (ys := (idx n).flatMap (conf n ps cs)) (okDs_iff.mpr fun d hd => by
    obtain ⟨p, _, h⟩ := List.mem_flatMap.mp hd
    unfold conf at h
    split at h
    · obtain ⟨k, _, rfl⟩ := List.mem_map.mp h; rfl
    · cases h)
  rw [map_empty] at g7
  have w24 : okW 3 3 (.tup [.int 24, .tup [.tup [.int 22, .int 23]]]) = true := by decide +kernel
  have w25 : okW 3 3 (.tup [.int 25, .tup []]) = true := by decide +kernel
  have i24 := is_nh (by decide) (by decide) w24
  have i25 := is_nh (by decide) (by decide) w25
  rw [show nhB (.tup [.int 24, .tup [.tup [.int 22, .int 23]]]) = true by decide +kernel] at i24
  rw [show nhB (.tup [.int 25, .tup []]) = false by decide +kernel] at i25
  have isnt (a b : Bool) : gIsNot (.bl a) (.bl b) = some (.fz (.bl (!(a == b)))) := rfl
  obtain ⟨r', f2, v, s13, s14, s15, s16, _, _, rfl⟩ := for_inv (t := .one 14) (b := w_law_3) nD (fun pre r => ∃ v s13 s14 s15 s16, okW (400 + pre.length) (3 + 2 * pre.length) v = true ∧ (s13 = .va v ∨ s13 = .ow false v) ∧ r = M60 (.va (.kls (zs.map .int))) (.va (.lst (ms.map .int))) n ps (.va (.int dg)) cs (.ow false (.lst ((seps n ps).map tri))) (.va (.lst (((idx n).filter (meetB ps cs)).map pD))) (.va (.lst ((idx n).flatMap (conf n ps cs)))) s9 s10 s11 (.va (.tup [.int (n : Int), .tup ((seps n ps).map tri)])) s13 s14 s15 s16) (List.range 4) (r := M60 (.va (.kls (zs.map .int))) (.va (.lst (ms.map .int))) n ps (.va (.int dg)) cs (.ow false (.lst ((seps n ps).map tri))) (.va (.lst (((idx n).filter (meetB ps cs)).map pD))) (.va (.lst ((idx n).flatMap (conf n ps cs)))) s9 s10 s11 (.va (.tup [.int (n : Int), .tup ((seps n ps).map tri)])) (.va (nhD n ps)) .no .no .no) ⟨nhD n ps, _, _, _, _, okW_nh hps.2.2, .inl rfl, rfl⟩ (by
    rintro pre t post e r ⟨v, s13, s14, s15, s16, hv, hs, rfl⟩
    have hlen := congrArg List.length e
    rw [List.length_append, List.length_cons, List.length_range] at hlen
    obtain ⟨v', s13', s15', s16', hv', hs', g⟩ := turn60 (.va (.kls (zs.map .int))) hm n ps dg cs (.ow false (.lst ((seps n ps).map tri))) (.va (.lst (((idx n).filter (meetB ps cs)).map pD))) (.va (.lst ((idx n).flatMap (conf n ps cs)))) s9 s10 s11 (.va (.tup [.int (n : Int), .tup ((seps n ps).map tri)])) s13 s15 s16 (t : Int) (by omega) (by omega) (by omega) hv hs
    exact ⟨_, rfl, _, .inl g, v', s13', _, s15', s16', by rw [List.length_append, List.length_singleton]; exact hv', hs', rfl⟩)
  have u : upFrom 0 n = (List.range n).map nD := upFrom_nD n
  have u4 : upFrom 0 4 = (List.range 4).map nD := upFrom_nD 4
  have b3 : -4611686018427387904 ≤ (n : Int) := by omega
  have b4 : (n : Int) < 4611686018427387904 := by omega
  have okE := okA_eq hps cs
  unfold L60 nhD cdD at f1
  unfold M60 nhD cdD at f2
  unfold nhD at e2 c1
  unfold nhD at e4
  unfold nhD cdD at e5 e6
  unfold cdD at e7
  rw [List.filter_nil, List.filter_nil, List.map_nil, List.map_nil, List.flatMap_nil] at f1
  rw [okE] at e7 q4
  unfold d_law b_law
  cases k1 : ((idx n).filter (meetB ps cs)).isEmpty with
  | true =>
    rw [k1] at g7 e7 q4
    rw [Bool.true_and] at e7 q4
    push_cast [e1, za, e2, e3, hdg, b3, b4, Int.toNat_natCast, u, c1, f1, e4, q1, e5, q2, e6, q3, e7, g7, g8, q4, i24, i25, isnt, u4, f2]
  | false =>
    rw [k1] at g7 e7 q4
    rw [Bool.false_and] at e7 q4
    push_cast [e1, za, e2, e3, hdg, b3, b4, Int.toNat_natCast, u, c1, f1, e4, q1, e5, q2, e6, q3, e7, g7, q4, i24, i25, isnt, u4, f2]
end TT
end

section
/-! Printed by gen.py: the walks. -/
set_option Elab.async false
set_option linter.all false
set_option maxRecDepth 100000
set_option maxHeartbeats 4000000
set_option autoImplicit false
namespace TT
open PySem PySem.Spec PyProof.Rows L2 DL
def topS (i : Nat) : Stmt := PySem.Challenge.pw_airwave_k60_codes_that_meet.main.body.getD i (.Pass ⟨0, 0, 0, 0⟩)
abbrev s__law_neighborhood : Stmt := topS 25
abbrev N__law_neighborhood : List Str := ["numbers", "most", "count", "pairs", "at", "i", "j"]
theorem sc__law_neighborhood : FnScope N__law_neighborhood ["numbers", "most"] (defScope s__law_neighborhood) := ⟨rfl, rfl, rfl, by decide +kernel, rfl, by decide +kernel, by decide +kernel⟩
abbrev s_near : Stmt := topS 6
abbrev N_near : List Str := ["neighborhood", "station", "i", "j"]
theorem sc_near : FnScope N_near ["neighborhood", "station"] (defScope s_near) := ⟨rfl, rfl, rfl, by decide +kernel, rfl, by decide +kernel, by decide +kernel⟩
abbrev s_thirds : Stmt := topS 7
abbrev N_thirds : List Str := ["neighborhood", "i", "j", "others", "k"]
theorem sc_thirds : FnScope N_thirds ["neighborhood", "i", "j"] (defScope s_thirds) := ⟨rfl, rfl, rfl, by decide +kernel, rfl, by decide +kernel, by decide +kernel⟩
abbrev s_code_separations : Stmt := topS 8
abbrev N_code_separations : List Str := ["neighborhood", "count", "pairs", "rows", "i", "j"]
theorem sc_code_separations : FnScope N_code_separations ["neighborhood"] (defScope s_code_separations) := ⟨rfl, rfl, rfl, by decide +kernel, rfl, by decide +kernel, by decide +kernel⟩
abbrev s__law_numbers : Stmt := topS 14
abbrev N__law_numbers : List Str := ["script", "first", "most", "found", "at", "cell", "k", "mixed"]
theorem sc__law_numbers : FnScope N__law_numbers ["script", "first", "most"] (defScope s__law_numbers) := ⟨rfl, rfl, rfl, by decide +kernel, rfl, by decide +kernel, by decide +kernel⟩
abbrev s__law_cell : Stmt := topS 13
abbrev N__law_cell : List Str := ["script", "k"]
theorem sc__law_cell : FnScope N__law_cell ["script", "k"] (defScope s__law_cell) := ⟨rfl, rfl, rfl, by decide +kernel, rfl, by decide +kernel, by decide +kernel⟩
abbrev s__law_equal : Stmt := topS 12
abbrev N__law_equal : List Str := ["x", "y", "k", "key"]
theorem sc__law_equal : FnScope N__law_equal ["x", "y"] (defScope s__law_equal) := ⟨rfl, rfl, rfl, by decide +kernel, rfl, by decide +kernel, by decide +kernel⟩
abbrev s__law_members : Stmt := topS 28
abbrev N__law_members : List Str := ["value", "row"]
theorem sc__law_members : FnScope N__law_members ["value"] (defScope s__law_members) := ⟨rfl, rfl, rfl, by decide +kernel, rfl, by decide +kernel, by decide +kernel⟩
abbrev s_is_integer : Stmt := topS 1
abbrev N_is_integer : List Str := ["value"]
theorem sc_is_integer : FnScope N_is_integer ["value"] (defScope s_is_integer) := ⟨rfl, rfl, rfl, by decide +kernel, rfl, by decide +kernel, by decide +kernel⟩
abbrev s_is_pair : Stmt := topS 4
abbrev N_is_pair : List Str := ["value", "count"]
theorem sc_is_pair : FnScope N_is_pair ["value", "count"] (defScope s_is_pair) := ⟨rfl, rfl, rfl, by decide +kernel, rfl, by decide +kernel, by decide +kernel⟩
abbrev s_is_neighborhood : Stmt := topS 5
abbrev N_is_neighborhood : List Str := ["value", "count", "pairs", "pair", "other"]
theorem sc_is_neighborhood : FnScope N_is_neighborhood ["value"] (defScope s_is_neighborhood) := ⟨rfl, rfl, rfl, by decide +kernel, rfl, by decide +kernel, by decide +kernel⟩
abbrev s__law_is_integer : Stmt := topS 15
abbrev N__law_is_integer : List Str := ["actual"]
theorem sc__law_is_integer : FnScope N__law_is_integer ["actual"] (defScope s__law_is_integer) := ⟨rfl, rfl, rfl, by decide +kernel, rfl, by decide +kernel, by decide +kernel⟩
abbrev s__law_odd : Stmt := topS 23
abbrev N__law_odd : List Str := ["number", "values"]
theorem sc__law_odd : FnScope N__law_odd ["number"] (defScope s__law_odd) := ⟨rfl, rfl, rfl, by decide +kernel, rfl, by decide +kernel, by decide +kernel⟩
abbrev s__law_bend : Stmt := topS 24
abbrev N__law_bend : List Str := ["value", "numbers", "at", "number", "place", "way"]
theorem sc__law_bend : FnScope N__law_bend ["value", "numbers", "at"] (defScope s__law_bend) := ⟨rfl, rfl, rfl, by decide +kernel, rfl, by decide +kernel, by decide +kernel⟩
abbrev s__law_thirds : Stmt := topS 26
abbrev N__law_thirds : List Str := ["neighborhood", "i", "j", "found", "k", "first"]
theorem sc__law_thirds : FnScope N__law_thirds ["neighborhood", "i", "j"] (defScope s__law_thirds) := ⟨rfl, rfl, rfl, by decide +kernel, rfl, by decide +kernel, by decide +kernel⟩
abbrev s__law_is_assignment : Stmt := topS 18
abbrev N__law_is_assignment : List Str := ["separations", "channels", "value", "one", "i", "j", "least"]
theorem sc__law_is_assignment : FnScope N__law_is_assignment ["separations", "channels", "value"] (defScope s__law_is_assignment) := ⟨rfl, rfl, rfl, by decide +kernel, rfl, by decide +kernel, by decide +kernel⟩
abbrev s_collisions : Stmt := topS 9
abbrev N_collisions : List Str := ["neighborhood", "codes", "i", "j"]
theorem sc_collisions : FnScope N_collisions ["neighborhood", "codes"] (defScope s_collisions) := ⟨rfl, rfl, rfl, by decide +kernel, rfl, by decide +kernel, by decide +kernel⟩
abbrev s_confusions : Stmt := topS 10
abbrev N_confusions : List Str := ["neighborhood", "codes", "found", "i", "j", "k"]
theorem sc_confusions : FnScope N_confusions ["neighborhood", "codes"] (defScope s_confusions) := ⟨rfl, rfl, rfl, by decide +kernel, rfl, by decide +kernel, by decide +kernel⟩
abbrev s__law_is_neighborhood : Stmt := topS 27
abbrev N__law_is_neighborhood : List Str := ["value", "before", "pair"]
theorem sc__law_is_neighborhood : FnScope N__law_is_neighborhood ["value"] (defScope s__law_is_neighborhood) := ⟨rfl, rfl, rfl, by decide +kernel, rfl, by decide +kernel, by decide +kernel⟩
abbrev s_law : Stmt := topS 29
abbrev N_law : List Str := ["script", "numbers", "neighborhood", "digit", "count", "codes", "rows", "meet", "mixed", "i", "j", "thirds_v", "told", "value", "turn", "kept_before", "answer", "k"]
theorem sc_law : FnScope N_law ["script"] (defScope s_law) := ⟨rfl, rfl, rfl, by decide +kernel, rfl, by decide +kernel, by decide +kernel⟩
/-- what the top has left -/
structure Txt (K : PySem.W.Frag) (mg : Str → Option Value) where
  a__law_neighborhood : Addr
  fd__law_neighborhood : FuncData
  F__law_neighborhood : Fun K "_law_neighborhood" "_law_neighborhood" s__law_neighborhood a__law_neighborhood fd__law_neighborhood
  b__law_neighborhood : Binds K fd__law_neighborhood ["numbers", "most"] []
  a_near : Addr
  fd_near : FuncData
  F_near : Fun K "near" "near" s_near a_near fd_near
  b_near : Binds K fd_near ["neighborhood", "station"] []
  a_thirds : Addr
  fd_thirds : FuncData
  F_thirds : Fun K "thirds" "thirds" s_thirds a_thirds fd_thirds
  b_thirds : Binds K fd_thirds ["neighborhood", "i", "j"] []
  a_code_separations : Addr
  fd_code_separations : FuncData
  F_code_separations : Fun K "code_separations" "code_separations" s_code_separations a_code_separations fd_code_separations
  b_code_separations : Binds K fd_code_separations ["neighborhood"] []
  a__law_numbers : Addr
  fd__law_numbers : FuncData
  F__law_numbers : Fun K "_law_numbers" "_law_numbers" s__law_numbers a__law_numbers fd__law_numbers
  b__law_numbers : Binds K fd__law_numbers ["script", "first", "most"] []
  a__law_cell : Addr
  fd__law_cell : FuncData
  F__law_cell : Fun K "_law_cell" "_law_cell" s__law_cell a__law_cell fd__law_cell
  b__law_cell : Binds K fd__law_cell ["script", "k"] []
  a__law_equal : Addr
  fd__law_equal : FuncData
  F__law_equal : Fun K "_law_equal" "_law_equal" s__law_equal a__law_equal fd__law_equal
  b__law_equal : Binds K fd__law_equal ["x", "y"] []
  a__law_members : Addr
  fd__law_members : FuncData
  F__law_members : Fun K "_law_members" "_law_members" s__law_members a__law_members fd__law_members
  b__law_members : Binds K fd__law_members ["value"] []
  a_is_integer : Addr
  fd_is_integer : FuncData
  F_is_integer : Fun K "is_integer" "is_integer" s_is_integer a_is_integer fd_is_integer
  b_is_integer : Binds K fd_is_integer ["value"] []
  a_is_pair : Addr
  fd_is_pair : FuncData
  F_is_pair : Fun K "is_pair" "is_pair" s_is_pair a_is_pair fd_is_pair
  b_is_pair : Binds K fd_is_pair ["value", "count"] []
  a_is_neighborhood : Addr
  fd_is_neighborhood : FuncData
  F_is_neighborhood : Fun K "is_neighborhood" "is_neighborhood" s_is_neighborhood a_is_neighborhood fd_is_neighborhood
  b_is_neighborhood : Binds K fd_is_neighborhood ["value"] []
  a__law_is_integer : Addr
  fd__law_is_integer : FuncData
  F__law_is_integer : Fun K "_law_is_integer" "_law_is_integer" s__law_is_integer a__law_is_integer fd__law_is_integer
  b__law_is_integer : Binds K fd__law_is_integer ["actual"] []
  a__law_odd : Addr
  fd__law_odd : FuncData
  F__law_odd : Fun K "_law_odd" "_law_odd" s__law_odd a__law_odd fd__law_odd
  b__law_odd : Binds K fd__law_odd ["number"] []
  a__law_bend : Addr
  fd__law_bend : FuncData
  F__law_bend : Fun K "_law_bend" "_law_bend" s__law_bend a__law_bend fd__law_bend
  b__law_bend : Binds K fd__law_bend ["value", "numbers", "at"] []
  a__law_thirds : Addr
  fd__law_thirds : FuncData
  F__law_thirds : Fun K "_law_thirds" "_law_thirds" s__law_thirds a__law_thirds fd__law_thirds
  b__law_thirds : Binds K fd__law_thirds ["neighborhood", "i", "j"] []
  a__law_is_assignment : Addr
  fd__law_is_assignment : FuncData
  F__law_is_assignment : Fun K "_law_is_assignment" "_law_is_assignment" s__law_is_assignment a__law_is_assignment fd__law_is_assignment
  b__law_is_assignment : Binds K fd__law_is_assignment ["separations", "channels", "value"] []
  a_collisions : Addr
  fd_collisions : FuncData
  F_collisions : Fun K "collisions" "collisions" s_collisions a_collisions fd_collisions
  b_collisions : Binds K fd_collisions ["neighborhood", "codes"] []
  a_confusions : Addr
  fd_confusions : FuncData
  F_confusions : Fun K "confusions" "confusions" s_confusions a_confusions fd_confusions
  b_confusions : Binds K fd_confusions ["neighborhood", "codes"] []
  a__law_is_neighborhood : Addr
  fd__law_is_neighborhood : FuncData
  F__law_is_neighborhood : Fun K "_law_is_neighborhood" "_law_is_neighborhood" s__law_is_neighborhood a__law_is_neighborhood fd__law_is_neighborhood
  b__law_is_neighborhood : Binds K fd__law_is_neighborhood ["value"] []
  a_law : Addr
  fd_law : FuncData
  F_law : Fun K "law" "law" s_law a_law fd_law
  b_law : Binds K fd_law ["script"] []
  m__law_bend : mg "_law_bend" = some (.ref a__law_bend)
  m__law_cell : mg "_law_cell" = some (.ref a__law_cell)
  m__law_equal : mg "_law_equal" = some (.ref a__law_equal)
  m__law_is_assignment : mg "_law_is_assignment" = some (.ref a__law_is_assignment)
  m__law_is_integer : mg "_law_is_integer" = some (.ref a__law_is_integer)
  m__law_is_neighborhood : mg "_law_is_neighborhood" = some (.ref a__law_is_neighborhood)
  m__law_members : mg "_law_members" = some (.ref a__law_members)
  m__law_neighborhood : mg "_law_neighborhood" = some (.ref a__law_neighborhood)
  m__law_numbers : mg "_law_numbers" = some (.ref a__law_numbers)
  m__law_odd : mg "_law_odd" = some (.ref a__law_odd)
  m__law_thirds : mg "_law_thirds" = some (.ref a__law_thirds)
  m_code_separations : mg "code_separations" = some (.ref a_code_separations)
  m_collisions : mg "collisions" = some (.ref a_collisions)
  m_confusions : mg "confusions" = some (.ref a_confusions)
  m_is_integer : mg "is_integer" = some (.ref a_is_integer)
  m_is_neighborhood : mg "is_neighborhood" = some (.ref a_is_neighborhood)
  m_is_pair : mg "is_pair" = some (.ref a_is_pair)
  m_near : mg "near" = some (.ref a_near)
  m_thirds : mg "thirds" = some (.ref a_thirds)
  m_law : mg "law" = some (.ref a_law)
  n_abs : mg "abs" = none
  n_all : mg "all" = none
  n_bool : mg "bool" = none
  n_dict : mg "dict" = none
  n_int : mg "int" = none
  n_isinstance : mg "isinstance" = none
  n_len : mg "len" = none
  n_list : mg "list" = none
  n_max : mg "max" = none
  n_min : mg "min" = none
  n_range : mg "range" = none
  n_sorted : mg "sorted" = none
  n_str : mg "str" = none
  n_tuple : mg "tuple" = none
  n_zip : mg "zip" = none
  c_MOST_USERS : (t : Tok) ×' mg "MOST_USERS" = some (.int (24) t)
section
variable {P : Program} {w : World} {K : PySem.W.Frag} {mg : Str → Option Value} {base : Heap}
theorem ok__law_neighborhood (T : Txt K mg) : FnOk P w K mg base (L2.CX P w) 1 T.a__law_neighborhood T.fd__law_neighborhood ["numbers", "most"] (spD mg K [false, false] d__law_neighborhood) :=
  fn_ok (k := 0) (N := N__law_neighborhood) (ps := ["numbers", "most"]) (m := [false, false]) (fb := b__law_neighborhood) T.F__law_neighborhood sc__law_neighborhood rfl (by decide) (by decide) <| fun cdv A outer s H E hr => by
    have tk := takes_of (X := cxOf (L2.CX P w) P w K mg base N__law_neighborhood "_law_neighborhood" (defScope s__law_neighborhood) T.a__law_neighborhood cdv A outer s H E) rfl rfl rfl rfl
    have po : PassesOwn (model P w) (A.deeper (envOfC "_law_neighborhood" (defScope s__law_neighborhood) s.heap.objs.size T.a__law_neighborhood cdv)) (envOfC "_law_neighborhood" (defScope s__law_neighborhood) s.heap.objs.size T.a__law_neighborhood cdv) (cxOf (L2.CX P w) P w K mg base N__law_neighborhood "_law_neighborhood" (defScope s__law_neighborhood) T.a__law_neighborhood cdv A outer s H E).xe := passes_of rfl
    have hu0 := hr.units0
    have hu1 := hu_of hr
    have hu64 := hr.units
    have hu65 : (A.deeper (envOfC "_law_neighborhood" (defScope s__law_neighborhood) s.heap.objs.size T.a__law_neighborhood cdv)).units + 65 < cLine := by have := hr.un; omega
    have sc := sc__law_neighborhood
    exact (db_cons (ds_set (i := 2) sc.nd rfl (.inl rfl) (de_bin opd_mod (de_callTy cd_int (by rfl) T.n_int (by decide +kernel) (da_cons (de_ix hu1 (de_name (pv 0)) de_int) da_nil)) (de_bin opd_add (de_name (pv 1)) de_int)))
  (db_cons (ds_set (i := 3) sc.nd rfl (.inl rfl) (de_lst da_nil))
  (db_cons (ds_set (i := 4) sc.nd rfl (.inl rfl) de_int)
  (db_cons (ds_for po rfl (di_rng1 (by rfl) T.n_range (de_name (pv 2))) (dg_one (pg_name (i := 5) sc.nd rfl (.inl rfl)))
  (db_one (ds_for po rfl (di_rng2 (by rfl) T.n_range (de_bin opd_add (de_name (pv 5)) de_int) (de_name (pv 2))) (dg_one (pg_name (i := 6) sc.nd rfl (.inl rfl)))
  (db_cons (ds_if (dt_cmp (opd_eq hu64) (de_bin opd_mod (de_bin opd_fdiv (de_callTy cd_int (by rfl) T.n_int (by decide +kernel) (da_cons (de_ix hu1 (de_name (pv 0)) (de_bin opd_mod (de_callTy cd_int (by rfl) T.n_int (by decide +kernel) (da_cons (de_name (pv 4)) da_nil)) (de_callB cd_len (by rfl) T.n_len (by decide +kernel) (da_cons (de_name (pv 0)) da_nil)))) da_nil)) (de_bin opd_add de_int (de_bin opd_fdiv (de_name (pv 4)) (de_callB cd_len (by rfl) T.n_len (by decide +kernel) (da_cons (de_name (pv 0)) da_nil))))) de_int) de_int (nomark _))
  (db_one (ds_expr (de_mut PySem.F.slot_list_append PySem.F.type_list_append md_append (pv 3) (da_cons (de_tup (da_cons (de_name (pv 5)) (da_cons (de_name (pv 6)) da_nil))) da_nil))))
  db_nil)
  (db_one (ds_set (i := 4) sc.nd rfl (.inl rfl) (de_bin opd_add (de_name (pv 4)) de_int)))))))
  (db_one (ds_ret (de_tup (da_cons (de_name (pv 2)) (da_cons (de_callTy cd_tuple (by rfl) T.n_tuple (by decide +kernel) (da_cons (de_name (pv 3)) da_nil)) da_nil)))))))))
theorem ok_near (T : Txt K mg) : FnOk P w K mg base (L2.CX P w) 1 T.a_near T.fd_near ["neighborhood", "station"] (spD mg K [false, false] d_near) :=
  fn_ok (k := 0) (N := N_near) (ps := ["neighborhood", "station"]) (m := [false, false]) (fb := b_near) T.F_near sc_near rfl (by decide) (by decide) <| fun cdv A outer s H E hr => by
    have tk := takes_of (X := cxOf (L2.CX P w) P w K mg base N_near "near" (defScope s_near) T.a_near cdv A outer s H E) rfl rfl rfl rfl
    have po : PassesOwn (model P w) (A.deeper (envOfC "near" (defScope s_near) s.heap.objs.size T.a_near cdv)) (envOfC "near" (defScope s_near) s.heap.objs.size T.a_near cdv) (cxOf (L2.CX P w) P w K mg base N_near "near" (defScope s_near) T.a_near cdv A outer s H E).xe := passes_of rfl
    have hu0 := hr.units0
    have hu1 := hu_of hr
    have hu64 := hr.units
    have hu65 : (A.deeper (envOfC "near" (defScope s_near) s.heap.objs.size T.a_near cdv)).units + 65 < cLine := by have := hr.un; omega
    have sc := sc_near
    exact (db_one (ds_ret (de_lc rfl sc.nd (di_seq (de_ix hu1 (de_name (pv 0)) de_int)) (blkOk_by (own := [("i", 2), ("j", 3)]) (N := N_near) (sc := defScope s_near) (by decide +kernel)) (fun _ _ _ _ _ => (dg_many rfl (dgs_cons (pg_name (i := 2) sc.nd rfl (.inl rfl)) (dgs_cons (pg_name (i := 3) sc.nd rfl (.inl rfl)) dgs_nil)))) (fun _ _ _ _ _ => (dif_one (dt_cmp (opd_inA hu65) (de_name (pv 1)) (de_tup (da_cons (de_name (pv 2)) (da_cons (de_name (pv 3)) da_nil))) (by rfl)))) (fun _ _ _ _ _ => (de_bin opd_sub (de_bin opd_add (de_name (pv 2)) (de_name (pv 3))) (de_name (pv 1)))) (by decide) (by rfl))))
theorem ok_thirds (T : Txt K mg) : FnOk P w K mg base (L2.CX P w) 2 T.a_thirds T.fd_thirds ["neighborhood", "i", "j"] (spD mg K [false, false, false] d_thirds) :=
  fn_ok (k := 1) (N := N_thirds) (ps := ["neighborhood", "i", "j"]) (m := [false, false, false]) (fb := b_thirds) T.F_thirds sc_thirds rfl (by decide) (by decide) <| fun cdv A outer s H E hr => by
    have tk := takes_of (X := cxOf (L2.CX P w) P w K mg base N_thirds "thirds" (defScope s_thirds) T.a_thirds cdv A outer s H E) rfl rfl rfl rfl
    have po : PassesOwn (model P w) (A.deeper (envOfC "thirds" (defScope s_thirds) s.heap.objs.size T.a_thirds cdv)) (envOfC "thirds" (defScope s_thirds) s.heap.objs.size T.a_thirds cdv) (cxOf (L2.CX P w) P w K mg base N_thirds "thirds" (defScope s_thirds) T.a_thirds cdv A outer s H E).xe := passes_of rfl
    have hu0 := hr.units0
    have hu1 := hu_of hr
    have hu64 := hr.units
    have hu65 : (A.deeper (envOfC "thirds" (defScope s_thirds) s.heap.objs.size T.a_thirds cdv)).units + 65 < cLine := by have := hr.un; omega
    have sc := sc_thirds
    exact (db_cons (ds_set (i := 3) sc.nd rfl (.inr rfl) (de_call (ok_near T) (hr.mono (by first | decide | omega)) tk (by rfl) T.m_near T.F_near.kp T.b_near (da_cons (de_name (pv 0)) (da_cons (de_name (pv 2)) da_nil))))
  (db_one (ds_ret (de_callB (cd_sortedE rfl hu64) (by rfl) T.n_sorted (by decide +kernel) (da_cons (de_lc rfl sc.nd (di_seq (de_call (ok_near T) (hr.mono (by first | decide | omega)) tk (by rfl) T.m_near T.F_near.kp T.b_near (da_cons (de_name (pv 0)) (da_cons (de_name (pv 1)) da_nil)))) (blkOk_by (own := [("k", 4)]) (N := N_thirds) (sc := defScope s_thirds) (by decide +kernel)) (fun _ _ _ _ _ => (dg_one (pg_name (i := 4) sc.nd rfl (.inl rfl)))) (fun _ _ _ _ _ => (dif_one (dt_cmp (opd_inA hu65) (de_name (pv 4)) (de_name (pv 3)) (by rfl)))) (fun _ _ _ _ _ => (de_name (pv 4))) (by decide) (by rfl)) da_nil)))))
theorem ok_code_separations (T : Txt K mg) : FnOk P w K mg base (L2.CX P w) 3 T.a_code_separations T.fd_code_separations ["neighborhood"] (spD mg K [false] d_code_separations) :=
  fn_ok (k := 2) (N := N_code_separations) (ps := ["neighborhood"]) (m := [false]) (fb := b_code_separations) T.F_code_separations sc_code_separations rfl (by decide) (by decide) <| fun cdv A outer s H E hr => by
    have tk := takes_of (X := cxOf (L2.CX P w) P w K mg base N_code_separations "code_separations" (defScope s_code_separations) T.a_code_separations cdv A outer s H E) rfl rfl rfl rfl
    have po : PassesOwn (model P w) (A.deeper (envOfC "code_separations" (defScope s_code_separations) s.heap.objs.size T.a_code_separations cdv)) (envOfC "code_separations" (defScope s_code_separations) s.heap.objs.size T.a_code_separations cdv) (cxOf (L2.CX P w) P w K mg base N_code_separations "code_separations" (defScope s_code_separations) T.a_code_separations cdv A outer s H E).xe := passes_of rfl
    have hu0 := hr.units0
    have hu1 := hu_of hr
    have hu64 := hr.units
    have hu65 : (A.deeper (envOfC "code_separations" (defScope s_code_separations) s.heap.objs.size T.a_code_separations cdv)).units + 65 < cLine := by have := hr.un; omega
    have sc := sc_code_separations
    exact (db_cons (ds_unp (dg_many rfl (dgs_cons (pg_name (i := 1) sc.nd rfl (.inl rfl)) (dgs_cons (pg_name (i := 2) sc.nd rfl (.inl rfl)) dgs_nil))) (de_name (pv 0)))
  (db_cons (ds_set (i := 3) sc.nd rfl (.inl rfl) (de_lst da_nil))
  (db_cons (ds_for po rfl (di_rng1 (by rfl) T.n_range (de_name (pv 1))) (dg_one (pg_name (i := 4) sc.nd rfl (.inl rfl)))
  (db_one (ds_for po rfl (di_rng2 (by rfl) T.n_range (de_bin opd_add (de_name (pv 4)) de_int) (de_name (pv 1))) (dg_one (pg_name (i := 5) sc.nd rfl (.inl rfl)))
  (db_one (ds_if (DW.dt (dw_or (dt_cmp (opd_inA hu65) (de_tup (da_cons (de_name (pv 4)) (da_cons (de_name (pv 5)) da_nil))) (de_name (pv 2)) (by rfl)) (dw_or1 (dt_cmp (opd_ne hu64) (de_call (ok_thirds T) (hr.mono (by first | decide | omega)) tk (by rfl) T.m_thirds T.F_thirds.kp T.b_thirds (da_cons (de_name (pv 0)) (da_cons (de_name (pv 4)) (da_cons (de_name (pv 5)) da_nil)))) (de_lst da_nil) (nomark _)))))
  (db_one (ds_expr (de_mut PySem.F.slot_list_append PySem.F.type_list_append md_append (pv 3) (da_cons (de_tup (da_cons (de_name (pv 4)) (da_cons (de_name (pv 5)) (da_cons de_int da_nil)))) da_nil))))
  db_nil)))))
  (db_one (ds_ret (de_tup (da_cons (de_name (pv 1)) (da_cons (de_callTy cd_tuple (by rfl) T.n_tuple (by decide +kernel) (da_cons (de_name (pv 3)) da_nil)) da_nil))))))))
theorem ok__law_numbers (T : Txt K mg) : FnOk P w K mg base (L2.CX P w) 1 T.a__law_numbers T.fd__law_numbers ["script", "first", "most"] (spD mg K [false, false, false] d__law_numbers) :=
  fn_ok (k := 0) (N := N__law_numbers) (ps := ["script", "first", "most"]) (m := [false, false, false]) (fb := b__law_numbers) T.F__law_numbers sc__law_numbers rfl (by decide) (by decide) <| fun cdv A outer s H E hr => by
    have tk := takes_of (X := cxOf (L2.CX P w) P w K mg base N__law_numbers "_law_numbers" (defScope s__law_numbers) T.a__law_numbers cdv A outer s H E) rfl rfl rfl rfl
    have po : PassesOwn (model P w) (A.deeper (envOfC "_law_numbers" (defScope s__law_numbers) s.heap.objs.size T.a__law_numbers cdv)) (envOfC "_law_numbers" (defScope s__law_numbers) s.heap.objs.size T.a__law_numbers cdv) (cxOf (L2.CX P w) P w K mg base N__law_numbers "_law_numbers" (defScope s__law_numbers) T.a__law_numbers cdv A outer s H E).xe := passes_of rfl
    have hu0 := hr.units0
    have hu1 := hu_of hr
    have hu64 := hr.units
    have hu65 : (A.deeper (envOfC "_law_numbers" (defScope s__law_numbers) s.heap.objs.size T.a__law_numbers cdv)).units + 65 < cLine := by have := hr.un; omega
    have sc := sc__law_numbers
    exact (db_cons (ds_set (i := 3) sc.nd rfl (.inl rfl) (de_lst da_nil))
  (db_cons (ds_for po rfl (di_rng2 (by rfl) T.n_range (de_name (pv 1)) (de_callB cd_len (by rfl) T.n_len (by decide +kernel) (da_cons (de_name (pv 0)) da_nil))) (dg_one (pg_name (i := 4) sc.nd rfl (.inl rfl)))
  (db_cons (ds_set (i := 5) sc.nd rfl (.inl rfl) (de_callB cd_abs (by rfl) T.n_abs (by decide +kernel) (da_cons (de_ix hu1 (de_name (pv 0)) (de_name (pv 4))) da_nil)))
  (db_one (ds_if (dt_cmp (opd_geA hu64) (de_name (pv 5)) de_int (nomark _))
  (db_one (ds_for po rfl (di_rng1 (by rfl) T.n_range de_int) (dg_one (pg_name (i := 6) sc.nd rfl (.inl rfl)))
  (db_one (ds_if (DW.dt (dw_and (dt_cmp (opd_gtA hu64) (de_name (pv 5)) de_int (nomark _)) (dw_and1 (dt_cmp (opd_ltA hu0 hu64) (de_callB cd_len (by rfl) T.n_len (by decide +kernel) (da_cons (de_name (pv 3)) da_nil)) (de_name (pv 2)) (nomark _)))))
  (db_cons (ds_expr (de_mut PySem.F.slot_list_append PySem.F.type_list_append md_append (pv 3) (da_cons (de_bin opd_mod (de_callTy cd_int (by rfl) T.n_int (by decide +kernel) (da_cons (de_name (pv 5)) da_nil)) de_int) da_nil)))
  (db_one (ds_set (i := 5) sc.nd rfl (.inl rfl) (de_bin opd_fdiv (de_name (pv 5)) de_int))))
  db_nil))))
  (db_one (ds_if (dt_cmp (opd_ltA hu0 hu64) (de_callB cd_len (by rfl) T.n_len (by decide +kernel) (da_cons (de_name (pv 3)) da_nil)) (de_name (pv 2)) (nomark _))
  (db_cons (ds_set (i := 7) sc.nd rfl (.inl rfl) (de_bin opd_mod (de_callTy cd_int (by rfl) T.n_int (by decide +kernel) (da_cons (de_bin opd_add (de_bin opd_add (de_bin opd_mul (de_name (pv 5)) de_int) (de_bin opd_mul (de_name (pv 4)) de_int)) de_int) da_nil)) de_int))
  (db_cons (ds_set (i := 7) sc.nd rfl (.inl rfl) (de_bin opd_mod (de_callTy cd_int (by rfl) T.n_int (by decide +kernel) (da_cons (de_bin opd_add (de_bin opd_mul (de_name (pv 7)) de_int) (de_bin opd_fdiv (de_name (pv 7)) de_int)) da_nil)) de_int))
  (db_one (ds_expr (de_mut PySem.F.slot_list_append PySem.F.type_list_append md_append (pv 3) (da_cons (de_bin opd_mod (de_callTy cd_int (by rfl) T.n_int (by decide +kernel) (da_cons (de_name (pv 7)) da_nil)) de_int) da_nil))))))
  db_nil))))))
  (db_one (ds_ret (de_name (pv 3))))))
theorem ok__law_cell (T : Txt K mg) : FnOk P w K mg base (L2.CX P w) 1 T.a__law_cell T.fd__law_cell ["script", "k"] (spD mg K [false, false] d__law_cell) :=
  fn_ok (k := 0) (N := N__law_cell) (ps := ["script", "k"]) (m := [false, false]) (fb := b__law_cell) T.F__law_cell sc__law_cell rfl (by decide) (by decide) <| fun cdv A outer s H E hr => by
    have tk := takes_of (X := cxOf (L2.CX P w) P w K mg base N__law_cell "_law_cell" (defScope s__law_cell) T.a__law_cell cdv A outer s H E) rfl rfl rfl rfl
    have po : PassesOwn (model P w) (A.deeper (envOfC "_law_cell" (defScope s__law_cell) s.heap.objs.size T.a__law_cell cdv)) (envOfC "_law_cell" (defScope s__law_cell) s.heap.objs.size T.a__law_cell cdv) (cxOf (L2.CX P w) P w K mg base N__law_cell "_law_cell" (defScope s__law_cell) T.a__law_cell cdv A outer s H E).xe := passes_of rfl
    have hu0 := hr.units0
    have hu1 := hu_of hr
    have hu64 := hr.units
    have hu65 : (A.deeper (envOfC "_law_cell" (defScope s__law_cell) s.heap.objs.size T.a__law_cell cdv)).units + 65 < cLine := by have := hr.un; omega
    have sc := sc__law_cell
    exact (db_cons (ds_if (dt_cmp (opd_ltA hu0 hu64) (de_name (pv 1)) (de_callB cd_len (by rfl) T.n_len (by decide +kernel) (da_cons (de_name (pv 0)) da_nil)) (nomark _))
  (db_one (ds_ret (de_ix hu1 (de_name (pv 0)) (de_name (pv 1)))))
  db_nil)
  (db_one (ds_ret de_int)))
theorem ok__law_equal (T : Txt K mg) : ∀ n : Nat, FnOk P w K mg base (L2.CX P w) (1 + n) T.a__law_equal T.fd__law_equal ["x", "y"] (spD mg K [false, false] (d__law_equal n))
  | 0 => fn_bad rfl
  | n + 1 => by
    have ih : FnOk P w K mg base (L2.CX P w) (1 + n) T.a__law_equal T.fd__law_equal ["x", "y"] (spD mg K [false, false] (d__law_equal n)) := ok__law_equal T n
    refine fn_ok (k := 1 + n) (N := N__law_equal) (ps := ["x", "y"]) (m := [false, false]) (fb := b__law_equal (d__law_equal n)) T.F__law_equal sc__law_equal rfl (by decide) (by decide) ?_
    exact fun cdv A outer s H E hr => by
      have tk := takes_of (X := cxOf (L2.CX P w) P w K mg base N__law_equal "_law_equal" (defScope s__law_equal) T.a__law_equal cdv A outer s H E) rfl rfl rfl rfl
      have po : PassesOwn (model P w) (A.deeper (envOfC "_law_equal" (defScope s__law_equal) s.heap.objs.size T.a__law_equal cdv)) (envOfC "_law_equal" (defScope s__law_equal) s.heap.objs.size T.a__law_equal cdv) (cxOf (L2.CX P w) P w K mg base N__law_equal "_law_equal" (defScope s__law_equal) T.a__law_equal cdv A outer s H E).xe := passes_of rfl
      have hu0 := hr.units0
      have hu1 := hu_of hr
      have hu64 := hr.units
      have hu65 : (A.deeper (envOfC "_law_equal" (defScope s__law_equal) s.heap.objs.size T.a__law_equal cdv)).units + 65 < cLine := by have := hr.un; omega
      have sc := sc__law_equal
      exact (db_cons (ds_if (DW.dt (dw_or (dt_cmp (opd_ne hu64) (de_isi (t := .bool) rfl T.n_isinstance (by decide +kernel) rfl T.n_bool (by decide +kernel) (de_name (pv 0))) (de_isi (t := .bool) rfl T.n_isinstance (by decide +kernel) rfl T.n_bool (by decide +kernel) (de_name (pv 1))) (nomark _)) (dw_or (dt_cmp (opd_ne hu64) (de_isi (t := .int) rfl T.n_isinstance (by decide +kernel) rfl T.n_int (by decide +kernel) (de_name (pv 0))) (de_isi (t := .int) rfl T.n_isinstance (by decide +kernel) rfl T.n_int (by decide +kernel) (de_name (pv 1))) (nomark _)) (dw_or1 (dt_cmp (opd_ne hu64) (de_isi (t := .str) rfl T.n_isinstance (by decide +kernel) rfl T.n_str (by decide +kernel) (de_name (pv 0))) (de_isi (t := .str) rfl T.n_isinstance (by decide +kernel) rfl T.n_str (by decide +kernel) (de_name (pv 1))) (nomark _))))))
  (db_one (ds_ret de_bl))
  db_nil)
  (db_cons (ds_if (DW.dt (dw_or (dt_cmp (opd_ne hu64) (de_isi (t := .list) rfl T.n_isinstance (by decide +kernel) rfl T.n_list (by decide +kernel) (de_name (pv 0))) (de_isi (t := .list) rfl T.n_isinstance (by decide +kernel) rfl T.n_list (by decide +kernel) (de_name (pv 1))) (nomark _)) (dw_or (dt_cmp (opd_ne hu64) (de_isi (t := .tuple) rfl T.n_isinstance (by decide +kernel) rfl T.n_tuple (by decide +kernel) (de_name (pv 0))) (de_isi (t := .tuple) rfl T.n_isinstance (by decide +kernel) rfl T.n_tuple (by decide +kernel) (de_name (pv 1))) (nomark _)) (dw_or1 (dt_cmp (opd_ne hu64) (de_isi (t := .dict) rfl T.n_isinstance (by decide +kernel) rfl T.n_dict (by decide +kernel) (de_name (pv 0))) (de_isi (t := .dict) rfl T.n_isinstance (by decide +kernel) rfl T.n_dict (by decide +kernel) (de_name (pv 1))) (nomark _))))))
  (db_one (ds_ret de_bl))
  db_nil)
  (db_cons (ds_if (DW.dt (dw_or (dt_tru (de_isi (t := .list) rfl T.n_isinstance (by decide +kernel) rfl T.n_list (by decide +kernel) (de_name (pv 1)))) (dw_or1 (dt_tru (de_isi (t := .tuple) rfl T.n_isinstance (by decide +kernel) rfl T.n_tuple (by decide +kernel) (de_name (pv 1)))))))
  (db_one (ds_ret (de_and (de_cmp (opd_eq hu64) (de_callB cd_len (by rfl) T.n_len (by decide +kernel) (da_cons (de_name (pv 0)) da_nil)) (de_callB cd_len (by rfl) T.n_len (by decide +kernel) (da_cons (de_name (pv 1)) da_nil)) (nomark _)) (de_one (de_callB (cd_all rfl) (by rfl) T.n_all (by decide +kernel) (da_cons (de_lc rfl sc.nd (di_rng1 (by rfl) T.n_range (de_callB cd_len (by rfl) T.n_len (by decide +kernel) (da_cons (de_name (pv 1)) da_nil))) (blkOk_by (own := [("k", 2)]) (N := N__law_equal) (sc := defScope s__law_equal) (by decide +kernel)) (fun _ _ _ _ _ => (dg_one (pg_name (i := 2) sc.nd rfl (.inl rfl)))) (fun _ _ _ _ _ => dif_nil) (fun _ _ _ _ _ => (de_call (ih) (hr.mono (by omega)) takes0 (by rfl) T.m__law_equal T.F__law_equal.kp T.b__law_equal (da_cons (de_ix hu1 (de_name (pv 0)) (de_name (pv 2))) (da_cons (de_ix hu1 (de_name (pv 1)) (de_name (pv 2))) da_nil)))) (by decide) (by rfl)) da_nil))))))
  db_nil)
  (db_cons (ds_if (dt_tru (de_isi (t := .dict) rfl T.n_isinstance (by decide +kernel) rfl T.n_dict (by decide +kernel) (de_name (pv 1))))
  (db_one (ds_ret (de_and (de_cmp (opd_eq hu64) (de_callB cd_len (by rfl) T.n_len (by decide +kernel) (da_cons (de_name (pv 0)) da_nil)) (de_callB cd_len (by rfl) T.n_len (by decide +kernel) (da_cons (de_name (pv 1)) da_nil)) (nomark _)) (de_one (de_callB (cd_all rfl) (by rfl) T.n_all (by decide +kernel) (da_cons (de_quiet (de_lcN rfl sc.nd (pv 1) (blkOk_by (own := [("key", 3)]) (N := N__law_equal) (sc := defScope s__law_equal) (by decide +kernel)) (fun _ _ _ _ _ => (dg_one (pg_name (i := 3) sc.nd rfl (.inl rfl)))) (fun _ _ _ _ _ => dif_nil) (fun _ _ _ _ _ => (de_and (de_cmp (opd_inA hu65) (de_name (pv 3)) (de_name (pv 0)) (by rfl)) (de_one (de_call (ih) (hr.mono (by omega)) takes0 (by rfl) T.m__law_equal T.F__law_equal.kp T.b__law_equal (da_cons (de_ix hu1 (de_name (pv 0)) (de_name (pv 3))) (da_cons (de_ix hu1 (de_name (pv 1)) (de_name (pv 3))) da_nil)))))) (by decide) (by rfl))) da_nil))))))
  db_nil)
  (db_one (ds_ret (de_cmp opd_is (de_cmp (opd_eq hu64) (de_name (pv 0)) (de_name (pv 1)) (nomark _)) de_bl (nomark _))))))))
theorem ok__law_members (T : Txt K mg) : FnOk P w K mg base (L2.CX P w) 1 T.a__law_members T.fd__law_members ["value"] (spD mg K [false] d__law_members) :=
  fn_ok (k := 0) (N := N__law_members) (ps := ["value"]) (m := [false]) (fb := b__law_members) T.F__law_members sc__law_members rfl (by decide) (by decide) <| fun cdv A outer s H E hr => by
    have tk := takes_of (X := cxOf (L2.CX P w) P w K mg base N__law_members "_law_members" (defScope s__law_members) T.a__law_members cdv A outer s H E) rfl rfl rfl rfl
    have po : PassesOwn (model P w) (A.deeper (envOfC "_law_members" (defScope s__law_members) s.heap.objs.size T.a__law_members cdv)) (envOfC "_law_members" (defScope s__law_members) s.heap.objs.size T.a__law_members cdv) (cxOf (L2.CX P w) P w K mg base N__law_members "_law_members" (defScope s__law_members) T.a__law_members cdv A outer s H E).xe := passes_of rfl
    have hu0 := hr.units0
    have hu1 := hu_of hr
    have hu64 := hr.units
    have hu65 : (A.deeper (envOfC "_law_members" (defScope s__law_members) s.heap.objs.size T.a__law_members cdv)).units + 65 < cLine := by have := hr.un; omega
    have sc := sc__law_members
    exact (db_cons (ds_if (DW.dt (dw_or (dt_tru (de_isi (t := .list) rfl T.n_isinstance (by decide +kernel) rfl T.n_list (by decide +kernel) (de_name (pv 0)))) (dw_or (dt_tru (de_isi (t := .tuple) rfl T.n_isinstance (by decide +kernel) rfl T.n_tuple (by decide +kernel) (de_name (pv 0)))) (dw_or1 (dt_tru (de_isi (t := .dict) rfl T.n_isinstance (by decide +kernel) rfl T.n_dict (by decide +kernel) (de_name (pv 0))))))))
  (db_one (ds_ret (de_quiet (de_lcN rfl sc.nd (pv 0) (blkOk_by (own := [("row", 1)]) (N := N__law_members) (sc := defScope s__law_members) (by decide +kernel)) (fun _ _ _ _ _ => (dg_one (pg_name (i := 1) sc.nd rfl (.inl rfl)))) (fun _ _ _ _ _ => dif_nil) (fun _ _ _ _ _ => (de_name (pv 1))) (by decide) (by rfl)))))
  db_nil)
  (db_one (ds_ret (de_lst da_nil))))
theorem ok_is_integer (T : Txt K mg) : FnOk P w K mg base (L2.CX P w) 1 T.a_is_integer T.fd_is_integer ["value"] (spD mg K [false] d_is_integer) :=
  fn_ok (k := 0) (N := N_is_integer) (ps := ["value"]) (m := [false]) (fb := b_is_integer) T.F_is_integer sc_is_integer rfl (by decide) (by decide) <| fun cdv A outer s H E hr => by
    have tk := takes_of (X := cxOf (L2.CX P w) P w K mg base N_is_integer "is_integer" (defScope s_is_integer) T.a_is_integer cdv A outer s H E) rfl rfl rfl rfl
    have po : PassesOwn (model P w) (A.deeper (envOfC "is_integer" (defScope s_is_integer) s.heap.objs.size T.a_is_integer cdv)) (envOfC "is_integer" (defScope s_is_integer) s.heap.objs.size T.a_is_integer cdv) (cxOf (L2.CX P w) P w K mg base N_is_integer "is_integer" (defScope s_is_integer) T.a_is_integer cdv A outer s H E).xe := passes_of rfl
    have hu0 := hr.units0
    have hu1 := hu_of hr
    have hu64 := hr.units
    have hu65 : (A.deeper (envOfC "is_integer" (defScope s_is_integer) s.heap.objs.size T.a_is_integer cdv)).units + 65 < cLine := by have := hr.un; omega
    have sc := sc_is_integer
    exact (db_one (ds_ret (de_and (de_isi (t := .int) rfl T.n_isinstance (by decide +kernel) rfl T.n_int (by decide +kernel) (de_name (pv 0))) (de_one (de_notE (de_isi (t := .bool) rfl T.n_isinstance (by decide +kernel) rfl T.n_bool (by decide +kernel) (de_name (pv 0))))))))
theorem ok_is_pair (T : Txt K mg) : FnOk P w K mg base (L2.CX P w) 2 T.a_is_pair T.fd_is_pair ["value", "count"] (spD mg K [false, false] d_is_pair) :=
  fn_ok (k := 1) (N := N_is_pair) (ps := ["value", "count"]) (m := [false, false]) (fb := b_is_pair) T.F_is_pair sc_is_pair rfl (by decide) (by decide) <| fun cdv A outer s H E hr => by
    have tk := takes_of (X := cxOf (L2.CX P w) P w K mg base N_is_pair "is_pair" (defScope s_is_pair) T.a_is_pair cdv A outer s H E) rfl rfl rfl rfl
    have po : PassesOwn (model P w) (A.deeper (envOfC "is_pair" (defScope s_is_pair) s.heap.objs.size T.a_is_pair cdv)) (envOfC "is_pair" (defScope s_is_pair) s.heap.objs.size T.a_is_pair cdv) (cxOf (L2.CX P w) P w K mg base N_is_pair "is_pair" (defScope s_is_pair) T.a_is_pair cdv A outer s H E).xe := passes_of rfl
    have hu0 := hr.units0
    have hu1 := hu_of hr
    have hu64 := hr.units
    have hu65 : (A.deeper (envOfC "is_pair" (defScope s_is_pair) s.heap.objs.size T.a_is_pair cdv)).units + 65 < cLine := by have := hr.un; omega
    have sc := sc_is_pair
    exact (db_cons (ds_if (DW.dt (dw_or (dt_not (dt_tru (de_isi (t := .tuple) rfl T.n_isinstance (by decide +kernel) rfl T.n_tuple (by decide +kernel) (de_name (pv 0))))) (dw_or (dt_cmp (opd_ne hu64) (de_callB cd_len (by rfl) T.n_len (by decide +kernel) (da_cons (de_name (pv 0)) da_nil)) de_int (nomark _)) (dw_or (dt_not (dt_tru (de_call (ok_is_integer T) (hr.mono (by first | decide | omega)) tk (by rfl) T.m_is_integer T.F_is_integer.kp T.b_is_integer (da_cons (de_ix hu1 (de_name (pv 0)) de_int) da_nil)))) (dw_or1 (dt_not (dt_tru (de_call (ok_is_integer T) (hr.mono (by first | decide | omega)) tk (by rfl) T.m_is_integer T.F_is_integer.kp T.b_is_integer (da_cons (de_ix hu1 (de_name (pv 0)) de_int) da_nil)))))))))
  (db_one (ds_ret de_bl))
  db_nil)
  (db_one (ds_ret (de_ch de_int (ch_link (opd_leA hu64) (de_ix hu1 (de_name (pv 0)) de_int) (ch_link (opd_ltA hu0 hu64) (de_ix hu1 (de_name (pv 0)) de_int) (ch_last (opd_ltA hu0 hu64) (de_name (pv 1)))))))))
theorem ok_is_neighborhood (T : Txt K mg) : FnOk P w K mg base (L2.CX P w) 3 T.a_is_neighborhood T.fd_is_neighborhood ["value"] (spD mg K [false] d_is_neighborhood) :=
  fn_ok (k := 2) (N := N_is_neighborhood) (ps := ["value"]) (m := [false]) (fb := b_is_neighborhood) T.F_is_neighborhood sc_is_neighborhood rfl (by decide) (by decide) <| fun cdv A outer s H E hr => by
    have tk := takes_of (X := cxOf (L2.CX P w) P w K mg base N_is_neighborhood "is_neighborhood" (defScope s_is_neighborhood) T.a_is_neighborhood cdv A outer s H E) rfl rfl rfl rfl
    have po : PassesOwn (model P w) (A.deeper (envOfC "is_neighborhood" (defScope s_is_neighborhood) s.heap.objs.size T.a_is_neighborhood cdv)) (envOfC "is_neighborhood" (defScope s_is_neighborhood) s.heap.objs.size T.a_is_neighborhood cdv) (cxOf (L2.CX P w) P w K mg base N_is_neighborhood "is_neighborhood" (defScope s_is_neighborhood) T.a_is_neighborhood cdv A outer s H E).xe := passes_of rfl
    have hu0 := hr.units0
    have hu1 := hu_of hr
    have hu64 := hr.units
    have hu65 : (A.deeper (envOfC "is_neighborhood" (defScope s_is_neighborhood) s.heap.objs.size T.a_is_neighborhood cdv)).units + 65 < cLine := by have := hr.un; omega
    have sc := sc_is_neighborhood
    exact (db_cons (ds_if (DW.dt (dw_or (dt_not (dt_tru (de_isi (t := .tuple) rfl T.n_isinstance (by decide +kernel) rfl T.n_tuple (by decide +kernel) (de_name (pv 0))))) (dw_or (dt_cmp (opd_ne hu64) (de_callB cd_len (by rfl) T.n_len (by decide +kernel) (da_cons (de_name (pv 0)) da_nil)) de_int (nomark _)) (dw_or1 (dt_not (dt_tru (de_call (ok_is_integer T) (hr.mono (by first | decide | omega)) tk (by rfl) T.m_is_integer T.F_is_integer.kp T.b_is_integer (da_cons (de_ix hu1 (de_name (pv 0)) de_int) da_nil))))))))
  (db_one (ds_ret de_bl))
  db_nil)
  (db_cons (ds_unp (dg_many rfl (dgs_cons (pg_name (i := 1) sc.nd rfl (.inr rfl)) (dgs_cons (pg_name (i := 2) sc.nd rfl (.inl rfl)) dgs_nil))) (de_name (pv 0)))
  (db_cons (ds_if (DW.dt (dw_or (dt_not (dt_ch de_int (ch_link (opd_leA hu64) (de_name (pv 1)) (ch_last (opd_leA hu64) (de_c (pe_glob (v := .int 24) rfl T.c_MOST_USERS.2 ⟨_, rfl⟩) fun _ => .int 24))))) (dw_or1 (dt_not (dt_tru (de_isi (t := .tuple) rfl T.n_isinstance (by decide +kernel) rfl T.n_tuple (by decide +kernel) (de_name (pv 2))))))))
  (db_one (ds_ret de_bl))
  db_nil)
  (db_cons (ds_if (dt_cmp (opd_ne hu64) (de_lc rfl sc.nd (di_seq (de_name (pv 2))) (blkOk_by (own := [("pair", 3)]) (N := N_is_neighborhood) (sc := defScope s_is_neighborhood) (by decide +kernel)) (fun _ _ _ _ _ => (dg_one (pg_name (i := 3) sc.nd rfl (.inl rfl)))) (fun _ _ _ _ _ => (dif_one (dt_not (dt_tru (de_call (ok_is_pair T) (hr.mono (by first | decide | omega)) takes0 (by rfl) T.m_is_pair T.F_is_pair.kp T.b_is_pair (da_cons (de_name (pv 3)) (da_cons (de_name (pv 1)) da_nil))))))) (fun _ _ _ _ _ => (de_name (pv 3))) (by decide) (by rfl)) (de_lst da_nil) (nomark _))
  (db_one (ds_ret de_bl))
  db_nil)
  (db_one (ds_ret (de_cmp (opd_eq hu64) (de_lc rfl sc.nd (di_zip (by rfl) T.n_zip (de_name (pv 2)) (de_slice (de_name (pv 2)) (dp_some de_int) dp_no)) (blkOk_by (own := [("pair", 3), ("other", 4)]) (N := N_is_neighborhood) (sc := defScope s_is_neighborhood) (by decide +kernel)) (fun _ _ _ _ _ => (dg_many rfl (dgs_cons (pg_name (i := 3) sc.nd rfl (.inl rfl)) (dgs_cons (pg_name (i := 4) sc.nd rfl (.inl rfl)) dgs_nil)))) (fun _ _ _ _ _ => (dif_one (dt_cmp (opd_geA hu64) (de_name (pv 3)) (de_name (pv 4)) (nomark _)))) (fun _ _ _ _ _ => (de_name (pv 3))) (by decide) (by rfl)) (de_lst da_nil) (nomark _))))))))
theorem ok__law_is_integer (T : Txt K mg) : FnOk P w K mg base (L2.CX P w) 1 T.a__law_is_integer T.fd__law_is_integer ["actual"] (spD mg K [false] d__law_is_integer) :=
  fn_ok (k := 0) (N := N__law_is_integer) (ps := ["actual"]) (m := [false]) (fb := b__law_is_integer) T.F__law_is_integer sc__law_is_integer rfl (by decide) (by decide) <| fun cdv A outer s H E hr => by
    have tk := takes_of (X := cxOf (L2.CX P w) P w K mg base N__law_is_integer "_law_is_integer" (defScope s__law_is_integer) T.a__law_is_integer cdv A outer s H E) rfl rfl rfl rfl
    have po : PassesOwn (model P w) (A.deeper (envOfC "_law_is_integer" (defScope s__law_is_integer) s.heap.objs.size T.a__law_is_integer cdv)) (envOfC "_law_is_integer" (defScope s__law_is_integer) s.heap.objs.size T.a__law_is_integer cdv) (cxOf (L2.CX P w) P w K mg base N__law_is_integer "_law_is_integer" (defScope s__law_is_integer) T.a__law_is_integer cdv A outer s H E).xe := passes_of rfl
    have hu0 := hr.units0
    have hu1 := hu_of hr
    have hu64 := hr.units
    have hu65 : (A.deeper (envOfC "_law_is_integer" (defScope s__law_is_integer) s.heap.objs.size T.a__law_is_integer cdv)).units + 65 < cLine := by have := hr.un; omega
    have sc := sc__law_is_integer
    exact (db_one (ds_ret (de_and (de_isi (t := .int) rfl T.n_isinstance (by decide +kernel) rfl T.n_int (by decide +kernel) (de_name (pv 0))) (de_one (de_notE (de_isi (t := .bool) rfl T.n_isinstance (by decide +kernel) rfl T.n_bool (by decide +kernel) (de_name (pv 0))))))))
theorem ok__law_odd (T : Txt K mg) : FnOk P w K mg base (L2.CX P w) 1 T.a__law_odd T.fd__law_odd ["number"] (spD mg K [false] d__law_odd) :=
  fn_ok (k := 0) (N := N__law_odd) (ps := ["number"]) (m := [false]) (fb := b__law_odd) T.F__law_odd sc__law_odd rfl (by decide) (by decide) <| fun cdv A outer s H E hr => by
    have tk := takes_of (X := cxOf (L2.CX P w) P w K mg base N__law_odd "_law_odd" (defScope s__law_odd) T.a__law_odd cdv A outer s H E) rfl rfl rfl rfl
    have po : PassesOwn (model P w) (A.deeper (envOfC "_law_odd" (defScope s__law_odd) s.heap.objs.size T.a__law_odd cdv)) (envOfC "_law_odd" (defScope s__law_odd) s.heap.objs.size T.a__law_odd cdv) (cxOf (L2.CX P w) P w K mg base N__law_odd "_law_odd" (defScope s__law_odd) T.a__law_odd cdv A outer s H E).xe := passes_of rfl
    have hu0 := hr.units0
    have hu1 := hu_of hr
    have hu64 := hr.units
    have hu65 : (A.deeper (envOfC "_law_odd" (defScope s__law_odd) s.heap.objs.size T.a__law_odd cdv)).units + 65 < cLine := by have := hr.un; omega
    have sc := sc__law_odd
    exact (db_cons (ds_set (i := 1) sc.nd rfl (.inl rfl) (de_lst (da_cons de_non (da_cons de_bl (da_cons de_int (da_cons (de_un und_neg de_int) (da_cons de_str (da_cons de_str (da_cons (de_tup da_nil) (da_cons (de_lst da_nil) (da_cons de_newK (da_cons (de_tup (da_cons de_int da_nil)) (da_cons (de_tup (da_cons de_str (da_cons de_int da_nil))) (da_cons (de_tup (da_cons de_str (da_cons de_int (da_cons de_int da_nil)))) (da_cons (de_tup (da_cons de_str (da_cons de_int (da_cons (de_tup da_nil) da_nil)))) (da_cons (de_lst (da_cons de_int (da_cons de_int da_nil))) (da_cons (de_tup (da_cons de_str da_nil)) da_nil)))))))))))))))))
  (db_one (ds_ret (de_ix hu1 (de_name (pv 1)) (de_bin opd_mod (de_callTy cd_int (by rfl) T.n_int (by decide +kernel) (da_cons (de_name (pv 0)) da_nil)) de_int)))))
theorem ok__law_bend (T : Txt K mg) : ∀ n : Nat, FnOk P w K mg base (L2.CX P w) (2 + n) T.a__law_bend T.fd__law_bend ["value", "numbers", "at"] (spD mg K [false, false, false] (d__law_bend n))
  | 0 => fn_bad rfl
  | n + 1 => by
    have ih : FnOk P w K mg base (L2.CX P w) (2 + n) T.a__law_bend T.fd__law_bend ["value", "numbers", "at"] (spD mg K [false, false, false] (d__law_bend n)) := ok__law_bend T n
    refine fn_ok (k := 2 + n) (N := N__law_bend) (ps := ["value", "numbers", "at"]) (m := [false, false, false]) (fb := b__law_bend (d__law_bend n)) T.F__law_bend sc__law_bend rfl (by decide) (by decide) ?_
    exact fun cdv A outer s H E hr => by
      have tk := takes_of (X := cxOf (L2.CX P w) P w K mg base N__law_bend "_law_bend" (defScope s__law_bend) T.a__law_bend cdv A outer s H E) rfl rfl rfl rfl
      have po : PassesOwn (model P w) (A.deeper (envOfC "_law_bend" (defScope s__law_bend) s.heap.objs.size T.a__law_bend cdv)) (envOfC "_law_bend" (defScope s__law_bend) s.heap.objs.size T.a__law_bend cdv) (cxOf (L2.CX P w) P w K mg base N__law_bend "_law_bend" (defScope s__law_bend) T.a__law_bend cdv A outer s H E).xe := passes_of rfl
      have hu0 := hr.units0
      have hu1 := hu_of hr
      have hu64 := hr.units
      have hu65 : (A.deeper (envOfC "_law_bend" (defScope s__law_bend) s.heap.objs.size T.a__law_bend cdv)).units + 65 < cLine := by have := hr.un; omega
      have sc := sc__law_bend
      exact (db_cons (ds_set (i := 3) sc.nd rfl (.inl rfl) (de_callTy cd_int (by rfl) T.n_int (by decide +kernel) (da_cons (de_ix hu1 (de_name (pv 1)) (de_bin opd_mod (de_callTy cd_int (by rfl) T.n_int (by decide +kernel) (da_cons (de_name (pv 2)) da_nil)) (de_callB cd_len (by rfl) T.n_len (by decide +kernel) (da_cons (de_name (pv 1)) da_nil)))) da_nil)))
  (db_cons (ds_if (DW.dt (dw_and (dt_tru (de_isi (t := .tuple) rfl T.n_isinstance (by decide +kernel) rfl T.n_tuple (by decide +kernel) (de_name (pv 0)))) (dw_and (dt_cmp (opd_gtA hu64) (de_callB cd_len (by rfl) T.n_len (by decide +kernel) (da_cons (de_name (pv 0)) da_nil)) de_int (nomark _)) (dw_and1 (dt_cmp (opd_gtA hu64) (de_bin opd_mod (de_callTy cd_int (by rfl) T.n_int (by decide +kernel) (da_cons (de_name (pv 3)) da_nil)) de_int) de_int (nomark _))))))
  (db_cons (ds_set (i := 4) sc.nd rfl (.inl rfl) (de_bin opd_mod (de_bin opd_fdiv (de_name (pv 3)) de_int) (de_callB cd_len (by rfl) T.n_len (by decide +kernel) (da_cons (de_name (pv 0)) da_nil))))
  (db_one (ds_ret (de_bin opd_add (de_bin opd_add (de_slice (de_name (pv 0)) dp_no (dp_some (de_name (pv 4)))) (de_tup (da_cons (de_call (ih) (hr.mono (by omega)) tk (by rfl) T.m__law_bend T.F__law_bend.kp T.b__law_bend (da_cons (de_ix hu1 (de_name (pv 0)) (de_name (pv 4))) (da_cons (de_name (pv 1)) (da_cons (de_bin opd_add (de_name (pv 2)) de_int) da_nil)))) da_nil))) (de_slice (de_name (pv 0)) (dp_some (de_bin opd_add (de_name (pv 4)) de_int)) dp_no)))))
  db_nil)
  (db_cons (ds_set (i := 5) sc.nd rfl (.inl rfl) (de_bin opd_mod (de_bin opd_fdiv (de_name (pv 3)) de_int) de_int))
  (db_cons (ds_if (dt_cmp (opd_eq hu64) (de_name (pv 5)) de_int (nomark _))
  (db_one (ds_ret (de_call (ok__law_odd T) (hr.mono (by first | decide | omega)) tk (by rfl) T.m__law_odd T.F__law_odd.kp T.b__law_odd (da_cons (de_bin opd_fdiv (de_name (pv 3)) de_int) da_nil))))
  db_nil)
  (db_cons (ds_if (dt_tru (de_call (ok__law_is_integer T) (hr.mono (by first | decide | omega)) tk (by rfl) T.m__law_is_integer T.F__law_is_integer.kp T.b__law_is_integer (da_cons (de_name (pv 0)) da_nil)))
  (db_one (ds_ret (de_bin opd_add (de_name (pv 0)) (de_ix hu1 (de_lst (da_cons de_int (da_cons (de_un und_neg de_int) (da_cons de_int da_nil)))) (de_bin opd_mod (de_bin opd_fdiv (de_name (pv 3)) de_int) de_int)))))
  db_nil)
  (db_cons (ds_if (DW.dt (dw_or (dt_not (dt_tru (de_isi (t := .tuple) rfl T.n_isinstance (by decide +kernel) rfl T.n_tuple (by decide +kernel) (de_name (pv 0))))) (dw_or1 (dt_cmp (opd_eq hu64) (de_callB cd_len (by rfl) T.n_len (by decide +kernel) (da_cons (de_name (pv 0)) da_nil)) de_int (nomark _)))))
  (db_one (ds_ret (de_ix hu1 (de_lst (da_cons (de_call (ok__law_odd T) (hr.mono (by first | decide | omega)) tk (by rfl) T.m__law_odd T.F__law_odd.kp T.b__law_odd (da_cons (de_bin opd_fdiv (de_name (pv 3)) de_int) da_nil)) (da_cons (de_tup (da_cons (de_name (pv 0)) da_nil)) da_nil))) (de_bin opd_mod (de_callTy cd_int (by rfl) T.n_int (by decide +kernel) (da_cons (de_name (pv 5)) da_nil)) de_int))))
  db_nil)
  (db_cons (ds_set (i := 4) sc.nd rfl (.inl rfl) (de_bin opd_mod (de_bin opd_fdiv (de_name (pv 3)) de_int) (de_callB cd_len (by rfl) T.n_len (by decide +kernel) (da_cons (de_name (pv 0)) da_nil))))
  (db_cons (ds_if (dt_cmp (opd_eq hu64) (de_name (pv 5)) de_int (nomark _))
  (db_one (ds_ret (de_bin opd_add (de_slice (de_name (pv 0)) dp_no (dp_some (de_name (pv 4)))) (de_slice (de_name (pv 0)) (dp_some (de_bin opd_add (de_name (pv 4)) de_int)) dp_no))))
  db_nil)
  (db_cons (ds_if (dt_cmp (opd_eq hu64) (de_name (pv 5)) de_int (nomark _))
  (db_one (ds_ret (de_bin opd_add (de_name (pv 0)) (de_slice (de_name (pv 0)) (dp_some (de_name (pv 4))) (dp_some (de_bin opd_add (de_name (pv 4)) de_int))))))
  db_nil)
  (db_cons (ds_if (dt_cmp (opd_eq hu64) (de_name (pv 5)) de_int (nomark _))
  (db_one (ds_ret (de_callTy cd_list (by rfl) T.n_list (by decide +kernel) (da_cons (de_name (pv 0)) da_nil))))
  db_nil)
  (db_one (ds_ret (de_rev (de_name (pv 0)))))))))))))))
theorem ok__law_thirds (T : Txt K mg) : FnOk P w K mg base (L2.CX P w) 1 T.a__law_thirds T.fd__law_thirds ["neighborhood", "i", "j"] (spD mg K [false, false, false] d__law_thirds) :=
  fn_ok (k := 0) (N := N__law_thirds) (ps := ["neighborhood", "i", "j"]) (m := [false, false, false]) (fb := b__law_thirds) T.F__law_thirds sc__law_thirds rfl (by decide) (by decide) <| fun cdv A outer s H E hr => by
    have tk := takes_of (X := cxOf (L2.CX P w) P w K mg base N__law_thirds "_law_thirds" (defScope s__law_thirds) T.a__law_thirds cdv A outer s H E) rfl rfl rfl rfl
    have po : PassesOwn (model P w) (A.deeper (envOfC "_law_thirds" (defScope s__law_thirds) s.heap.objs.size T.a__law_thirds cdv)) (envOfC "_law_thirds" (defScope s__law_thirds) s.heap.objs.size T.a__law_thirds cdv) (cxOf (L2.CX P w) P w K mg base N__law_thirds "_law_thirds" (defScope s__law_thirds) T.a__law_thirds cdv A outer s H E).xe := passes_of rfl
    have hu0 := hr.units0
    have hu1 := hu_of hr
    have hu64 := hr.units
    have hu65 : (A.deeper (envOfC "_law_thirds" (defScope s__law_thirds) s.heap.objs.size T.a__law_thirds cdv)).units + 65 < cLine := by have := hr.un; omega
    have sc := sc__law_thirds
    exact (db_cons (ds_set (i := 3) sc.nd rfl (.inl rfl) (de_lst da_nil))
  (db_cons (ds_for po rfl (di_rng1 (by rfl) T.n_range (de_ix hu1 (de_name (pv 0)) de_int)) (dg_one (pg_name (i := 4) sc.nd rfl (.inl rfl)))
  (db_cons (ds_set (i := 5) sc.nd rfl (.inl rfl) (de_cmp (opd_inA hu65) (de_tup (da_cons (de_callB (cd_min rfl) (by rfl) T.n_min (by decide +kernel) (da_cons (de_name (pv 1)) (da_cons (de_name (pv 4)) da_nil))) (da_cons (de_callB (cd_max rfl) (by rfl) T.n_max (by decide +kernel) (da_cons (de_name (pv 1)) (da_cons (de_name (pv 4)) da_nil))) da_nil))) (de_ix hu1 (de_name (pv 0)) de_int) (by rfl)))
  (db_one (ds_if (DW.dt (dw_and (dt_tru (de_name (pv 5))) (dw_and1 (dt_cmp (opd_inA hu65) (de_tup (da_cons (de_callB (cd_min rfl) (by rfl) T.n_min (by decide +kernel) (da_cons (de_name (pv 2)) (da_cons (de_name (pv 4)) da_nil))) (da_cons (de_callB (cd_max rfl) (by rfl) T.n_max (by decide +kernel) (da_cons (de_name (pv 2)) (da_cons (de_name (pv 4)) da_nil))) da_nil))) (de_ix hu1 (de_name (pv 0)) de_int) (by rfl)))))
  (db_one (ds_expr (de_mut PySem.F.slot_list_append PySem.F.type_list_append md_append (pv 3) (da_cons (de_name (pv 4)) da_nil))))
  db_nil))))
  (db_one (ds_ret (de_name (pv 3))))))
theorem ok__law_is_assignment (T : Txt K mg) : FnOk P w K mg base (L2.CX P w) 2 T.a__law_is_assignment T.fd__law_is_assignment ["separations", "channels", "value"] (spD mg K [false, false, false] d__law_is_assignment) :=
  fn_ok (k := 1) (N := N__law_is_assignment) (ps := ["separations", "channels", "value"]) (m := [false, false, false]) (fb := b__law_is_assignment) T.F__law_is_assignment sc__law_is_assignment rfl (by decide) (by decide) <| fun cdv A outer s H E hr => by
    have tk := takes_of (X := cxOf (L2.CX P w) P w K mg base N__law_is_assignment "_law_is_assignment" (defScope s__law_is_assignment) T.a__law_is_assignment cdv A outer s H E) rfl rfl rfl rfl
    have po : PassesOwn (model P w) (A.deeper (envOfC "_law_is_assignment" (defScope s__law_is_assignment) s.heap.objs.size T.a__law_is_assignment cdv)) (envOfC "_law_is_assignment" (defScope s__law_is_assignment) s.heap.objs.size T.a__law_is_assignment cdv) (cxOf (L2.CX P w) P w K mg base N__law_is_assignment "_law_is_assignment" (defScope s__law_is_assignment) T.a__law_is_assignment cdv A outer s H E).xe := passes_of rfl
    have hu0 := hr.units0
    have hu1 := hu_of hr
    have hu64 := hr.units
    have hu65 : (A.deeper (envOfC "_law_is_assignment" (defScope s__law_is_assignment) s.heap.objs.size T.a__law_is_assignment cdv)).units + 65 < cLine := by have := hr.un; omega
    have sc := sc__law_is_assignment
    exact (db_cons (ds_if (DW.dt (dw_or (dt_not (dt_tru (de_isi (t := .tuple) rfl T.n_isinstance (by decide +kernel) rfl T.n_tuple (by decide +kernel) (de_name (pv 2))))) (dw_or1 (dt_cmp (opd_ne hu64) (de_callB cd_len (by rfl) T.n_len (by decide +kernel) (da_cons (de_name (pv 2)) da_nil)) (de_ix hu1 (de_name (pv 0)) de_int) (nomark _)))))
  (db_one (ds_ret de_bl))
  db_nil)
  (db_cons (ds_for po rfl (di_seq (de_name (pv 2))) (dg_one (pg_name (i := 3) sc.nd rfl (.inl rfl)))
  (db_one (ds_if (DW.dt (dw_or (dt_not (dt_tru (de_call (ok__law_is_integer T) (hr.mono (by first | decide | omega)) tk (by rfl) T.m__law_is_integer T.F__law_is_integer.kp T.b__law_is_integer (da_cons (de_name (pv 3)) da_nil)))) (dw_or1 (dt_not (dt_ch de_int (ch_link (opd_leA hu64) (de_name (pv 3)) (ch_last (opd_ltA hu0 hu64) (de_name (pv 1)))))))))
  (db_one (ds_ret de_bl))
  db_nil)))
  (db_cons (ds_for po rfl (di_seq (de_ix hu1 (de_name (pv 0)) de_int)) (dg_many rfl (dgs_cons (pg_name (i := 4) sc.nd rfl (.inl rfl)) (dgs_cons (pg_name (i := 5) sc.nd rfl (.inl rfl)) (dgs_cons (pg_name (i := 6) sc.nd rfl (.inl rfl)) dgs_nil))))
  (db_one (ds_if (dt_cmp (opd_ltA hu0 hu64) (de_callB cd_abs (by rfl) T.n_abs (by decide +kernel) (da_cons (de_bin opd_sub (de_ix hu1 (de_name (pv 2)) (de_name (pv 4))) (de_ix hu1 (de_name (pv 2)) (de_name (pv 5)))) da_nil)) (de_name (pv 6)) (nomark _))
  (db_one (ds_ret de_bl))
  db_nil)))
  (db_one (ds_ret de_bl)))))
theorem ok_collisions (T : Txt K mg) : FnOk P w K mg base (L2.CX P w) 1 T.a_collisions T.fd_collisions ["neighborhood", "codes"] (spD mg K [false, false] d_collisions) :=
  fn_ok (k := 0) (N := N_collisions) (ps := ["neighborhood", "codes"]) (m := [false, false]) (fb := b_collisions) T.F_collisions sc_collisions rfl (by decide) (by decide) <| fun cdv A outer s H E hr => by
    have tk := takes_of (X := cxOf (L2.CX P w) P w K mg base N_collisions "collisions" (defScope s_collisions) T.a_collisions cdv A outer s H E) rfl rfl rfl rfl
    have po : PassesOwn (model P w) (A.deeper (envOfC "collisions" (defScope s_collisions) s.heap.objs.size T.a_collisions cdv)) (envOfC "collisions" (defScope s_collisions) s.heap.objs.size T.a_collisions cdv) (cxOf (L2.CX P w) P w K mg base N_collisions "collisions" (defScope s_collisions) T.a_collisions cdv A outer s H E).xe := passes_of rfl
    have hu0 := hr.units0
    have hu1 := hu_of hr
    have hu64 := hr.units
    have hu65 : (A.deeper (envOfC "collisions" (defScope s_collisions) s.heap.objs.size T.a_collisions cdv)).units + 65 < cLine := by have := hr.un; omega
    have sc := sc_collisions
    exact (db_one (ds_ret (de_lc rfl sc.nd (di_seq (de_ix hu1 (de_name (pv 0)) de_int)) (blkOk_by (own := [("i", 2), ("j", 3)]) (N := N_collisions) (sc := defScope s_collisions) (by decide +kernel)) (fun _ _ _ _ _ => (dg_many rfl (dgs_cons (pg_name (i := 2) sc.nd rfl (.inl rfl)) (dgs_cons (pg_name (i := 3) sc.nd rfl (.inl rfl)) dgs_nil)))) (fun _ _ _ _ _ => (dif_one (dt_cmp (opd_eq hu64) (de_ix hu1 (de_name (pv 1)) (de_name (pv 2))) (de_ix hu1 (de_name (pv 1)) (de_name (pv 3))) (nomark _)))) (fun _ _ _ _ _ => (de_tup (da_cons (de_name (pv 2)) (da_cons (de_name (pv 3)) da_nil)))) (by decide) (by rfl))))
theorem ok_confusions (T : Txt K mg) : FnOk P w K mg base (L2.CX P w) 3 T.a_confusions T.fd_confusions ["neighborhood", "codes"] (spD mg K [false, false] d_confusions) :=
  fn_ok (k := 2) (N := N_confusions) (ps := ["neighborhood", "codes"]) (m := [false, false]) (fb := b_confusions) T.F_confusions sc_confusions rfl (by decide) (by decide) <| fun cdv A outer s H E hr => by
    have tk := takes_of (X := cxOf (L2.CX P w) P w K mg base N_confusions "confusions" (defScope s_confusions) T.a_confusions cdv A outer s H E) rfl rfl rfl rfl
    have po : PassesOwn (model P w) (A.deeper (envOfC "confusions" (defScope s_confusions) s.heap.objs.size T.a_confusions cdv)) (envOfC "confusions" (defScope s_confusions) s.heap.objs.size T.a_confusions cdv) (cxOf (L2.CX P w) P w K mg base N_confusions "confusions" (defScope s_confusions) T.a_confusions cdv A outer s H E).xe := passes_of rfl
    have hu0 := hr.units0
    have hu1 := hu_of hr
    have hu64 := hr.units
    have hu65 : (A.deeper (envOfC "confusions" (defScope s_confusions) s.heap.objs.size T.a_confusions cdv)).units + 65 < cLine := by have := hr.un; omega
    have sc := sc_confusions
    exact (db_cons (ds_set (i := 2) sc.nd rfl (.inl rfl) (de_lst da_nil))
  (db_cons (ds_for po rfl (di_rng1 (by rfl) T.n_range (de_ix hu1 (de_name (pv 0)) de_int)) (dg_one (pg_name (i := 3) sc.nd rfl (.inr rfl)))
  (db_one (ds_for po rfl (di_rng2 (by rfl) T.n_range (de_bin opd_add (de_name (pv 3)) de_int) (de_ix hu1 (de_name (pv 0)) de_int)) (dg_one (pg_name (i := 4) sc.nd rfl (.inr rfl)))
  (db_one (ds_if (dt_cmp (opd_eq hu64) (de_ix hu1 (de_name (pv 1)) (de_name (pv 3))) (de_ix hu1 (de_name (pv 1)) (de_name (pv 4))) (nomark _))
  (db_one (ds_expr (de_mut PySem.F.slot_list_extend PySem.F.type_list_extend md_extend (pv 2) (da_cons (de_lc rfl sc.nd (di_seq (de_call (ok_thirds T) (hr.mono (by first | decide | omega)) tk (by rfl) T.m_thirds T.F_thirds.kp T.b_thirds (da_cons (de_name (pv 0)) (da_cons (de_name (pv 3)) (da_cons (de_name (pv 4)) da_nil))))) (blkOk_by (own := [("k", 5)]) (N := N_confusions) (sc := defScope s_confusions) (by decide +kernel)) (fun _ _ _ _ _ => (dg_one (pg_name (i := 5) sc.nd rfl (.inl rfl)))) (fun _ _ _ _ _ => dif_nil) (fun _ _ _ _ _ => (de_tup (da_cons (de_name (pv 3)) (da_cons (de_name (pv 4)) (da_cons (de_name (pv 5)) da_nil))))) (by decide) (by rfl)) da_nil))))
  db_nil)))))
  (db_one (ds_ret (de_name (pv 2))))))
theorem ok__law_is_neighborhood (T : Txt K mg) : FnOk P w K mg base (L2.CX P w) 2 T.a__law_is_neighborhood T.fd__law_is_neighborhood ["value"] (spD mg K [false] d__law_is_neighborhood) :=
  fn_ok (k := 1) (N := N__law_is_neighborhood) (ps := ["value"]) (m := [false]) (fb := b__law_is_neighborhood) T.F__law_is_neighborhood sc__law_is_neighborhood rfl (by decide) (by decide) <| fun cdv A outer s H E hr => by
    have tk := takes_of (X := cxOf (L2.CX P w) P w K mg base N__law_is_neighborhood "_law_is_neighborhood" (defScope s__law_is_neighborhood) T.a__law_is_neighborhood cdv A outer s H E) rfl rfl rfl rfl
    have po : PassesOwn (model P w) (A.deeper (envOfC "_law_is_neighborhood" (defScope s__law_is_neighborhood) s.heap.objs.size T.a__law_is_neighborhood cdv)) (envOfC "_law_is_neighborhood" (defScope s__law_is_neighborhood) s.heap.objs.size T.a__law_is_neighborhood cdv) (cxOf (L2.CX P w) P w K mg base N__law_is_neighborhood "_law_is_neighborhood" (defScope s__law_is_neighborhood) T.a__law_is_neighborhood cdv A outer s H E).xe := passes_of rfl
    have hu0 := hr.units0
    have hu1 := hu_of hr
    have hu64 := hr.units
    have hu65 : (A.deeper (envOfC "_law_is_neighborhood" (defScope s__law_is_neighborhood) s.heap.objs.size T.a__law_is_neighborhood cdv)).units + 65 < cLine := by have := hr.un; omega
    have sc := sc__law_is_neighborhood
    exact (db_cons (ds_if (DW.dt (dw_or (dt_not (dt_tru (de_isi (t := .tuple) rfl T.n_isinstance (by decide +kernel) rfl T.n_tuple (by decide +kernel) (de_name (pv 0))))) (dw_or (dt_cmp (opd_ne hu64) (de_callB cd_len (by rfl) T.n_len (by decide +kernel) (da_cons (de_name (pv 0)) da_nil)) de_int (nomark _)) (dw_or (dt_not (dt_tru (de_call (ok__law_is_integer T) (hr.mono (by first | decide | omega)) tk (by rfl) T.m__law_is_integer T.F__law_is_integer.kp T.b__law_is_integer (da_cons (de_ix hu1 (de_name (pv 0)) de_int) da_nil)))) (dw_or1 (dt_not (dt_ch de_int (ch_link (opd_leA hu64) (de_ix hu1 (de_name (pv 0)) de_int) (ch_last (opd_leA hu64) de_int)))))))))
  (db_one (ds_ret de_bl))
  db_nil)
  (db_cons (ds_if (dt_not (dt_tru (de_isi (t := .tuple) rfl T.n_isinstance (by decide +kernel) rfl T.n_tuple (by decide +kernel) (de_ix hu1 (de_name (pv 0)) de_int))))
  (db_one (ds_ret de_bl))
  db_nil)
  (db_cons (ds_set (i := 1) sc.nd rfl (.inl rfl) (de_tup (da_cons (de_un und_neg de_int) (da_cons (de_un und_neg de_int) da_nil))))
  (db_cons (ds_for po rfl (di_seq (de_ix hu1 (de_name (pv 0)) de_int)) (dg_one (pg_name (i := 2) sc.nd rfl (.inl rfl)))
  (db_cons (ds_if (DW.dt (dw_or (dt_not (dt_tru (de_isi (t := .tuple) rfl T.n_isinstance (by decide +kernel) rfl T.n_tuple (by decide +kernel) (de_name (pv 2))))) (dw_or (dt_cmp (opd_ne hu64) (de_callB cd_len (by rfl) T.n_len (by decide +kernel) (da_cons (de_name (pv 2)) da_nil)) de_int (nomark _)) (dw_or (dt_not (dt_tru (de_call (ok__law_is_integer T) (hr.mono (by first | decide | omega)) tk (by rfl) T.m__law_is_integer T.F__law_is_integer.kp T.b__law_is_integer (da_cons (de_ix hu1 (de_name (pv 2)) de_int) da_nil)))) (dw_or1 (dt_not (dt_tru (de_call (ok__law_is_integer T) (hr.mono (by first | decide | omega)) tk (by rfl) T.m__law_is_integer T.F__law_is_integer.kp T.b__law_is_integer (da_cons (de_ix hu1 (de_name (pv 2)) de_int) da_nil)))))))))
  (db_one (ds_ret de_bl))
  db_nil)
  (db_cons (ds_if (DW.dt (dw_or (dt_not (dt_ch de_int (ch_link (opd_leA hu64) (de_ix hu1 (de_name (pv 2)) de_int) (ch_link (opd_ltA hu0 hu64) (de_ix hu1 (de_name (pv 2)) de_int) (ch_last (opd_ltA hu0 hu64) (de_ix hu1 (de_name (pv 0)) de_int)))))) (dw_or1 (dt_not (dt_cmp (opd_ltA hu0 hu64) (de_name (pv 1)) (de_name (pv 2)) (nomark _))))))
  (db_one (ds_ret de_bl))
  db_nil)
  (db_one (ds_set (i := 1) sc.nd rfl (.inl rfl) (de_name (pv 2)))))))
  (db_one (ds_ret de_bl))))))
theorem ok_law (T : Txt K mg) : FnOk P w K mg base (L2.CX P w) 43 T.a_law T.fd_law ["script"] (spD mg K [false] d_law) :=
  fn_ok (k := 42) (N := N_law) (ps := ["script"]) (m := [false]) (fb := b_law) T.F_law sc_law rfl (by decide) (by decide) <| fun cdv A outer s H E hr => by
    have tk := takes_of (X := cxOf (L2.CX P w) P w K mg base N_law "law" (defScope s_law) T.a_law cdv A outer s H E) rfl rfl rfl rfl
    have po : PassesOwn (model P w) (A.deeper (envOfC "law" (defScope s_law) s.heap.objs.size T.a_law cdv)) (envOfC "law" (defScope s_law) s.heap.objs.size T.a_law cdv) (cxOf (L2.CX P w) P w K mg base N_law "law" (defScope s_law) T.a_law cdv A outer s H E).xe := passes_of rfl
    have hu0 := hr.units0
    have hu1 := hu_of hr
    have hu64 := hr.units
    have hu65 : (A.deeper (envOfC "law" (defScope s_law) s.heap.objs.size T.a_law cdv)).units + 65 < cLine := by have := hr.un; omega
    have sc := sc_law
    exact (db_cons (ds_set (i := 1) sc.nd rfl (.inr rfl) (de_bin opd_add (de_call (ok__law_numbers T) (hr.mono (by first | decide | omega)) tk (by rfl) T.m__law_numbers T.F__law_numbers.kp T.b__law_numbers (da_cons (de_name (pv 0)) (da_cons de_int (da_cons de_int da_nil)))) (de_lst (da_cons de_int (da_cons de_int (da_cons de_int da_nil))))))
  (db_cons (ds_set (i := 2) sc.nd rfl (.inl rfl) (de_call (ok__law_neighborhood T) (hr.mono (by first | decide | omega)) tk (by rfl) T.m__law_neighborhood T.F__law_neighborhood.kp T.b__law_neighborhood (da_cons (de_name (pv 1)) (da_cons de_int da_nil))))
  (db_cons (ds_set (i := 3) sc.nd rfl (.inr rfl) (de_callB cd_abs (by rfl) T.n_abs (by decide +kernel) (da_cons (de_call (ok__law_cell T) (hr.mono (by first | decide | omega)) tk (by rfl) T.m__law_cell T.F__law_cell.kp T.b__law_cell (da_cons (de_name (pv 0)) (da_cons de_int da_nil))) da_nil)))
  (db_cons (ds_set (i := 4) sc.nd rfl (.inl rfl) (de_ix hu1 (de_name (pv 2)) de_int))
  (db_cons (ds_set (i := 5) sc.nd rfl (.inl rfl) (de_callTy cd_tuple (by rfl) T.n_tuple (by decide +kernel) (da_cons (de_lc rfl sc.nd (di_rng1 (by rfl) T.n_range (de_name (pv 4))) (blkOk_by (own := [("k", 17)]) (N := N_law) (sc := defScope s_law) (by decide +kernel)) (fun _ _ _ _ _ => (dg_one (pg_name (i := 17) sc.nd rfl (.inl rfl)))) (fun _ _ _ _ _ => dif_nil) (fun _ _ _ _ _ => (de_bin opd_mod (de_bin opd_fdiv (de_callTy cd_int (by rfl) T.n_int (by decide +kernel) (da_cons (de_ix hu1 (de_name (pv 1)) (de_bin opd_mod (de_callTy cd_int (by rfl) T.n_int (by decide +kernel) (da_cons (de_name (pv 17)) da_nil)) (de_callB cd_len (by rfl) T.n_len (by decide +kernel) (da_cons (de_name (pv 1)) da_nil)))) da_nil)) de_int) (de_bin opd_add de_int (de_bin opd_mod (de_callTy cd_int (by rfl) T.n_int (by decide +kernel) (da_cons (de_name (pv 3)) da_nil)) de_int)))) (by decide) (by rfl)) da_nil)))
  (db_cons (ds_set (i := 6) sc.nd rfl (.inl rfl) (de_lst da_nil))
  (db_cons (ds_set (i := 7) sc.nd rfl (.inl rfl) (de_lst da_nil))
  (db_cons (ds_set (i := 8) sc.nd rfl (.inl rfl) (de_lst da_nil))
  (db_cons (ds_for po rfl (di_rng1 (by rfl) T.n_range (de_name (pv 4))) (dg_one (pg_name (i := 9) sc.nd rfl (.inr rfl)))
  (db_one (ds_for po rfl (di_rng2 (by rfl) T.n_range (de_bin opd_add (de_name (pv 9)) de_int) (de_name (pv 4))) (dg_one (pg_name (i := 10) sc.nd rfl (.inr rfl)))
  (db_cons (ds_set (i := 11) sc.nd rfl (.inl rfl) (de_call (ok__law_thirds T) (hr.mono (by first | decide | omega)) tk (by rfl) T.m__law_thirds T.F__law_thirds.kp T.b__law_thirds (da_cons (de_name (pv 2)) (da_cons (de_name (pv 9)) (da_cons (de_name (pv 10)) da_nil)))))
  (db_cons (ds_if (DW.dt (dw_or (dt_cmp (opd_inA hu65) (de_tup (da_cons (de_name (pv 9)) (da_cons (de_name (pv 10)) da_nil))) (de_ix hu1 (de_name (pv 2)) de_int) (by rfl)) (dw_or1 (dt_cmp (opd_ne hu64) (de_name (pv 11)) (de_lst da_nil) (nomark _)))))
  (db_one (ds_expr (de_mut PySem.F.slot_list_append PySem.F.type_list_append md_append (pv 6) (da_cons (de_tup (da_cons (de_name (pv 9)) (da_cons (de_name (pv 10)) (da_cons de_int da_nil)))) da_nil))))
  db_nil)
  (db_one (ds_if (dt_cmp (opd_eq hu64) (de_ix hu1 (de_name (pv 5)) (de_name (pv 9))) (de_ix hu1 (de_name (pv 5)) (de_name (pv 10))) (nomark _))
  (db_cons (ds_if (dt_cmp (opd_inA hu65) (de_tup (da_cons (de_name (pv 9)) (da_cons (de_name (pv 10)) da_nil))) (de_ix hu1 (de_name (pv 2)) de_int) (by rfl))
  (db_one (ds_expr (de_mut PySem.F.slot_list_append PySem.F.type_list_append md_append (pv 7) (da_cons (de_tup (da_cons (de_name (pv 9)) (da_cons (de_name (pv 10)) da_nil))) da_nil))))
  db_nil)
  (db_one (ds_set (i := 8) sc.nd rfl (.inl rfl) (de_bin opd_add (de_name (pv 8)) (de_lc rfl sc.nd (di_seq (de_name (pv 11))) (blkOk_by (own := [("k", 17)]) (N := N_law) (sc := defScope s_law) (by decide +kernel)) (fun _ _ _ _ _ => (dg_one (pg_name (i := 17) sc.nd rfl (.inl rfl)))) (fun _ _ _ _ _ => dif_nil) (fun _ _ _ _ _ => (de_tup (da_cons (de_name (pv 9)) (da_cons (de_name (pv 10)) (da_cons (de_name (pv 17)) da_nil))))) (by decide) (by rfl))))))
  db_nil)))))))
  (db_cons (ds_set (i := 12) sc.nd rfl (.inl rfl) (de_call (ok_code_separations T) (hr.mono (by first | decide | omega)) tk (by rfl) T.m_code_separations T.F_code_separations.kp T.b_code_separations (da_cons (de_name (pv 2)) da_nil)))
  (db_cons (ds_if (DW.dt (dw_or (dt_not (dt_tru (de_call (ok__law_equal T 40) (hr.mono (by first | decide | omega)) tk (by rfl) T.m__law_equal T.F__law_equal.kp T.b__law_equal (da_cons (de_name (pv 12)) (da_cons (de_tup (da_cons (de_name (pv 4)) (da_cons (de_callTy cd_tuple (by rfl) T.n_tuple (by decide +kernel) (da_cons (de_name (pv 6)) da_nil)) da_nil))) da_nil))))) (dw_or (dt_not (dt_tru (de_call (ok__law_equal T 40) (hr.mono (by first | decide | omega)) tk (by rfl) T.m__law_equal T.F__law_equal.kp T.b__law_equal (da_cons (de_call (ok_collisions T) (hr.mono (by first | decide | omega)) tk (by rfl) T.m_collisions T.F_collisions.kp T.b_collisions (da_cons (de_name (pv 2)) (da_cons (de_name (pv 5)) da_nil))) (da_cons (de_name (pv 7)) da_nil))))) (dw_or1 (dt_not (dt_tru (de_call (ok__law_equal T 40) (hr.mono (by first | decide | omega)) tk (by rfl) T.m__law_equal T.F__law_equal.kp T.b__law_equal (da_cons (de_call (ok_confusions T) (hr.mono (by first | decide | omega)) tk (by rfl) T.m_confusions T.F_confusions.kp T.b_confusions (da_cons (de_name (pv 2)) (da_cons (de_name (pv 5)) da_nil))) (da_cons (de_name (pv 8)) da_nil)))))))))
  (db_one (ds_ret de_bl))
  db_nil)
  (db_cons (ds_if (dt_not (dt_tru (de_call (ok__law_equal T 40) (hr.mono (by first | decide | omega)) tk (by rfl) T.m__law_equal T.F__law_equal.kp T.b__law_equal (da_cons (de_call (ok__law_is_assignment T) (hr.mono (by first | decide | omega)) tk (by rfl) T.m__law_is_assignment T.F__law_is_assignment.kp T.b__law_is_assignment (da_cons (de_name (pv 12)) (da_cons de_int (da_cons (de_name (pv 5)) da_nil)))) (da_cons (de_and (de_cmp (opd_eq hu64) (de_name (pv 7)) (de_lst da_nil) (nomark _)) (de_one (de_cmp (opd_eq hu64) (de_name (pv 8)) (de_lst da_nil) (nomark _)))) da_nil)))))
  (db_one (ds_ret de_bl))
  db_nil)
  (db_cons (ds_if (DW.dt (dw_or (dt_cmp opd_isNot (de_call (ok_is_neighborhood T) (hr.mono (by first | decide | omega)) tk (by rfl) T.m_is_neighborhood T.F_is_neighborhood.kp T.b_is_neighborhood (da_cons (de_tup (da_cons de_int (da_cons (de_tup (da_cons (de_tup (da_cons de_int (da_cons de_int da_nil))) da_nil)) da_nil))) da_nil)) de_bl (nomark _)) (dw_or1 (dt_cmp opd_isNot (de_call (ok_is_neighborhood T) (hr.mono (by first | decide | omega)) tk (by rfl) T.m_is_neighborhood T.F_is_neighborhood.kp T.b_is_neighborhood (da_cons (de_tup (da_cons de_int (da_cons (de_tup da_nil) da_nil))) da_nil)) de_bl (nomark _)))))
  (db_one (ds_ret de_bl))
  db_nil)
  (db_cons (ds_set (i := 13) sc.nd rfl (.inl rfl) (de_name (pv 2)))
  (db_cons (ds_for po rfl (di_rng1 (by rfl) T.n_range de_int) (dg_one (pg_name (i := 14) sc.nd rfl (.inl rfl)))
  (db_cons (ds_set (i := 15) sc.nd rfl (.inl rfl) (de_call (ok__law_members T) (hr.mono (by first | decide | omega)) tk (by rfl) T.m__law_members T.F__law_members.kp T.b__law_members (da_cons (de_name (pv 13)) da_nil)))
  (db_cons (ds_set (i := 16) sc.nd rfl (.inl rfl) (de_call (ok_is_neighborhood T) (hr.mono (by first | decide | omega)) tk (by rfl) T.m_is_neighborhood T.F_is_neighborhood.kp T.b_is_neighborhood (da_cons (de_name (pv 13)) da_nil)))
  (db_cons (ds_if (dt_cmp (opd_ne hu64) (de_call (ok__law_members T) (hr.mono (by first | decide | omega)) tk (by rfl) T.m__law_members T.F__law_members.kp T.b__law_members (da_cons (de_name (pv 13)) da_nil)) (de_name (pv 15)) (nomark _))
  (db_one (ds_ret de_bl))
  db_nil)
  (db_cons (ds_if (DW.dt (dw_or (dt_not (dt_tru (de_isi (t := .bool) rfl T.n_isinstance (by decide +kernel) rfl T.n_bool (by decide +kernel) (de_name (pv 16))))) (dw_or1 (dt_not (dt_tru (de_call (ok__law_equal T 40) (hr.mono (by first | decide | omega)) tk (by rfl) T.m__law_equal T.F__law_equal.kp T.b__law_equal (da_cons (de_name (pv 16)) (da_cons (de_call (ok__law_is_neighborhood T) (hr.mono (by first | decide | omega)) tk (by rfl) T.m__law_is_neighborhood T.F__law_is_neighborhood.kp T.b__law_is_neighborhood (da_cons (de_name (pv 13)) da_nil)) da_nil))))))))
  (db_one (ds_ret de_bl))
  db_nil)
  (db_one (ds_set (i := 13) sc.nd rfl (.inl rfl) (de_call (ok__law_bend T 40) (hr.mono (by first | decide | omega)) tk (by rfl) T.m__law_bend T.F__law_bend.kp T.b__law_bend (da_cons (de_name (pv 13)) (da_cons (de_name (pv 1)) (da_cons (de_bin opd_add (de_bin opd_mod (de_bin opd_fdiv (de_name (pv 3)) de_int) de_int) (de_bin opd_mul (de_name (pv 14)) de_int)) da_nil)))))))))))
  (db_one (ds_ret de_bl)))))))))))))))))
end
/-- the record of what the top has left -/
def txt_mk {K : PySem.W.Frag} {h : Heap} {mg : Str → Option Value} (X : K.In h) (G : h.Ns mainGlobals mg)
  {f__law_neighborhood : Addr} {od__law_neighborhood an__law_neighborhood : Option Addr} {sl__law_neighborhood : Array (Option Value)} {oc__law_neighborhood kv__law_neighborhood dc__law_neighborhood pm__law_neighborhood cd__law_neighborhood ct__law_neighborhood : Value}
  {f_near : Addr} {od_near an_near : Option Addr} {sl_near : Array (Option Value)} {oc_near kv_near dc_near pm_near cd_near ct_near : Value}
  {f_thirds : Addr} {od_thirds an_thirds : Option Addr} {sl_thirds : Array (Option Value)} {oc_thirds kv_thirds dc_thirds pm_thirds cd_thirds ct_thirds : Value}
  {f_code_separations : Addr} {od_code_separations an_code_separations : Option Addr} {sl_code_separations : Array (Option Value)} {oc_code_separations kv_code_separations dc_code_separations pm_code_separations cd_code_separations ct_code_separations : Value}
  {f__law_numbers : Addr} {od__law_numbers an__law_numbers : Option Addr} {sl__law_numbers : Array (Option Value)} {oc__law_numbers kv__law_numbers dc__law_numbers pm__law_numbers cd__law_numbers ct__law_numbers : Value}
  {f__law_cell : Addr} {od__law_cell an__law_cell : Option Addr} {sl__law_cell : Array (Option Value)} {oc__law_cell kv__law_cell dc__law_cell pm__law_cell cd__law_cell ct__law_cell : Value}
  {f__law_equal : Addr} {od__law_equal an__law_equal : Option Addr} {sl__law_equal : Array (Option Value)} {oc__law_equal kv__law_equal dc__law_equal pm__law_equal cd__law_equal ct__law_equal : Value}
  {f__law_members : Addr} {od__law_members an__law_members : Option Addr} {sl__law_members : Array (Option Value)} {oc__law_members kv__law_members dc__law_members pm__law_members cd__law_members ct__law_members : Value}
  {f_is_integer : Addr} {od_is_integer an_is_integer : Option Addr} {sl_is_integer : Array (Option Value)} {oc_is_integer kv_is_integer dc_is_integer pm_is_integer cd_is_integer ct_is_integer : Value}
  {f_is_pair : Addr} {od_is_pair an_is_pair : Option Addr} {sl_is_pair : Array (Option Value)} {oc_is_pair kv_is_pair dc_is_pair pm_is_pair cd_is_pair ct_is_pair : Value}
  {f_is_neighborhood : Addr} {od_is_neighborhood an_is_neighborhood : Option Addr} {sl_is_neighborhood : Array (Option Value)} {oc_is_neighborhood kv_is_neighborhood dc_is_neighborhood pm_is_neighborhood cd_is_neighborhood ct_is_neighborhood : Value}
  {f__law_is_integer : Addr} {od__law_is_integer an__law_is_integer : Option Addr} {sl__law_is_integer : Array (Option Value)} {oc__law_is_integer kv__law_is_integer dc__law_is_integer pm__law_is_integer cd__law_is_integer ct__law_is_integer : Value}
  {f__law_odd : Addr} {od__law_odd an__law_odd : Option Addr} {sl__law_odd : Array (Option Value)} {oc__law_odd kv__law_odd dc__law_odd pm__law_odd cd__law_odd ct__law_odd : Value}
  {f__law_bend : Addr} {od__law_bend an__law_bend : Option Addr} {sl__law_bend : Array (Option Value)} {oc__law_bend kv__law_bend dc__law_bend pm__law_bend cd__law_bend ct__law_bend : Value}
  {f__law_thirds : Addr} {od__law_thirds an__law_thirds : Option Addr} {sl__law_thirds : Array (Option Value)} {oc__law_thirds kv__law_thirds dc__law_thirds pm__law_thirds cd__law_thirds ct__law_thirds : Value}
  {f__law_is_assignment : Addr} {od__law_is_assignment an__law_is_assignment : Option Addr} {sl__law_is_assignment : Array (Option Value)} {oc__law_is_assignment kv__law_is_assignment dc__law_is_assignment pm__law_is_assignment cd__law_is_assignment ct__law_is_assignment : Value}
  {f_collisions : Addr} {od_collisions an_collisions : Option Addr} {sl_collisions : Array (Option Value)} {oc_collisions kv_collisions dc_collisions pm_collisions cd_collisions ct_collisions : Value}
  {f_confusions : Addr} {od_confusions an_confusions : Option Addr} {sl_confusions : Array (Option Value)} {oc_confusions kv_confusions dc_confusions pm_confusions cd_confusions ct_confusions : Value}
  {f__law_is_neighborhood : Addr} {od__law_is_neighborhood an__law_is_neighborhood : Option Addr} {sl__law_is_neighborhood : Array (Option Value)} {oc__law_is_neighborhood kv__law_is_neighborhood dc__law_is_neighborhood pm__law_is_neighborhood cd__law_is_neighborhood ct__law_is_neighborhood : Value}
  {f_law : Addr} {od_law an_law : Option Addr} {sl_law : Array (Option Value)} {oc_law kv_law dc_law pm_law cd_law ct_law : Value}
  {t_MOST_USERS : Tok}
  (a__law_bend : PySem.W.nsIn K mainGlobals "_law_bend" = some (some (.ref f__law_bend)))
  (a__law_cell : PySem.W.nsIn K mainGlobals "_law_cell" = some (some (.ref f__law_cell)))
  (a__law_equal : PySem.W.nsIn K mainGlobals "_law_equal" = some (some (.ref f__law_equal)))
  (a__law_is_assignment : PySem.W.nsIn K mainGlobals "_law_is_assignment" = some (some (.ref f__law_is_assignment)))
  (a__law_is_integer : PySem.W.nsIn K mainGlobals "_law_is_integer" = some (some (.ref f__law_is_integer)))
  (a__law_is_neighborhood : PySem.W.nsIn K mainGlobals "_law_is_neighborhood" = some (some (.ref f__law_is_neighborhood)))
  (a__law_members : PySem.W.nsIn K mainGlobals "_law_members" = some (some (.ref f__law_members)))
  (a__law_neighborhood : PySem.W.nsIn K mainGlobals "_law_neighborhood" = some (some (.ref f__law_neighborhood)))
  (a__law_numbers : PySem.W.nsIn K mainGlobals "_law_numbers" = some (some (.ref f__law_numbers)))
  (a__law_odd : PySem.W.nsIn K mainGlobals "_law_odd" = some (some (.ref f__law_odd)))
  (a__law_thirds : PySem.W.nsIn K mainGlobals "_law_thirds" = some (some (.ref f__law_thirds)))
  (a_code_separations : PySem.W.nsIn K mainGlobals "code_separations" = some (some (.ref f_code_separations)))
  (a_collisions : PySem.W.nsIn K mainGlobals "collisions" = some (some (.ref f_collisions)))
  (a_confusions : PySem.W.nsIn K mainGlobals "confusions" = some (some (.ref f_confusions)))
  (a_is_integer : PySem.W.nsIn K mainGlobals "is_integer" = some (some (.ref f_is_integer)))
  (a_is_neighborhood : PySem.W.nsIn K mainGlobals "is_neighborhood" = some (some (.ref f_is_neighborhood)))
  (a_is_pair : PySem.W.nsIn K mainGlobals "is_pair" = some (some (.ref f_is_pair)))
  (a_near : PySem.W.nsIn K mainGlobals "near" = some (some (.ref f_near)))
  (a_thirds : PySem.W.nsIn K mainGlobals "thirds" = some (some (.ref f_thirds)))
  (a_law : PySem.W.nsIn K mainGlobals "law" = some (some (.ref f_law)))
  (l__law_neighborhood : K.lookup f__law_neighborhood = some ⟨oc__law_neighborhood, od__law_neighborhood, .func (PySem.W.fnOf "_law_neighborhood" "_law_neighborhood" (defArgs s__law_neighborhood) (defBody s__law_neighborhood) (defScope s__law_neighborhood) .none kv__law_neighborhood dc__law_neighborhood pm__law_neighborhood an__law_neighborhood cd__law_neighborhood ct__law_neighborhood), sl__law_neighborhood⟩)
  (c__law_neighborhood : PySem.W.codeIn K cd__law_neighborhood "_law_neighborhood" = true)
  (k__law_neighborhood : PySem.W.keepIn K (.ref f__law_neighborhood) = true)
  (l_near : K.lookup f_near = some ⟨oc_near, od_near, .func (PySem.W.fnOf "near" "near" (defArgs s_near) (defBody s_near) (defScope s_near) .none kv_near dc_near pm_near an_near cd_near ct_near), sl_near⟩)
  (c_near : PySem.W.codeIn K cd_near "near" = true)
  (k_near : PySem.W.keepIn K (.ref f_near) = true)
  (l_thirds : K.lookup f_thirds = some ⟨oc_thirds, od_thirds, .func (PySem.W.fnOf "thirds" "thirds" (defArgs s_thirds) (defBody s_thirds) (defScope s_thirds) .none kv_thirds dc_thirds pm_thirds an_thirds cd_thirds ct_thirds), sl_thirds⟩)
  (c_thirds : PySem.W.codeIn K cd_thirds "thirds" = true)
  (k_thirds : PySem.W.keepIn K (.ref f_thirds) = true)
  (l_code_separations : K.lookup f_code_separations = some ⟨oc_code_separations, od_code_separations, .func (PySem.W.fnOf "code_separations" "code_separations" (defArgs s_code_separations) (defBody s_code_separations) (defScope s_code_separations) .none kv_code_separations dc_code_separations pm_code_separations an_code_separations cd_code_separations ct_code_separations), sl_code_separations⟩)
  (c_code_separations : PySem.W.codeIn K cd_code_separations "code_separations" = true)
  (k_code_separations : PySem.W.keepIn K (.ref f_code_separations) = true)
  (l__law_numbers : K.lookup f__law_numbers = some ⟨oc__law_numbers, od__law_numbers, .func (PySem.W.fnOf "_law_numbers" "_law_numbers" (defArgs s__law_numbers) (defBody s__law_numbers) (defScope s__law_numbers) .none kv__law_numbers dc__law_numbers pm__law_numbers an__law_numbers cd__law_numbers ct__law_numbers), sl__law_numbers⟩)
  (c__law_numbers : PySem.W.codeIn K cd__law_numbers "_law_numbers" = true)
  (k__law_numbers : PySem.W.keepIn K (.ref f__law_numbers) = true)
  (l__law_cell : K.lookup f__law_cell = some ⟨oc__law_cell, od__law_cell, .func (PySem.W.fnOf "_law_cell" "_law_cell" (defArgs s__law_cell) (defBody s__law_cell) (defScope s__law_cell) .none kv__law_cell dc__law_cell pm__law_cell an__law_cell cd__law_cell ct__law_cell), sl__law_cell⟩)
  (c__law_cell : PySem.W.codeIn K cd__law_cell "_law_cell" = true)
  (k__law_cell : PySem.W.keepIn K (.ref f__law_cell) = true)
  (l__law_equal : K.lookup f__law_equal = some ⟨oc__law_equal, od__law_equal, .func (PySem.W.fnOf "_law_equal" "_law_equal" (defArgs s__law_equal) (defBody s__law_equal) (defScope s__law_equal) .none kv__law_equal dc__law_equal pm__law_equal an__law_equal cd__law_equal ct__law_equal), sl__law_equal⟩)
  (c__law_equal : PySem.W.codeIn K cd__law_equal "_law_equal" = true)
  (k__law_equal : PySem.W.keepIn K (.ref f__law_equal) = true)
  (l__law_members : K.lookup f__law_members = some ⟨oc__law_members, od__law_members, .func (PySem.W.fnOf "_law_members" "_law_members" (defArgs s__law_members) (defBody s__law_members) (defScope s__law_members) .none kv__law_members dc__law_members pm__law_members an__law_members cd__law_members ct__law_members), sl__law_members⟩)
  (c__law_members : PySem.W.codeIn K cd__law_members "_law_members" = true)
  (k__law_members : PySem.W.keepIn K (.ref f__law_members) = true)
  (l_is_integer : K.lookup f_is_integer = some ⟨oc_is_integer, od_is_integer, .func (PySem.W.fnOf "is_integer" "is_integer" (defArgs s_is_integer) (defBody s_is_integer) (defScope s_is_integer) .none kv_is_integer dc_is_integer pm_is_integer an_is_integer cd_is_integer ct_is_integer), sl_is_integer⟩)
  (c_is_integer : PySem.W.codeIn K cd_is_integer "is_integer" = true)
  (k_is_integer : PySem.W.keepIn K (.ref f_is_integer) = true)
  (l_is_pair : K.lookup f_is_pair = some ⟨oc_is_pair, od_is_pair, .func (PySem.W.fnOf "is_pair" "is_pair" (defArgs s_is_pair) (defBody s_is_pair) (defScope s_is_pair) .none kv_is_pair dc_is_pair pm_is_pair an_is_pair cd_is_pair ct_is_pair), sl_is_pair⟩)
  (c_is_pair : PySem.W.codeIn K cd_is_pair "is_pair" = true)
  (k_is_pair : PySem.W.keepIn K (.ref f_is_pair) = true)
  (l_is_neighborhood : K.lookup f_is_neighborhood = some ⟨oc_is_neighborhood, od_is_neighborhood, .func (PySem.W.fnOf "is_neighborhood" "is_neighborhood" (defArgs s_is_neighborhood) (defBody s_is_neighborhood) (defScope s_is_neighborhood) .none kv_is_neighborhood dc_is_neighborhood pm_is_neighborhood an_is_neighborhood cd_is_neighborhood ct_is_neighborhood), sl_is_neighborhood⟩)
  (c_is_neighborhood : PySem.W.codeIn K cd_is_neighborhood "is_neighborhood" = true)
  (k_is_neighborhood : PySem.W.keepIn K (.ref f_is_neighborhood) = true)
  (l__law_is_integer : K.lookup f__law_is_integer = some ⟨oc__law_is_integer, od__law_is_integer, .func (PySem.W.fnOf "_law_is_integer" "_law_is_integer" (defArgs s__law_is_integer) (defBody s__law_is_integer) (defScope s__law_is_integer) .none kv__law_is_integer dc__law_is_integer pm__law_is_integer an__law_is_integer cd__law_is_integer ct__law_is_integer), sl__law_is_integer⟩)
  (c__law_is_integer : PySem.W.codeIn K cd__law_is_integer "_law_is_integer" = true)
  (k__law_is_integer : PySem.W.keepIn K (.ref f__law_is_integer) = true)
  (l__law_odd : K.lookup f__law_odd = some ⟨oc__law_odd, od__law_odd, .func (PySem.W.fnOf "_law_odd" "_law_odd" (defArgs s__law_odd) (defBody s__law_odd) (defScope s__law_odd) .none kv__law_odd dc__law_odd pm__law_odd an__law_odd cd__law_odd ct__law_odd), sl__law_odd⟩)
  (c__law_odd : PySem.W.codeIn K cd__law_odd "_law_odd" = true)
  (k__law_odd : PySem.W.keepIn K (.ref f__law_odd) = true)
  (l__law_bend : K.lookup f__law_bend = some ⟨oc__law_bend, od__law_bend, .func (PySem.W.fnOf "_law_bend" "_law_bend" (defArgs s__law_bend) (defBody s__law_bend) (defScope s__law_bend) .none kv__law_bend dc__law_bend pm__law_bend an__law_bend cd__law_bend ct__law_bend), sl__law_bend⟩)
  (c__law_bend : PySem.W.codeIn K cd__law_bend "_law_bend" = true)
  (k__law_bend : PySem.W.keepIn K (.ref f__law_bend) = true)
  (l__law_thirds : K.lookup f__law_thirds = some ⟨oc__law_thirds, od__law_thirds, .func (PySem.W.fnOf "_law_thirds" "_law_thirds" (defArgs s__law_thirds) (defBody s__law_thirds) (defScope s__law_thirds) .none kv__law_thirds dc__law_thirds pm__law_thirds an__law_thirds cd__law_thirds ct__law_thirds), sl__law_thirds⟩)
  (c__law_thirds : PySem.W.codeIn K cd__law_thirds "_law_thirds" = true)
  (k__law_thirds : PySem.W.keepIn K (.ref f__law_thirds) = true)
  (l__law_is_assignment : K.lookup f__law_is_assignment = some ⟨oc__law_is_assignment, od__law_is_assignment, .func (PySem.W.fnOf "_law_is_assignment" "_law_is_assignment" (defArgs s__law_is_assignment) (defBody s__law_is_assignment) (defScope s__law_is_assignment) .none kv__law_is_assignment dc__law_is_assignment pm__law_is_assignment an__law_is_assignment cd__law_is_assignment ct__law_is_assignment), sl__law_is_assignment⟩)
  (c__law_is_assignment : PySem.W.codeIn K cd__law_is_assignment "_law_is_assignment" = true)
  (k__law_is_assignment : PySem.W.keepIn K (.ref f__law_is_assignment) = true)
  (l_collisions : K.lookup f_collisions = some ⟨oc_collisions, od_collisions, .func (PySem.W.fnOf "collisions" "collisions" (defArgs s_collisions) (defBody s_collisions) (defScope s_collisions) .none kv_collisions dc_collisions pm_collisions an_collisions cd_collisions ct_collisions), sl_collisions⟩)
  (c_collisions : PySem.W.codeIn K cd_collisions "collisions" = true)
  (k_collisions : PySem.W.keepIn K (.ref f_collisions) = true)
  (l_confusions : K.lookup f_confusions = some ⟨oc_confusions, od_confusions, .func (PySem.W.fnOf "confusions" "confusions" (defArgs s_confusions) (defBody s_confusions) (defScope s_confusions) .none kv_confusions dc_confusions pm_confusions an_confusions cd_confusions ct_confusions), sl_confusions⟩)
  (c_confusions : PySem.W.codeIn K cd_confusions "confusions" = true)
  (k_confusions : PySem.W.keepIn K (.ref f_confusions) = true)
  (l__law_is_neighborhood : K.lookup f__law_is_neighborhood = some ⟨oc__law_is_neighborhood, od__law_is_neighborhood, .func (PySem.W.fnOf "_law_is_neighborhood" "_law_is_neighborhood" (defArgs s__law_is_neighborhood) (defBody s__law_is_neighborhood) (defScope s__law_is_neighborhood) .none kv__law_is_neighborhood dc__law_is_neighborhood pm__law_is_neighborhood an__law_is_neighborhood cd__law_is_neighborhood ct__law_is_neighborhood), sl__law_is_neighborhood⟩)
  (c__law_is_neighborhood : PySem.W.codeIn K cd__law_is_neighborhood "_law_is_neighborhood" = true)
  (k__law_is_neighborhood : PySem.W.keepIn K (.ref f__law_is_neighborhood) = true)
  (l_law : K.lookup f_law = some ⟨oc_law, od_law, .func (PySem.W.fnOf "law" "law" (defArgs s_law) (defBody s_law) (defScope s_law) .none kv_law dc_law pm_law an_law cd_law ct_law), sl_law⟩)
  (c_law : PySem.W.codeIn K cd_law "law" = true)
  (k_law : PySem.W.keepIn K (.ref f_law) = true)
  (z_abs : PySem.W.nsIn K mainGlobals "abs" = some none)
  (z_all : PySem.W.nsIn K mainGlobals "all" = some none)
  (z_bool : PySem.W.nsIn K mainGlobals "bool" = some none)
  (z_dict : PySem.W.nsIn K mainGlobals "dict" = some none)
  (z_int : PySem.W.nsIn K mainGlobals "int" = some none)
  (z_isinstance : PySem.W.nsIn K mainGlobals "isinstance" = some none)
  (z_len : PySem.W.nsIn K mainGlobals "len" = some none)
  (z_list : PySem.W.nsIn K mainGlobals "list" = some none)
  (z_max : PySem.W.nsIn K mainGlobals "max" = some none)
  (z_min : PySem.W.nsIn K mainGlobals "min" = some none)
  (z_range : PySem.W.nsIn K mainGlobals "range" = some none)
  (z_sorted : PySem.W.nsIn K mainGlobals "sorted" = some none)
  (z_str : PySem.W.nsIn K mainGlobals "str" = some none)
  (z_tuple : PySem.W.nsIn K mainGlobals "tuple" = some none)
  (z_zip : PySem.W.nsIn K mainGlobals "zip" = some none)
  (q_MOST_USERS : PySem.W.nsIn K mainGlobals "MOST_USERS" = some (some (.int (24) t_MOST_USERS))) : Txt K mg where
  a__law_neighborhood := f__law_neighborhood
  fd__law_neighborhood := _
  F__law_neighborhood := fun_mk l__law_neighborhood c__law_neighborhood k__law_neighborhood
  b__law_neighborhood := (fun_mk (st := s__law_neighborhood) l__law_neighborhood c__law_neighborhood k__law_neighborhood).binds (ps := ["numbers", "most"]) fun _ _ _ _ _ _ us hl => match us, hl with | [_, _], _ => rfl
  a_near := f_near
  fd_near := _
  F_near := fun_mk l_near c_near k_near
  b_near := (fun_mk (st := s_near) l_near c_near k_near).binds (ps := ["neighborhood", "station"]) fun _ _ _ _ _ _ us hl => match us, hl with | [_, _], _ => rfl
  a_thirds := f_thirds
  fd_thirds := _
  F_thirds := fun_mk l_thirds c_thirds k_thirds
  b_thirds := (fun_mk (st := s_thirds) l_thirds c_thirds k_thirds).binds (ps := ["neighborhood", "i", "j"]) fun _ _ _ _ _ _ us hl => match us, hl with | [_, _, _], _ => rfl
  a_code_separations := f_code_separations
  fd_code_separations := _
  F_code_separations := fun_mk l_code_separations c_code_separations k_code_separations
  b_code_separations := (fun_mk (st := s_code_separations) l_code_separations c_code_separations k_code_separations).binds (ps := ["neighborhood"]) fun _ _ _ _ _ _ us hl => match us, hl with | [_], _ => rfl
  a__law_numbers := f__law_numbers
  fd__law_numbers := _
  F__law_numbers := fun_mk l__law_numbers c__law_numbers k__law_numbers
  b__law_numbers := (fun_mk (st := s__law_numbers) l__law_numbers c__law_numbers k__law_numbers).binds (ps := ["script", "first", "most"]) fun _ _ _ _ _ _ us hl => match us, hl with | [_, _, _], _ => rfl
  a__law_cell := f__law_cell
  fd__law_cell := _
  F__law_cell := fun_mk l__law_cell c__law_cell k__law_cell
  b__law_cell := (fun_mk (st := s__law_cell) l__law_cell c__law_cell k__law_cell).binds (ps := ["script", "k"]) fun _ _ _ _ _ _ us hl => match us, hl with | [_, _], _ => rfl
  a__law_equal := f__law_equal
  fd__law_equal := _
  F__law_equal := fun_mk l__law_equal c__law_equal k__law_equal
  b__law_equal := (fun_mk (st := s__law_equal) l__law_equal c__law_equal k__law_equal).binds (ps := ["x", "y"]) fun _ _ _ _ _ _ us hl => match us, hl with | [_, _], _ => rfl
  a__law_members := f__law_members
  fd__law_members := _
  F__law_members := fun_mk l__law_members c__law_members k__law_members
  b__law_members := (fun_mk (st := s__law_members) l__law_members c__law_members k__law_members).binds (ps := ["value"]) fun _ _ _ _ _ _ us hl => match us, hl with | [_], _ => rfl
  a_is_integer := f_is_integer
  fd_is_integer := _
  F_is_integer := fun_mk l_is_integer c_is_integer k_is_integer
  b_is_integer := (fun_mk (st := s_is_integer) l_is_integer c_is_integer k_is_integer).binds (ps := ["value"]) fun _ _ _ _ _ _ us hl => match us, hl with | [_], _ => rfl
  a_is_pair := f_is_pair
  fd_is_pair := _
  F_is_pair := fun_mk l_is_pair c_is_pair k_is_pair
  b_is_pair := (fun_mk (st := s_is_pair) l_is_pair c_is_pair k_is_pair).binds (ps := ["value", "count"]) fun _ _ _ _ _ _ us hl => match us, hl with | [_, _], _ => rfl
  a_is_neighborhood := f_is_neighborhood
  fd_is_neighborhood := _
  F_is_neighborhood := fun_mk l_is_neighborhood c_is_neighborhood k_is_neighborhood
  b_is_neighborhood := (fun_mk (st := s_is_neighborhood) l_is_neighborhood c_is_neighborhood k_is_neighborhood).binds (ps := ["value"]) fun _ _ _ _ _ _ us hl => match us, hl with | [_], _ => rfl
  a__law_is_integer := f__law_is_integer
  fd__law_is_integer := _
  F__law_is_integer := fun_mk l__law_is_integer c__law_is_integer k__law_is_integer
  b__law_is_integer := (fun_mk (st := s__law_is_integer) l__law_is_integer c__law_is_integer k__law_is_integer).binds (ps := ["actual"]) fun _ _ _ _ _ _ us hl => match us, hl with | [_], _ => rfl
  a__law_odd := f__law_odd
  fd__law_odd := _
  F__law_odd := fun_mk l__law_odd c__law_odd k__law_odd
  b__law_odd := (fun_mk (st := s__law_odd) l__law_odd c__law_odd k__law_odd).binds (ps := ["number"]) fun _ _ _ _ _ _ us hl => match us, hl with | [_], _ => rfl
  a__law_bend := f__law_bend
  fd__law_bend := _
  F__law_bend := fun_mk l__law_bend c__law_bend k__law_bend
  b__law_bend := (fun_mk (st := s__law_bend) l__law_bend c__law_bend k__law_bend).binds (ps := ["value", "numbers", "at"]) fun _ _ _ _ _ _ us hl => match us, hl with | [_, _, _], _ => rfl
  a__law_thirds := f__law_thirds
  fd__law_thirds := _
  F__law_thirds := fun_mk l__law_thirds c__law_thirds k__law_thirds
  b__law_thirds := (fun_mk (st := s__law_thirds) l__law_thirds c__law_thirds k__law_thirds).binds (ps := ["neighborhood", "i", "j"]) fun _ _ _ _ _ _ us hl => match us, hl with | [_, _, _], _ => rfl
  a__law_is_assignment := f__law_is_assignment
  fd__law_is_assignment := _
  F__law_is_assignment := fun_mk l__law_is_assignment c__law_is_assignment k__law_is_assignment
  b__law_is_assignment := (fun_mk (st := s__law_is_assignment) l__law_is_assignment c__law_is_assignment k__law_is_assignment).binds (ps := ["separations", "channels", "value"]) fun _ _ _ _ _ _ us hl => match us, hl with | [_, _, _], _ => rfl
  a_collisions := f_collisions
  fd_collisions := _
  F_collisions := fun_mk l_collisions c_collisions k_collisions
  b_collisions := (fun_mk (st := s_collisions) l_collisions c_collisions k_collisions).binds (ps := ["neighborhood", "codes"]) fun _ _ _ _ _ _ us hl => match us, hl with | [_, _], _ => rfl
  a_confusions := f_confusions
  fd_confusions := _
  F_confusions := fun_mk l_confusions c_confusions k_confusions
  b_confusions := (fun_mk (st := s_confusions) l_confusions c_confusions k_confusions).binds (ps := ["neighborhood", "codes"]) fun _ _ _ _ _ _ us hl => match us, hl with | [_, _], _ => rfl
  a__law_is_neighborhood := f__law_is_neighborhood
  fd__law_is_neighborhood := _
  F__law_is_neighborhood := fun_mk l__law_is_neighborhood c__law_is_neighborhood k__law_is_neighborhood
  b__law_is_neighborhood := (fun_mk (st := s__law_is_neighborhood) l__law_is_neighborhood c__law_is_neighborhood k__law_is_neighborhood).binds (ps := ["value"]) fun _ _ _ _ _ _ us hl => match us, hl with | [_], _ => rfl
  a_law := f_law
  fd_law := _
  F_law := fun_mk l_law c_law k_law
  b_law := (fun_mk (st := s_law) l_law c_law k_law).binds (ps := ["script"]) fun _ _ _ _ _ _ us hl => match us, hl with | [_], _ => rfl
  m__law_bend := PySem.W.mg_of X G a__law_bend
  m__law_cell := PySem.W.mg_of X G a__law_cell
  m__law_equal := PySem.W.mg_of X G a__law_equal
  m__law_is_assignment := PySem.W.mg_of X G a__law_is_assignment
  m__law_is_integer := PySem.W.mg_of X G a__law_is_integer
  m__law_is_neighborhood := PySem.W.mg_of X G a__law_is_neighborhood
  m__law_members := PySem.W.mg_of X G a__law_members
  m__law_neighborhood := PySem.W.mg_of X G a__law_neighborhood
  m__law_numbers := PySem.W.mg_of X G a__law_numbers
  m__law_odd := PySem.W.mg_of X G a__law_odd
  m__law_thirds := PySem.W.mg_of X G a__law_thirds
  m_code_separations := PySem.W.mg_of X G a_code_separations
  m_collisions := PySem.W.mg_of X G a_collisions
  m_confusions := PySem.W.mg_of X G a_confusions
  m_is_integer := PySem.W.mg_of X G a_is_integer
  m_is_neighborhood := PySem.W.mg_of X G a_is_neighborhood
  m_is_pair := PySem.W.mg_of X G a_is_pair
  m_near := PySem.W.mg_of X G a_near
  m_thirds := PySem.W.mg_of X G a_thirds
  m_law := PySem.W.mg_of X G a_law
  n_abs := PySem.W.mg_none_of X G z_abs
  n_all := PySem.W.mg_none_of X G z_all
  n_bool := PySem.W.mg_none_of X G z_bool
  n_dict := PySem.W.mg_none_of X G z_dict
  n_int := PySem.W.mg_none_of X G z_int
  n_isinstance := PySem.W.mg_none_of X G z_isinstance
  n_len := PySem.W.mg_none_of X G z_len
  n_list := PySem.W.mg_none_of X G z_list
  n_max := PySem.W.mg_none_of X G z_max
  n_min := PySem.W.mg_none_of X G z_min
  n_range := PySem.W.mg_none_of X G z_range
  n_sorted := PySem.W.mg_none_of X G z_sorted
  n_str := PySem.W.mg_none_of X G z_str
  n_tuple := PySem.W.mg_none_of X G z_tuple
  n_zip := PySem.W.mg_none_of X G z_zip
  c_MOST_USERS := ⟨t_MOST_USERS, PySem.W.mg_of X G q_MOST_USERS⟩
theorem all_mk {l : PySem.W.OpenLaw} {w : World} {K : PySem.W.Frag} {h : Heap} {mg : Str → Option Value} {fa : Addr} (hF : ∀ ns : List Int, ns.length ≤ 63 → d_law [.kls (ns.map .int)] = .ok (.fz (.bl true)) []) (X : K.In h) (G : h.Ns mainGlobals mg) (hfa : mg "law" = some (.ref fa))
  {f__law_neighborhood : Addr} {od__law_neighborhood an__law_neighborhood : Option Addr} {sl__law_neighborhood : Array (Option Value)} {oc__law_neighborhood kv__law_neighborhood dc__law_neighborhood pm__law_neighborhood cd__law_neighborhood ct__law_neighborhood : Value}
  {f_near : Addr} {od_near an_near : Option Addr} {sl_near : Array (Option Value)} {oc_near kv_near dc_near pm_near cd_near ct_near : Value}
  {f_thirds : Addr} {od_thirds an_thirds : Option Addr} {sl_thirds : Array (Option Value)} {oc_thirds kv_thirds dc_thirds pm_thirds cd_thirds ct_thirds : Value}
  {f_code_separations : Addr} {od_code_separations an_code_separations : Option Addr} {sl_code_separations : Array (Option Value)} {oc_code_separations kv_code_separations dc_code_separations pm_code_separations cd_code_separations ct_code_separations : Value}
  {f__law_numbers : Addr} {od__law_numbers an__law_numbers : Option Addr} {sl__law_numbers : Array (Option Value)} {oc__law_numbers kv__law_numbers dc__law_numbers pm__law_numbers cd__law_numbers ct__law_numbers : Value}
  {f__law_cell : Addr} {od__law_cell an__law_cell : Option Addr} {sl__law_cell : Array (Option Value)} {oc__law_cell kv__law_cell dc__law_cell pm__law_cell cd__law_cell ct__law_cell : Value}
  {f__law_equal : Addr} {od__law_equal an__law_equal : Option Addr} {sl__law_equal : Array (Option Value)} {oc__law_equal kv__law_equal dc__law_equal pm__law_equal cd__law_equal ct__law_equal : Value}
  {f__law_members : Addr} {od__law_members an__law_members : Option Addr} {sl__law_members : Array (Option Value)} {oc__law_members kv__law_members dc__law_members pm__law_members cd__law_members ct__law_members : Value}
  {f_is_integer : Addr} {od_is_integer an_is_integer : Option Addr} {sl_is_integer : Array (Option Value)} {oc_is_integer kv_is_integer dc_is_integer pm_is_integer cd_is_integer ct_is_integer : Value}
  {f_is_pair : Addr} {od_is_pair an_is_pair : Option Addr} {sl_is_pair : Array (Option Value)} {oc_is_pair kv_is_pair dc_is_pair pm_is_pair cd_is_pair ct_is_pair : Value}
  {f_is_neighborhood : Addr} {od_is_neighborhood an_is_neighborhood : Option Addr} {sl_is_neighborhood : Array (Option Value)} {oc_is_neighborhood kv_is_neighborhood dc_is_neighborhood pm_is_neighborhood cd_is_neighborhood ct_is_neighborhood : Value}
  {f__law_is_integer : Addr} {od__law_is_integer an__law_is_integer : Option Addr} {sl__law_is_integer : Array (Option Value)} {oc__law_is_integer kv__law_is_integer dc__law_is_integer pm__law_is_integer cd__law_is_integer ct__law_is_integer : Value}
  {f__law_odd : Addr} {od__law_odd an__law_odd : Option Addr} {sl__law_odd : Array (Option Value)} {oc__law_odd kv__law_odd dc__law_odd pm__law_odd cd__law_odd ct__law_odd : Value}
  {f__law_bend : Addr} {od__law_bend an__law_bend : Option Addr} {sl__law_bend : Array (Option Value)} {oc__law_bend kv__law_bend dc__law_bend pm__law_bend cd__law_bend ct__law_bend : Value}
  {f__law_thirds : Addr} {od__law_thirds an__law_thirds : Option Addr} {sl__law_thirds : Array (Option Value)} {oc__law_thirds kv__law_thirds dc__law_thirds pm__law_thirds cd__law_thirds ct__law_thirds : Value}
  {f__law_is_assignment : Addr} {od__law_is_assignment an__law_is_assignment : Option Addr} {sl__law_is_assignment : Array (Option Value)} {oc__law_is_assignment kv__law_is_assignment dc__law_is_assignment pm__law_is_assignment cd__law_is_assignment ct__law_is_assignment : Value}
  {f_collisions : Addr} {od_collisions an_collisions : Option Addr} {sl_collisions : Array (Option Value)} {oc_collisions kv_collisions dc_collisions pm_collisions cd_collisions ct_collisions : Value}
  {f_confusions : Addr} {od_confusions an_confusions : Option Addr} {sl_confusions : Array (Option Value)} {oc_confusions kv_confusions dc_confusions pm_confusions cd_confusions ct_confusions : Value}
  {f__law_is_neighborhood : Addr} {od__law_is_neighborhood an__law_is_neighborhood : Option Addr} {sl__law_is_neighborhood : Array (Option Value)} {oc__law_is_neighborhood kv__law_is_neighborhood dc__law_is_neighborhood pm__law_is_neighborhood cd__law_is_neighborhood ct__law_is_neighborhood : Value}
  {f_law : Addr} {od_law an_law : Option Addr} {sl_law : Array (Option Value)} {oc_law kv_law dc_law pm_law cd_law ct_law : Value}
  {t_MOST_USERS : Tok}
  (a__law_bend : PySem.W.nsIn K mainGlobals "_law_bend" = some (some (.ref f__law_bend)))
  (a__law_cell : PySem.W.nsIn K mainGlobals "_law_cell" = some (some (.ref f__law_cell)))
  (a__law_equal : PySem.W.nsIn K mainGlobals "_law_equal" = some (some (.ref f__law_equal)))
  (a__law_is_assignment : PySem.W.nsIn K mainGlobals "_law_is_assignment" = some (some (.ref f__law_is_assignment)))
  (a__law_is_integer : PySem.W.nsIn K mainGlobals "_law_is_integer" = some (some (.ref f__law_is_integer)))
  (a__law_is_neighborhood : PySem.W.nsIn K mainGlobals "_law_is_neighborhood" = some (some (.ref f__law_is_neighborhood)))
  (a__law_members : PySem.W.nsIn K mainGlobals "_law_members" = some (some (.ref f__law_members)))
  (a__law_neighborhood : PySem.W.nsIn K mainGlobals "_law_neighborhood" = some (some (.ref f__law_neighborhood)))
  (a__law_numbers : PySem.W.nsIn K mainGlobals "_law_numbers" = some (some (.ref f__law_numbers)))
  (a__law_odd : PySem.W.nsIn K mainGlobals "_law_odd" = some (some (.ref f__law_odd)))
  (a__law_thirds : PySem.W.nsIn K mainGlobals "_law_thirds" = some (some (.ref f__law_thirds)))
  (a_code_separations : PySem.W.nsIn K mainGlobals "code_separations" = some (some (.ref f_code_separations)))
  (a_collisions : PySem.W.nsIn K mainGlobals "collisions" = some (some (.ref f_collisions)))
  (a_confusions : PySem.W.nsIn K mainGlobals "confusions" = some (some (.ref f_confusions)))
  (a_is_integer : PySem.W.nsIn K mainGlobals "is_integer" = some (some (.ref f_is_integer)))
  (a_is_neighborhood : PySem.W.nsIn K mainGlobals "is_neighborhood" = some (some (.ref f_is_neighborhood)))
  (a_is_pair : PySem.W.nsIn K mainGlobals "is_pair" = some (some (.ref f_is_pair)))
  (a_near : PySem.W.nsIn K mainGlobals "near" = some (some (.ref f_near)))
  (a_thirds : PySem.W.nsIn K mainGlobals "thirds" = some (some (.ref f_thirds)))
  (a_law : PySem.W.nsIn K mainGlobals "law" = some (some (.ref f_law)))
  (l__law_neighborhood : K.lookup f__law_neighborhood = some ⟨oc__law_neighborhood, od__law_neighborhood, .func (PySem.W.fnOf "_law_neighborhood" "_law_neighborhood" (defArgs s__law_neighborhood) (defBody s__law_neighborhood) (defScope s__law_neighborhood) .none kv__law_neighborhood dc__law_neighborhood pm__law_neighborhood an__law_neighborhood cd__law_neighborhood ct__law_neighborhood), sl__law_neighborhood⟩)
  (c__law_neighborhood : PySem.W.codeIn K cd__law_neighborhood "_law_neighborhood" = true)
  (k__law_neighborhood : PySem.W.keepIn K (.ref f__law_neighborhood) = true)
  (l_near : K.lookup f_near = some ⟨oc_near, od_near, .func (PySem.W.fnOf "near" "near" (defArgs s_near) (defBody s_near) (defScope s_near) .none kv_near dc_near pm_near an_near cd_near ct_near), sl_near⟩)
  (c_near : PySem.W.codeIn K cd_near "near" = true)
  (k_near : PySem.W.keepIn K (.ref f_near) = true)
  (l_thirds : K.lookup f_thirds = some ⟨oc_thirds, od_thirds, .func (PySem.W.fnOf "thirds" "thirds" (defArgs s_thirds) (defBody s_thirds) (defScope s_thirds) .none kv_thirds dc_thirds pm_thirds an_thirds cd_thirds ct_thirds), sl_thirds⟩)
  (c_thirds : PySem.W.codeIn K cd_thirds "thirds" = true)
  (k_thirds : PySem.W.keepIn K (.ref f_thirds) = true)
  (l_code_separations : K.lookup f_code_separations = some ⟨oc_code_separations, od_code_separations, .func (PySem.W.fnOf "code_separations" "code_separations" (defArgs s_code_separations) (defBody s_code_separations) (defScope s_code_separations) .none kv_code_separations dc_code_separations pm_code_separations an_code_separations cd_code_separations ct_code_separations), sl_code_separations⟩)
  (c_code_separations : PySem.W.codeIn K cd_code_separations "code_separations" = true)
  (k_code_separations : PySem.W.keepIn K (.ref f_code_separations) = true)
  (l__law_numbers : K.lookup f__law_numbers = some ⟨oc__law_numbers, od__law_numbers, .func (PySem.W.fnOf "_law_numbers" "_law_numbers" (defArgs s__law_numbers) (defBody s__law_numbers) (defScope s__law_numbers) .none kv__law_numbers dc__law_numbers pm__law_numbers an__law_numbers cd__law_numbers ct__law_numbers), sl__law_numbers⟩)
  (c__law_numbers : PySem.W.codeIn K cd__law_numbers "_law_numbers" = true)
  (k__law_numbers : PySem.W.keepIn K (.ref f__law_numbers) = true)
  (l__law_cell : K.lookup f__law_cell = some ⟨oc__law_cell, od__law_cell, .func (PySem.W.fnOf "_law_cell" "_law_cell" (defArgs s__law_cell) (defBody s__law_cell) (defScope s__law_cell) .none kv__law_cell dc__law_cell pm__law_cell an__law_cell cd__law_cell ct__law_cell), sl__law_cell⟩)
  (c__law_cell : PySem.W.codeIn K cd__law_cell "_law_cell" = true)
  (k__law_cell : PySem.W.keepIn K (.ref f__law_cell) = true)
  (l__law_equal : K.lookup f__law_equal = some ⟨oc__law_equal, od__law_equal, .func (PySem.W.fnOf "_law_equal" "_law_equal" (defArgs s__law_equal) (defBody s__law_equal) (defScope s__law_equal) .none kv__law_equal dc__law_equal pm__law_equal an__law_equal cd__law_equal ct__law_equal), sl__law_equal⟩)
  (c__law_equal : PySem.W.codeIn K cd__law_equal "_law_equal" = true)
  (k__law_equal : PySem.W.keepIn K (.ref f__law_equal) = true)
  (l__law_members : K.lookup f__law_members = some ⟨oc__law_members, od__law_members, .func (PySem.W.fnOf "_law_members" "_law_members" (defArgs s__law_members) (defBody s__law_members) (defScope s__law_members) .none kv__law_members dc__law_members pm__law_members an__law_members cd__law_members ct__law_members), sl__law_members⟩)
  (c__law_members : PySem.W.codeIn K cd__law_members "_law_members" = true)
  (k__law_members : PySem.W.keepIn K (.ref f__law_members) = true)
  (l_is_integer : K.lookup f_is_integer = some ⟨oc_is_integer, od_is_integer, .func (PySem.W.fnOf "is_integer" "is_integer" (defArgs s_is_integer) (defBody s_is_integer) (defScope s_is_integer) .none kv_is_integer dc_is_integer pm_is_integer an_is_integer cd_is_integer ct_is_integer), sl_is_integer⟩)
  (c_is_integer : PySem.W.codeIn K cd_is_integer "is_integer" = true)
  (k_is_integer : PySem.W.keepIn K (.ref f_is_integer) = true)
  (l_is_pair : K.lookup f_is_pair = some ⟨oc_is_pair, od_is_pair, .func (PySem.W.fnOf "is_pair" "is_pair" (defArgs s_is_pair) (defBody s_is_pair) (defScope s_is_pair) .none kv_is_pair dc_is_pair pm_is_pair an_is_pair cd_is_pair ct_is_pair), sl_is_pair⟩)
  (c_is_pair : PySem.W.codeIn K cd_is_pair "is_pair" = true)
  (k_is_pair : PySem.W.keepIn K (.ref f_is_pair) = true)
  (l_is_neighborhood : K.lookup f_is_neighborhood = some ⟨oc_is_neighborhood, od_is_neighborhood, .func (PySem.W.fnOf "is_neighborhood" "is_neighborhood" (defArgs s_is_neighborhood) (defBody s_is_neighborhood) (defScope s_is_neighborhood) .none kv_is_neighborhood dc_is_neighborhood pm_is_neighborhood an_is_neighborhood cd_is_neighborhood ct_is_neighborhood), sl_is_neighborhood⟩)
  (c_is_neighborhood : PySem.W.codeIn K cd_is_neighborhood "is_neighborhood" = true)
  (k_is_neighborhood : PySem.W.keepIn K (.ref f_is_neighborhood) = true)
  (l__law_is_integer : K.lookup f__law_is_integer = some ⟨oc__law_is_integer, od__law_is_integer, .func (PySem.W.fnOf "_law_is_integer" "_law_is_integer" (defArgs s__law_is_integer) (defBody s__law_is_integer) (defScope s__law_is_integer) .none kv__law_is_integer dc__law_is_integer pm__law_is_integer an__law_is_integer cd__law_is_integer ct__law_is_integer), sl__law_is_integer⟩)
  (c__law_is_integer : PySem.W.codeIn K cd__law_is_integer "_law_is_integer" = true)
  (k__law_is_integer : PySem.W.keepIn K (.ref f__law_is_integer) = true)
  (l__law_odd : K.lookup f__law_odd = some ⟨oc__law_odd, od__law_odd, .func (PySem.W.fnOf "_law_odd" "_law_odd" (defArgs s__law_odd) (defBody s__law_odd) (defScope s__law_odd) .none kv__law_odd dc__law_odd pm__law_odd an__law_odd cd__law_odd ct__law_odd), sl__law_odd⟩)
  (c__law_odd : PySem.W.codeIn K cd__law_odd "_law_odd" = true)
  (k__law_odd : PySem.W.keepIn K (.ref f__law_odd) = true)
  (l__law_bend : K.lookup f__law_bend = some ⟨oc__law_bend, od__law_bend, .func (PySem.W.fnOf "_law_bend" "_law_bend" (defArgs s__law_bend) (defBody s__law_bend) (defScope s__law_bend) .none kv__law_bend dc__law_bend pm__law_bend an__law_bend cd__law_bend ct__law_bend), sl__law_bend⟩)
  (c__law_bend : PySem.W.codeIn K cd__law_bend "_law_bend" = true)
  (k__law_bend : PySem.W.keepIn K (.ref f__law_bend) = true)
  (l__law_thirds : K.lookup f__law_thirds = some ⟨oc__law_thirds, od__law_thirds, .func (PySem.W.fnOf "_law_thirds" "_law_thirds" (defArgs s__law_thirds) (defBody s__law_thirds) (defScope s__law_thirds) .none kv__law_thirds dc__law_thirds pm__law_thirds an__law_thirds cd__law_thirds ct__law_thirds), sl__law_thirds⟩)
  (c__law_thirds : PySem.W.codeIn K cd__law_thirds "_law_thirds" = true)
  (k__law_thirds : PySem.W.keepIn K (.ref f__law_thirds) = true)
  (l__law_is_assignment : K.lookup f__law_is_assignment = some ⟨oc__law_is_assignment, od__law_is_assignment, .func (PySem.W.fnOf "_law_is_assignment" "_law_is_assignment" (defArgs s__law_is_assignment) (defBody s__law_is_assignment) (defScope s__law_is_assignment) .none kv__law_is_assignment dc__law_is_assignment pm__law_is_assignment an__law_is_assignment cd__law_is_assignment ct__law_is_assignment), sl__law_is_assignment⟩)
  (c__law_is_assignment : PySem.W.codeIn K cd__law_is_assignment "_law_is_assignment" = true)
  (k__law_is_assignment : PySem.W.keepIn K (.ref f__law_is_assignment) = true)
  (l_collisions : K.lookup f_collisions = some ⟨oc_collisions, od_collisions, .func (PySem.W.fnOf "collisions" "collisions" (defArgs s_collisions) (defBody s_collisions) (defScope s_collisions) .none kv_collisions dc_collisions pm_collisions an_collisions cd_collisions ct_collisions), sl_collisions⟩)
  (c_collisions : PySem.W.codeIn K cd_collisions "collisions" = true)
  (k_collisions : PySem.W.keepIn K (.ref f_collisions) = true)
  (l_confusions : K.lookup f_confusions = some ⟨oc_confusions, od_confusions, .func (PySem.W.fnOf "confusions" "confusions" (defArgs s_confusions) (defBody s_confusions) (defScope s_confusions) .none kv_confusions dc_confusions pm_confusions an_confusions cd_confusions ct_confusions), sl_confusions⟩)
  (c_confusions : PySem.W.codeIn K cd_confusions "confusions" = true)
  (k_confusions : PySem.W.keepIn K (.ref f_confusions) = true)
  (l__law_is_neighborhood : K.lookup f__law_is_neighborhood = some ⟨oc__law_is_neighborhood, od__law_is_neighborhood, .func (PySem.W.fnOf "_law_is_neighborhood" "_law_is_neighborhood" (defArgs s__law_is_neighborhood) (defBody s__law_is_neighborhood) (defScope s__law_is_neighborhood) .none kv__law_is_neighborhood dc__law_is_neighborhood pm__law_is_neighborhood an__law_is_neighborhood cd__law_is_neighborhood ct__law_is_neighborhood), sl__law_is_neighborhood⟩)
  (c__law_is_neighborhood : PySem.W.codeIn K cd__law_is_neighborhood "_law_is_neighborhood" = true)
  (k__law_is_neighborhood : PySem.W.keepIn K (.ref f__law_is_neighborhood) = true)
  (l_law : K.lookup f_law = some ⟨oc_law, od_law, .func (PySem.W.fnOf "law" "law" (defArgs s_law) (defBody s_law) (defScope s_law) .none kv_law dc_law pm_law an_law cd_law ct_law), sl_law⟩)
  (c_law : PySem.W.codeIn K cd_law "law" = true)
  (k_law : PySem.W.keepIn K (.ref f_law) = true)
  (z_abs : PySem.W.nsIn K mainGlobals "abs" = some none)
  (z_all : PySem.W.nsIn K mainGlobals "all" = some none)
  (z_bool : PySem.W.nsIn K mainGlobals "bool" = some none)
  (z_dict : PySem.W.nsIn K mainGlobals "dict" = some none)
  (z_int : PySem.W.nsIn K mainGlobals "int" = some none)
  (z_isinstance : PySem.W.nsIn K mainGlobals "isinstance" = some none)
  (z_len : PySem.W.nsIn K mainGlobals "len" = some none)
  (z_list : PySem.W.nsIn K mainGlobals "list" = some none)
  (z_max : PySem.W.nsIn K mainGlobals "max" = some none)
  (z_min : PySem.W.nsIn K mainGlobals "min" = some none)
  (z_range : PySem.W.nsIn K mainGlobals "range" = some none)
  (z_sorted : PySem.W.nsIn K mainGlobals "sorted" = some none)
  (z_str : PySem.W.nsIn K mainGlobals "str" = some none)
  (z_tuple : PySem.W.nsIn K mainGlobals "tuple" = some none)
  (z_zip : PySem.W.nsIn K mainGlobals "zip" = some none)
  (q_MOST_USERS : PySem.W.nsIn K mainGlobals "MOST_USERS" = some (some (.int (24) t_MOST_USERS))) :
    ∃ fd : FuncData, (∀ (s : Shared) (v : Value), BindsTo s fd ⟨[v], []⟩ [("script", v)]) ∧ ∀ base : Heap, K.In base → base.Ns mainGlobals mg → FnOk l.prog w K mg base (L2.CX l.prog w) 43 fa fd ["script"] (spEnd K) := by
  have e := hfa.symm.trans (PySem.W.mg_of X G a_law)
  cases e
  refine ⟨PySem.W.fnOf "law" "law" (defArgs s_law) (defBody s_law) (defScope s_law) .none kv_law dc_law pm_law an_law cd_law ct_law, fun s v => .of_eq rfl, fun base _ _ => ?_⟩
  exact law_end (ok_law (txt_mk X G a__law_bend a__law_cell a__law_equal a__law_is_assignment a__law_is_integer a__law_is_neighborhood a__law_members a__law_neighborhood a__law_numbers a__law_odd a__law_thirds a_code_separations a_collisions a_confusions a_is_integer a_is_neighborhood a_is_pair a_near a_thirds a_law l__law_neighborhood c__law_neighborhood k__law_neighborhood l_near c_near k_near l_thirds c_thirds k_thirds l_code_separations c_code_separations k_code_separations l__law_numbers c__law_numbers k__law_numbers l__law_cell c__law_cell k__law_cell l__law_equal c__law_equal k__law_equal l__law_members c__law_members k__law_members l_is_integer c_is_integer k_is_integer l_is_pair c_is_pair k_is_pair l_is_neighborhood c_is_neighborhood k_is_neighborhood l__law_is_integer c__law_is_integer k__law_is_integer l__law_odd c__law_odd k__law_odd l__law_bend c__law_bend k__law_bend l__law_thirds c__law_thirds k__law_thirds l__law_is_assignment c__law_is_assignment k__law_is_assignment l_collisions c_collisions k_collisions l_confusions c_confusions k_confusions l__law_is_neighborhood c__law_is_neighborhood k__law_is_neighborhood l_law c_law k_law z_abs z_all z_bool z_dict z_int z_isinstance z_len z_list z_max z_min z_range z_sorted z_str z_tuple z_zip q_MOST_USERS)) hF
end TT
end

section
set_option Elab.async false
set_option linter.all false
/-- the mathematics -/
theorem TT.law_math : ∀ ns : List Int, ns.length ≤ 63 → TT.d_law [.kls (ns.map .int)] = .ok (.fz (.bl true)) [] := fun ns h => TT.law_is ns h
open PySem PySem.W PyProof.Rows
set_option maxRecDepth 100000 in
set_option maxHeartbeats 0 in
theorem PySem.Challenge.cw_airwave_k60_codes_that_meet_holds : PySem.Challenge.rw_airwave_k60_codes_that_meet.Holds := by
  w_on; o_law; k_head; (case hw => w_witness2)
  k_fill
  refine L2.walk_of (l := PySem.Challenge.rw_airwave_k60_codes_that_meet) (n := 63) (k := 43) (x := "script") (CX := fun w => L2.CX PySem.Challenge.rw_airwave_k60_codes_that_meet.prog w) (sp := fun w => DL.spEnd _) rfl (by decide) rfl ⟨rfl, by decide, by decide⟩ (fun w h Y => PySem.W.kIn_of Y) ?F (fun _ _ a ns hl _ hS => ⟨a, ns, rfl, hS, hl, fun _ => rfl⟩) (fun _ _ _ _ _ h => DL.cx_end h)
  case F =>
    intro w mg fa h KX G hmg
    refine' TT.all_mk TT.law_math KX G hmg ?a__law_bend ?a__law_cell ?a__law_equal ?a__law_is_assignment ?a__law_is_integer ?a__law_is_neighborhood ?a__law_members ?a__law_neighborhood ?a__law_numbers ?a__law_odd ?a__law_thirds ?a_code_separations ?a_collisions ?a_confusions ?a_is_integer ?a_is_neighborhood ?a_is_pair ?a_near ?a_thirds ?a_law ?l__law_neighborhood ?c__law_neighborhood ?k__law_neighborhood ?l_near ?c_near ?k_near ?l_thirds ?c_thirds ?k_thirds ?l_code_separations ?c_code_separations ?k_code_separations ?l__law_numbers ?c__law_numbers ?k__law_numbers ?l__law_cell ?c__law_cell ?k__law_cell ?l__law_equal ?c__law_equal ?k__law_equal ?l__law_members ?c__law_members ?k__law_members ?l_is_integer ?c_is_integer ?k_is_integer ?l_is_pair ?c_is_pair ?k_is_pair ?l_is_neighborhood ?c_is_neighborhood ?k_is_neighborhood ?l__law_is_integer ?c__law_is_integer ?k__law_is_integer ?l__law_odd ?c__law_odd ?k__law_odd ?l__law_bend ?c__law_bend ?k__law_bend ?l__law_thirds ?c__law_thirds ?k__law_thirds ?l__law_is_assignment ?c__law_is_assignment ?k__law_is_assignment ?l_collisions ?c_collisions ?k_collisions ?l_confusions ?c_confusions ?k_confusions ?l__law_is_neighborhood ?c__law_is_neighborhood ?k__law_is_neighborhood ?l_law ?c_law ?k_law ?z_abs ?z_all ?z_bool ?z_dict ?z_int ?z_isinstance ?z_len ?z_list ?z_max ?z_min ?z_range ?z_sorted ?z_str ?z_tuple ?z_zip ?q_MOST_USERS
    (case a__law_bend => k_is); (case a__law_cell => k_is); (case a__law_equal => k_is); (case a__law_is_assignment => k_is); (case a__law_is_integer => k_is); (case a__law_is_neighborhood => k_is); (case a__law_members => k_is); (case a__law_neighborhood => k_is); (case a__law_numbers => k_is); (case a__law_odd => k_is); (case a__law_thirds => k_is); (case a_code_separations => k_is); (case a_collisions => k_is); (case a_confusions => k_is); (case a_is_integer => k_is); (case a_is_neighborhood => k_is); (case a_is_pair => k_is); (case a_near => k_is); (case a_thirds => k_is); (case a_law => k_is); (case l__law_neighborhood => k_is); (case c__law_neighborhood => k_is); (case k__law_neighborhood => k_is); (case l_near => k_is); (case c_near => k_is); (case k_near => k_is); (case l_thirds => k_is); (case c_thirds => k_is); (case k_thirds => k_is); (case l_code_separations => k_is); (case c_code_separations => k_is); (case k_code_separations => k_is); (case l__law_numbers => k_is); (case c__law_numbers => k_is); (case k__law_numbers => k_is); (case l__law_cell => k_is); (case c__law_cell => k_is); (case k__law_cell => k_is); (case l__law_equal => k_is); (case c__law_equal => k_is); (case k__law_equal => k_is); (case l__law_members => k_is); (case c__law_members => k_is); (case k__law_members => k_is); (case l_is_integer => k_is); (case c_is_integer => k_is); (case k_is_integer => k_is); (case l_is_pair => k_is); (case c_is_pair => k_is); (case k_is_pair => k_is); (case l_is_neighborhood => k_is); (case c_is_neighborhood => k_is); (case k_is_neighborhood => k_is); (case l__law_is_integer => k_is); (case c__law_is_integer => k_is); (case k__law_is_integer => k_is); (case l__law_odd => k_is); (case c__law_odd => k_is); (case k__law_odd => k_is); (case l__law_bend => k_is); (case c__law_bend => k_is); (case k__law_bend => k_is); (case l__law_thirds => k_is); (case c__law_thirds => k_is); (case k__law_thirds => k_is); (case l__law_is_assignment => k_is); (case c__law_is_assignment => k_is); (case k__law_is_assignment => k_is); (case l_collisions => k_is); (case c_collisions => k_is); (case k_collisions => k_is); (case l_confusions => k_is); (case c_confusions => k_is); (case k_confusions => k_is); (case l__law_is_neighborhood => k_is); (case c__law_is_neighborhood => k_is); (case k__law_is_neighborhood => k_is); (case l_law => k_is); (case c_law => k_is); (case k_law => k_is); (case z_abs => k_is); (case z_all => k_is); (case z_bool => k_is); (case z_dict => k_is); (case z_int => k_is); (case z_isinstance => k_is); (case z_len => k_is); (case z_list => k_is); (case z_max => k_is); (case z_min => k_is); (case z_range => k_is); (case z_sorted => k_is); (case z_str => k_is); (case z_tuple => k_is); (case z_zip => k_is); (case q_MOST_USERS => k_is)
end
