import PyProof.Rows.All
import Wide.All
import OpenK.AllK
import Wide.FinOn
import KE.KTryDeep
import KE.KIsAll
import PyProof.ExcArgsOwn
import KE.KIntText
import PySem.Challenge.RW_uf060011_09
set_option Elab.async false
set_option autoImplicit false
set_option genInjectivity false
set_option genSizeOfSpec false
set_option linter.unusedVariables false
namespace Mine
theorem lmLe {α β : Type} {f : α → β} {l : List α} {c : Nat} (h : l.length ≤ c) : (l.map f).length ≤ c := by rw [List.length_map]; exact h
theorem lmGe {α β : Type} {f : α → β} {l : List α} {c : Nat} (h : c ≤ l.length) : c ≤ (l.map f).length := by rw [List.length_map]; exact h
theorem ltAdd {k r n : Nat} (h : k + (r + 1) = n) : k < n := h ▸ Nat.lt_add_of_pos_right (Nat.succ_pos _)
end Mine
local macro_rules | `(tactic| decreasing_trivial) => `(tactic| first | with_reducible (first | assumption | exact Int.natCast_nonneg _ | exact Nat.le_refl _ | exact Int.le_refl _ | exact Int.ofNat_le.mpr (by assumption) | exact Int.ofNat_lt.mpr (by assumption) | exact Nat.le_trans (by assumption) (by decide) | exact Mine.lmLe (Nat.le_trans (by assumption) (by decide)) | exact Nat.le_trans (Nat.le_of_lt (by assumption)) (Nat.le_trans (by assumption) (by decide)) | exact Nat.le_trans (Nat.le_trans (by assumption) (by assumption)) (by decide) | exact Mine.lmLe (Nat.le_trans (Nat.le_trans (by assumption) (by assumption)) (by decide)) | exact Nat.le_of_lt (by assumption) | exact Nat.lt_of_lt_of_le (by assumption) (by assumption) | exact Nat.le_trans (by assumption) (by assumption) | exact Mine.lmGe (by assumption) | exact Mine.lmGe (Nat.le_trans (by assumption) (by assumption)) | exact Nat.ne_of_lt (by assumption) | exact Nat.ne_of_gt (by assumption) | exact Nat.succ_ne_self _ | exact (Nat.succ_ne_self _).symm | exact Nat.le_add_right _ _ | exact Int.not_lt.mpr (by assumption) | exact Int.not_lt.mpr (Int.ofNat_le.mpr (by assumption)) | exact (Nat.succ_add_eq_add_succ _ _).trans (by assumption) | exact Mine.ltAdd (by assumption) | exact Int.lt_of_lt_of_le (by assumption) (by assumption) | exact Int.le_of_lt (by assumption) | exact Int.le_trans (by assumption) (by assumption)) | omega)
/-! ## part C1 -/
namespace Mine
open PySem

/-! the small language -/
inductive AV where
  | none | bool (b : Bool) | int (i : Int) | ref (i : Nat) | str (x : Str)
inductive AObj where
  | list (mt : Bool) (xs : List AV)
  | tup (xs : List AV)
  | book (a b c : AV)
noncomputable abbrev AH := List AObj
noncomputable abbrev Rho := List (Option AV)
inductive Res (α : Type) where
  | ok (a : α) (H : AH)
  | stuck

noncomputable def Res.bind {α β : Type} : Res α → (α → AH → Res β) → Res β
  | .ok a H, f => f a H
  | .stuck, _ => .stuck

inductive BOp where
  | add | sub | mul | fdiv | mod | pow
inductive COp where
  | eq | ne | lt | le | gt | ge | is_
inductive Bi where
  | len | min | max | sum | sorted | abs
inductive Mt where
  | append | extend | index
inductive Ty where
  | int_ | bool_ | list_ | str_ | tup_
inductive Sm where
  | startswith | split | join

mutual
inductive ME where
  | cN | cB (b : Bool) | cI (i : Int) | cS (x : Str)
  | var (x : Nat)
  | glob (x : Str)
  | bin (op : BOp) (a b : ME)
  | neg (a : ME)
  | not_ (a : ME)
  | cmp (op : COp) (a b : ME)
  | and_ (a b : ME)
  | or_ (a b : ME)
  | idx (a i : ME)
  | sl (a l h : ME)
  | slU (a h : ME)
  | slF (a l : ME)
  | attr (a : ME) (n : Nat)
  | lst (es : List ME)
  | tup (es : List ME)
  | bk (es : List ME)
  | lcomp (it : MI) (elt : ME)
  | lcompIf (it : MI) (c elt : ME)
  | listOf (it : MI)
  | call (f : Str) (es : List ME)
  | bi (b : Bi) (es : List ME)
  | rng (es : List ME)
  | meth (m : Mt) (o e : ME)
  | isi (a : ME) (t : Ty)
  | toInt (a : ME)
  | pop (o : ME)
  | str_ (a : ME)
  | tupOf (a : ME)
  | cin (neg : Bool) (a b : ME)
  | smeth (k : Sm) (o e : ME)
  | bad
inductive MI where
  | seq (e : ME)
  | rng (es : List ME)
end

inductive MS where
  | assign (x : Nat) (e : ME)
  | setItem (o i v : ME)
  | expr (e : ME)
  | ret (e : ME)
  | ite (c : ME) (a b : List MS)
  | for_ (x : Nat) (it : MI) (body : List MS)
  | raise (c : Str)
  | bad

structure AFun where
  np : Nat
  ns : Nat
  body : List MS

structure Pg where
  fns : List (Str × AFun)
  cst : List (Str × AV)
  dct : List (Str × List (Str × Int))

/-! values -/
noncomputable def sLine : Nat := 16777216
noncomputable def ixLine : Int := 9223372036854775808

noncomputable def alloc (o : AObj) (H : AH) : Res AV := .ok (.ref H.length) (H ++ [o])

/-- the value, if it is there -/
noncomputable def optR {α β : Type} (o : Option α) (k : α → Res β) : Res β := match o with
  | some a => k a
  | none => .stuck
noncomputable def chk {β : Type} (c : Bool) (r : Res β) : Res β := match c with
  | true => r
  | false => .stuck
noncomputable def AV.b? : AV → Option Bool
  | .bool b => some b
  | .none => Option.none
  | .int _ => Option.none
  | .ref _ => Option.none
  | .str _ => Option.none
noncomputable def AV.i? : AV → Option Int
  | .int i => some i
  | .none => Option.none
  | .bool _ => Option.none
  | .ref _ => Option.none
  | .str _ => Option.none
noncomputable def AV.s? : AV → Option Str
  | .str x => some x
  | .none => Option.none
  | .bool _ => Option.none
  | .int _ => Option.none
  | .ref _ => Option.none
/-- a text, or something else -/
noncomputable def orS {α : Type} (v : AV) (k : Str → α) (z : α) : α := match v.s? with
  | some x => k x
  | none => z
noncomputable def AV.r? : AV → Option Nat
  | .ref i => some i
  | .none => Option.none
  | .bool _ => Option.none
  | .int _ => Option.none
  | .str _ => Option.none
noncomputable def AObj.l? : AObj → Option (List AV)
  | .list _ xs => some xs
  | .tup _ => none
  | .book .. => none
noncomputable def AObj.m? : AObj → Option (List AV)
  | .list mt xs => if mt then some xs else none
  | .tup _ => none
  | .book .. => none
noncomputable def AObj.t? : AObj → Option (List AV)
  | .list .. => none
  | .tup xs => some xs
  | .book .. => none
noncomputable def AObj.its? : AObj → Option (List AV)
  | .list _ xs => some xs
  | .tup xs => some xs
  | .book .. => none
noncomputable def AObj.bk? : AObj → Option (AV × AV × AV)
  | .list .. => none
  | .tup _ => none
  | .book a b c => some (a, b, c)
noncomputable def at? (v : AV) (H : AH) : Option AObj := v.r?.bind (H[·]?)
noncomputable def items (v : AV) (H : AH) : Option (List AV) := (at? v H).bind AObj.its?
noncomputable def lstOf (v : AV) (H : AH) : Option (List AV) := (at? v H).bind AObj.l?
noncomputable def truth (v : AV) (H : AH) : Res Bool := optR v.b? fun b => .ok b H

noncomputable def mulOk (a b : Int) : Bool := decide (a.natAbs < 2 ^ 64) || decide (b.natAbs < 2 ^ 64) || (decide (a.natAbs < 2 ^ 1000) && decide (b.natAbs < 2 ^ 1000))
noncomputable def divOk (y : Int) : Bool := decide (y ≠ 0) && decide (y.natAbs < 2 ^ 1000)
noncomputable def powOk (x y : Int) : Bool := decide (0 ≤ y ∧ y ≤ 1000000) && decide (x.natAbs < 2 ^ 64)
noncomputable def one? (xs : List AV) : Option AV := match xs with
  | [] => none
  | x :: r => if r.isEmpty then some x else none
noncomputable def int2 (a b : AV) (k : Int → Int → Res AV) : Res AV := optR a.i? fun x => optR b.i? fun y => k x y

noncomputable def addA (a b : AV) (H : AH) : Res AV := match a with
  | .int x => optR b.i? fun y => .ok (.int (x + y)) H
  | .ref i => optR (lstOf (.ref i) H) fun xs => optR (lstOf b H) fun ys => chk (decide (xs.length + ys.length ≤ sLine)) (alloc (.list true (xs ++ ys)) H)
  | .none => .stuck
  | .bool _ => .stuck
  | .str x => optR b.s? fun y => chk (decide (x.length + y.length ≤ sLine)) (.ok (.str (x ++ y)) H)
noncomputable def mulA (a b : AV) (H : AH) : Res AV := optR b.i? fun y => match a with
  | .int x => chk (mulOk x y) (.ok (.int (x * y)) H)
  | .ref i => optR ((lstOf (.ref i) H).bind one?) fun x => chk (decide (0 ≤ y ∧ y ≤ 1000000)) (alloc (.list true (List.replicate y.toNat x)) H)
  | .none => .stuck
  | .bool _ => .stuck
  | .str _ => .stuck
noncomputable def binA (op : BOp) (a b : AV) (H : AH) : Res AV := match op with
  | .add => addA a b H
  | .sub => int2 a b fun x y => .ok (.int (x - y)) H
  | .mul => mulA a b H
  | .fdiv => int2 a b fun x y => chk (divOk y) (.ok (.int (x.fdiv y)) H)
  | .mod => int2 a b fun x y => chk (divOk y) (.ok (.int (x.fmod y)) H)
  | .pow => int2 a b fun x y => chk (powOk x y) (.ok (.int (x ^ y.toNat)) H)

noncomputable def optAll {α β : Type} (f : α → Option β) : List α → Option (List β)
  | [] => some []
  | a :: r => (f a).bind fun x => (optAll f r).map (x :: ·)

noncomputable def intsOf (xs : List AV) : Option (List Int) := optAll AV.i? xs
/-- a value as data -/
noncomputable def datO (f : AV → Option PyData) (o : AObj) : Option PyData := match o with
  | .list _ xs => (optAll f xs).map .list
  | .tup xs => (optAll f xs).map .tuple
  | .book .. => none
noncomputable def datA : Nat → AH → AV → Option PyData
  | 0, _, _ => none
  | d + 1, H, v => match v with
    | .none => some .none
    | .bool b => some (.bool b)
    | .int i => some (.int i)
    | .ref i => (H[i]?).bind (datO (datA d H))
    | .str x => if PyData.strOk x then some (.str x) else none
noncomputable def eqA (H : AH) (a b : AV) : Option Bool := (datA 5 H a).bind fun x => (datA 5 H b).map (PyData.eqv x)

noncomputable def isNone : AV → Bool
  | .none => true
  | .bool _ => false
  | .int _ => false
  | .ref _ => false
  | .str _ => false
noncomputable def cmpI (a b : AV) (H : AH) (k : Int → Int → Bool) : Res AV := int2 a b fun x y => .ok (.bool (k x y)) H
noncomputable def cmpA (op : COp) (a b : AV) (H : AH) : Res AV := match op with
  | .lt => cmpI a b H fun x y => decide (x < y)
  | .le => cmpI a b H fun x y => decide (x ≤ y)
  | .gt => cmpI a b H fun x y => decide (y < x)
  | .ge => cmpI a b H fun x y => decide (y ≤ x)
  | .eq => optR (eqA H a b) fun r => .ok (.bool r) H
  | .ne => optR (eqA H a b) fun r => .ok (.bool (!r)) H
  | .is_ => chk (isNone b) (.ok (.bool (isNone a)) H)

noncomputable def getI (xs : List AV) (i : Int) : Option AV :=
  if 0 ≤ i then (if i < ixLine then xs[i.toNat]? else none)
  else if -(xs.length : Int) ≤ i ∧ xs.length < 1000000000 then xs[(i + xs.length).toNat]? else none
noncomputable def sgAt (x : Str) (k : Int) : Option Nat := if 0 ≤ k ∧ k < ixLine then x.cps[k.toNat]? else none
noncomputable def idxA (a i : AV) (H : AH) : Res AV := optR i.i? fun k => orS a (fun x => optR (sgAt x k) fun c => .ok (.str ⟨#[c]⟩) H) (optR ((items a H).bind (getI · k)) fun v => .ok v H)
noncomputable def tupAt (v : AV) (H : AH) : Option (List AV) := (at? v H).bind AObj.t?
noncomputable def sliceA (a lo hi : AV) (H : AH) : Res AV := optR (lstOf a H) fun xs => int2 lo hi fun l h =>
  chk (decide (0 ≤ l ∧ l ≤ h ∧ h ≤ xs.length ∧ xs.length ≤ sLine)) (alloc (.list true ((xs.drop l.toNat).take (h.toNat - l.toNat))) H)
noncomputable def sliceU (a hi : AV) (H : AH) : Res AV := orS a (fun x => optR hi.i? fun h => chk (decide (0 ≤ h ∧ x.length ≤ sLine)) (.ok (.str (Txt.slice x none (some h))) H)) <| optR (lstOf a H) fun xs => optR hi.i? fun h => chk (decide (0 ≤ h ∧ h ≤ xs.length ∧ xs.length ≤ sLine)) (alloc (.list true (xs.take h.toNat)) H)
noncomputable def sliceT (a lo : AV) (H : AH) (z : Res AV) : Res AV := match tupAt a H with
  | some xs => optR lo.i? fun l => chk (decide (1 ≤ l ∧ l ≤ xs.length ∧ xs.length ≤ sLine)) (alloc (.tup (xs.drop l.toNat)) H)
  | none => z
noncomputable def sliceF (a lo : AV) (H : AH) : Res AV := orS a (fun x => optR lo.i? fun l => chk (decide (0 ≤ l ∧ x.length ≤ sLine)) (.ok (.str (Txt.slice x (some l) none)) H)) <| sliceT a lo H <| optR (lstOf a H) fun xs => optR lo.i? fun l => chk (decide (0 ≤ l ∧ l ≤ xs.length ∧ xs.length ≤ sLine)) (alloc (.list true (xs.drop l.toNat)) H)
noncomputable def pick3 (n : Nat) (p : AV × AV × AV) : AV := match n with
  | 0 => p.1
  | 1 => p.2.1
  | _ + 2 => p.2.2
noncomputable def attrA (a : AV) (n : Nat) (H : AH) : Res AV := optR ((at? a H).bind AObj.bk?) fun p => .ok (pick3 n p) H

noncomputable def int2L (vs : List AV) (k : Int → Int → Res AV) : Res AV := match vs with
  | [] => .stuck
  | a :: r => optR (one? r) fun b => int2 a b k
noncomputable def numsOf (v : AV) (H : AH) : Option (List Int) := (lstOf v H).bind intsOf
noncomputable def bestA (f : List Int → Option Int) (vs : List AV) (H : AH) (two : Res AV) : Res AV := match one? vs with
  | some v => optR ((numsOf v H).bind f) fun n => .ok (.int n) H
  | none => two
noncomputable def sortL (ns : List Int) : List Int := ns.mergeSort fun a b => decide (a ≤ b)
noncomputable def biA (b : Bi) (vs : List AV) (H : AH) : Res AV := match b with
  | .len => optR (one? vs) fun v => orS v (fun x => chk (decide (x.length ≤ sLine)) (.ok (.int x.length) H)) (optR (items v H) fun xs => chk (decide (xs.length ≤ 1000000000)) (.ok (.int xs.length) H))
  | .min => bestA List.min? vs H (int2L vs fun x y => .ok (.int (if y < x then y else x)) H)
  | .max => bestA List.max? vs H (int2L vs fun x y => .ok (.int (if x < y then y else x)) H)
  | .sum => optR ((one? vs).bind fun v => (lstOf v H).bind intsOf) fun ns => .ok (.int ns.sum) H
  | .sorted => optR ((one? vs).bind (numsOf · H)) fun ns => chk (decide (ns.length < 64)) (alloc (.list true ((sortL ns).map .int)) H)
  | .abs => optR ((one? vs).bind AV.i?) fun n => .ok (.int (if n < 0 then -n else n)) H

noncomputable def upto (a b : Int) : Option (List Int) := if -1000000000000000 ≤ a ∧ a ≤ 1000000000000000 ∧ -1000000000000000 ≤ b ∧ b ≤ 1000000000000000 then some ((List.range (b - a).toNat).map fun (k : Nat) => a + (k : Int)) else none
noncomputable def stepTo (a b c : Int) : Option (List Int) := if -1000000000000000 ≤ a ∧ a ≤ 1000000000000000 ∧ -1000000000000000 ≤ b ∧ b ≤ 1000000000000000 ∧ 1 ≤ c ∧ c ≤ 1000 then some ((List.range (if a < b then (b - a - 1) / c + 1 else 0).toNat).map fun (k : Nat) => a + (k : Int) * c) else none
noncomputable def rangeL (vs : List AV) : Option (List Int) := match vs with
  | [] => none
  | a :: r => match r with
    | [] => a.i?.bind (upto 0)
    | b :: q => match q with
      | [] => a.i?.bind fun x => b.i?.bind (upto x)
      | c :: z => if z.isEmpty then a.i?.bind fun x => b.i?.bind fun y => c.i?.bind (stepTo x y) else none

noncomputable def setObj (i : Nat) (o : AObj) (H : AH) : AH := H.set i o
noncomputable def isLst (x : AV) (H : AH) : Bool := (lstOf x H).isSome
noncomputable def mutAt (o : AV) (H : AH) (k : Nat → List AV → Res AV) : Res AV := optR o.r? fun i => optR ((H[i]?).bind AObj.m?) fun xs => k i xs
noncomputable def methA (m : Mt) (o v : AV) (H : AH) : Res AV := mutAt o H fun i xs => match m with
  | .append => chk (decide (xs.length ≤ sLine)) (.ok .none (setObj i (.list true (xs ++ [v])) H))
  | .extend => optR v.r? fun j => optR (lstOf v H) fun ys => chk (decide (i ≠ j ∧ xs.length + ys.length ≤ sLine)) (.ok .none (setObj i (.list true (xs ++ ys)) H))
  | .index => optR v.i? fun k => optR (intsOf xs) fun ns => chk (decide (k ∈ ns ∧ ns.length ≤ sLine)) (.ok (.int (ns.idxOf k)) H)
noncomputable def setItemA (o i v : AV) (H : AH) : Res AV := mutAt o H fun a xs => optR i.i? fun k =>
  chk (decide (0 ≤ k ∧ k < xs.length ∧ k < ixLine)) (.ok .none (setObj a (.list true (xs.set k.toNat v)) H))

noncomputable def AObj.ty (t : Ty) : AObj → Option Bool
  | .list .. => some (match t with | .int_ => false | .bool_ => false | .list_ => true | .str_ => false | .tup_ => false)
  | .tup _ => some (match t with | .int_ => false | .bool_ => false | .list_ => false | .str_ => false | .tup_ => true)
  | .book .. => none
noncomputable def tyA (v : AV) (H : AH) (t : Ty) : Option Bool := match v with
  | .none => some false
  | .bool _ => some (match t with | .int_ => true | .bool_ => true | .list_ => false | .str_ => false | .tup_ => false)
  | .int _ => some (match t with | .int_ => true | .bool_ => false | .list_ => false | .str_ => false | .tup_ => false)
  | .ref i => (H[i]?).bind (AObj.ty t)
  | .str _ => some (match t with | .int_ => false | .bool_ => false | .list_ => false | .str_ => true | .tup_ => false)
noncomputable def isiA (v : AV) (t : Ty) (H : AH) : Res AV := optR (tyA v H t) fun b => .ok (.bool b) H

/-- what is walked by a for: a list (false) or a tuple (true), or ints -/
inductive It where
  | seq (t : Bool) (i : Nat) (n : Nat)
  | fix (xs : List AV)
  | txt (x : Str)
/-- the signs of a text, each a text -/
noncomputable def sgs (x : Str) : List AV := x.cps.toList.map fun c => .str ⟨#[c]⟩
noncomputable def It.len : It → Nat
  | .seq _ _ n => n
  | .fix xs => xs.length
  | .txt x => x.cps.size
noncomputable def fits (n : Nat) (xs : List AV) : Option (List AV) := if xs.length = n then some xs else none
noncomputable def AObj.seq? (t : Bool) (o : AObj) : Option (List AV) := match t with
  | true => o.t?
  | false => o.l?
noncomputable def AObj.isT : AObj → Bool
  | .list .. => false
  | .tup _ => true
  | .book .. => false
noncomputable def It.all (it : It) (H : AH) : Option (List AV) := match it with
  | .fix xs => some xs
  | .txt x => some (sgs x)
  | .seq t i n => ((H[i]?).bind (AObj.seq? t)).bind (fits n)
noncomputable def itOf (v : AV) (H : AH) : Res It := orS v (fun x => chk (decide (x.cps.size ≤ sLine) && x.cps.all (· < 128)) (.ok (.txt x) H)) <| optR v.r? fun i => optR (H[i]?) fun o => optR o.its? fun xs => chk (decide (xs.length ≤ sLine)) (.ok (.seq o.isT i xs.length) H)
noncomputable def itRange (vs : List AV) (H : AH) : Res It := optR (rangeL vs) fun ns => chk (decide (ns.length ≤ sLine)) (.ok (.fix (ns.map .int)) H)

inductive Fl where
  | next (ρ : Rho)
  | ret (v : AV)

noncomputable def loopA (it : It) (x : Nat) (run : Rho → AH → Res Fl) : Nat → Nat → Rho → AH → Res Fl
  | 0, _, ρ, H => optR (it.all H) fun _ => .ok (.next ρ) H
  | r + 1, k, ρ, H => optR ((it.all H).bind (·[k]?)) fun v => (run (ρ.set x (some v)) H).bind fun fl H' => match fl with
      | .next ρ' => loopA it x run r (k + 1) ρ' H'
      | .ret v => .ok (.ret v) H'

noncomputable def compA (it : It) (ρ : Rho) (cond : Rho → AH → Res Bool) (run : Rho → AH → Res AV) : Nat → Nat → List AV → AH → Res (List AV)
  | 0, _, acc, H => optR (it.all H) fun _ => .ok acc H
  | r + 1, k, acc, H => optR ((it.all H).bind (·[k]?)) fun v => (cond (ρ ++ [some v]) H).bind fun b H₁ => match b with
    | true => (run (ρ ++ [some v]) H₁).bind fun y H₂ => compA it ρ cond run r (k + 1) (acc ++ [y]) H₂
    | false => compA it ρ cond run r (k + 1) acc H₁
noncomputable def noCond : Rho → AH → Res Bool := fun _ H => .ok true H

/-- list(it) : the items as they are -/
noncomputable def It.noT : It → Bool
  | .seq .. => true
  | .fix _ => true
  | .txt _ => false
noncomputable def listOfA (it : It) (H : AH) : Res AV := chk it.noT <| optR (it.all H) fun xs => chk (decide (xs.length ≤ sLine)) (alloc (.list true xs) H)

noncomputable abbrev Calls := Str → List AV → AH → Res AV
noncomputable def negA (x : AV) (H : AH) : Res AV := optR x.i? fun i => .ok (.int (-i)) H
noncomputable def popA (o : AV) (H : AH) : Res AV := mutAt o H fun i xs => optR xs[xs.length - 1]? fun v => chk (decide (xs.length ≤ sLine)) (.ok v (setObj i (.list true (xs.take (xs.length - 1))) H))
noncomputable def strsOf (xs : List AV) : Option (List Str) := optAll AV.s? xs
noncomputable def strA (x : AV) (H : AH) : Res AV := optR x.i? fun n => chk (decide (n.natAbs.log2 < 1920)) (.ok (.str (Str.ofString (toString n))) H)
noncomputable def tupOfA (x : AV) (H : AH) : Res AV := optR (lstOf x H) fun xs => chk (decide (xs.length ≤ sLine)) (alloc (.tup xs) H)
noncomputable def ngt (neg c : Bool) : Bool := match neg with
  | true => !c
  | false => c
noncomputable def cinA (neg : Bool) (a b : AV) (H : AH) : Res AV := optR a.s? fun y => orS b (fun x => .ok (.bool (ngt neg (Txt.contains x y))) H) (optR ((lstOf b H).bind strsOf) fun ys => .ok (.bool (ngt neg (ys.any (· == y)))) H)
noncomputable def splitOk (x y : Str) : Bool := decide (x.length ≤ sLine) && !(y.length == 0) && decide ((Builtin.Str.partsBetween x (Builtin.Str.occurrences x y 0 x.length (x.length + 1)) y.length).length ≤ sLine)
noncomputable def smA (k : Sm) (o e : AV) (H : AH) : Res AV := optR o.s? fun x => match k with
  | .startswith => optR e.s? fun y => .ok (.bool (Txt.startswith x y)) H
  | .split => optR e.s? fun y => chk (splitOk x y) (alloc (.list true ((Txt.split x y).map .str)) H)
  | .join => optR ((lstOf e H).bind strsOf) fun ys => chk (decide ((ys.map (·.length)).sum + ys.length * x.length ≤ 16777216)) (.ok (.str (Str.join x ys)) H)
noncomputable def toIntA (x : AV) (H : AH) : Res AV := orS x (fun t => chk (decide (t.length ≤ 640)) (optR (PySem.intText? t) fun n => .ok (.int n) H)) <| optR x.b? fun b => .ok (.int (if b then 1 else 0)) H
noncomputable def bkA (vs : List AV) (H : AH) : Res AV := match vs with
  | [] => .stuck
  | a :: r => match r with
    | [] => .stuck
    | b :: q => optR (one? q) fun c => alloc (.book a b c) H

/-- a global dict -/
noncomputable def globN : ME → Option Str
  | .glob x => some x
  | _ => none
noncomputable def dctOf (P : Pg) (e : ME) : Option (List (Str × Int)) := (globN e).bind fun x => P.dct.lookup x
noncomputable def dinA (neg : Bool) (D : List (Str × Int)) (a : AV) (H : AH) : Res AV := optR a.s? fun y => .ok (.bool (ngt neg (D.lookup y).isSome)) H
noncomputable def dgetA (D : List (Str × Int)) (a : AV) (H : AH) : Res AV := optR (a.s?.bind fun y => D.lookup y) fun n => .ok (.int n) H
noncomputable def orD {β : Type} (o : Option (List (Str × Int))) (k : List (Str × Int) → Res β) (z : Res β) : Res β := match o with
  | some D => k D
  | none => z
section
variable (P : Pg) (Φ : Calls)
mutual
noncomputable def ev : ME → Rho → AH → Res AV
  | .cN, _, H => .ok .none H
  | .cB b, _, H => .ok (.bool b) H
  | .cI i, _, H => .ok (.int i) H
  | .cS x, _, H => .ok (.str x) H
  | .var x, ρ, H => optR (ρ[x]?.join) fun v => .ok v H
  | .glob x, _, H => optR (P.cst.lookup x) fun v => .ok v H
  | .bin op a b, ρ, H => (ev a ρ H).bind fun x H₁ => (ev b ρ H₁).bind fun y H₂ => binA op x y H₂
  | .neg a, ρ, H => (ev a ρ H).bind negA
  | .not_ a, ρ, H => (ev a ρ H).bind fun x H₁ => (truth x H₁).bind fun b H₂ => .ok (.bool (!b)) H₂
  | .cmp op a b, ρ, H => (ev a ρ H).bind fun x H₁ => (ev b ρ H₁).bind fun y H₂ => cmpA op x y H₂
  | .and_ a b, ρ, H => (ev a ρ H).bind fun x H₁ => (truth x H₁).bind fun t H₂ => if t then ev b ρ H₂ else .ok x H₂
  | .or_ a b, ρ, H => (ev a ρ H).bind fun x H₁ => (truth x H₁).bind fun t H₂ => if t then .ok x H₂ else ev b ρ H₂
  | .idx a i, ρ, H => orD (dctOf P a) (fun D => (ev i ρ H).bind fun y H₂ => dgetA D y H₂) ((ev a ρ H).bind fun x H₁ => (ev i ρ H₁).bind fun y H₂ => idxA x y H₂)
  | .sl a l h, ρ, H => (ev a ρ H).bind fun x H₁ => (ev l ρ H₁).bind fun y H₂ => (ev h ρ H₂).bind fun z H₃ => sliceA x y z H₃
  | .slU a h, ρ, H => (ev a ρ H).bind fun x H₁ => (ev h ρ H₁).bind fun y H₂ => sliceU x y H₂
  | .slF a l, ρ, H => (ev a ρ H).bind fun x H₁ => (ev l ρ H₁).bind fun y H₂ => sliceF x y H₂
  | .attr a n, ρ, H => (ev a ρ H).bind fun x H₁ => attrA x n H₁
  | .lst es, ρ, H => (evs es ρ H).bind fun vs H₁ => alloc (.list true vs) H₁
  | .tup es, ρ, H => (evs es ρ H).bind fun vs H₁ => alloc (.tup vs) H₁
  | .bk es, ρ, H => (evs es ρ H).bind bkA
  | .lcomp it elt, ρ, H => ((evI it ρ H).bind fun t H₁ => compA t ρ noCond (ev elt) t.len 0 [] H₁).bind fun xs H₂ => alloc (.list true xs) H₂
  | .lcompIf it c elt, ρ, H => ((evI it ρ H).bind fun t H₁ => compA t ρ (fun ρ H => (ev c ρ H).bind truth) (ev elt) t.len 0 [] H₁).bind fun xs H₂ => alloc (.list true xs) H₂
  | .listOf it, ρ, H => (evI it ρ H).bind listOfA
  | .call f es, ρ, H => chk (P.fns.lookup f).isSome ((evs es ρ H).bind fun vs H₁ => Φ f vs H₁)
  | .bi b es, ρ, H => (evs es ρ H).bind fun vs H₁ => biA b vs H₁
  | .meth m o e, ρ, H => (ev o ρ H).bind fun x H₁ => chk (isLst x H₁) ((ev e ρ H₁).bind fun v H₂ => methA m x v H₂)
  | .isi a t, ρ, H => (ev a ρ H).bind fun x H₁ => isiA x t H₁
  | .toInt a, ρ, H => (ev a ρ H).bind toIntA
  | .pop o, ρ, H => (ev o ρ H).bind popA
  | .str_ a, ρ, H => (ev a ρ H).bind strA
  | .tupOf a, ρ, H => (ev a ρ H).bind tupOfA
  | .cin neg a b, ρ, H => orD (dctOf P b) (fun D => (ev a ρ H).bind fun x H₁ => dinA neg D x H₁) ((ev a ρ H).bind fun x H₁ => (ev b ρ H₁).bind fun y H₂ => cinA neg x y H₂)
  | .smeth k o e, ρ, H => (ev o ρ H).bind fun x H₁ => chk x.s?.isSome ((ev e ρ H₁).bind fun v H₂ => smA k x v H₂)
  | .rng _, _, _ => .stuck
  | .bad, _, _ => .stuck
noncomputable def evs : List ME → Rho → AH → Res (List AV)
  | [], _, H => .ok [] H
  | e :: r, ρ, H => (ev e ρ H).bind fun v H₁ => (evs r ρ H₁).bind fun vs H₂ => .ok (v :: vs) H₂
noncomputable def evI : MI → Rho → AH → Res It
  | .seq e, ρ, H => (ev e ρ H).bind itOf
  | .rng es, ρ, H => (evs es ρ H).bind itRange
end

mutual
noncomputable def ex : MS → Rho → AH → Res Fl
  | .assign x e, ρ, H => (ev P Φ e ρ H).bind fun v H₁ => .ok (.next (ρ.set x (some v))) H₁
  | .setItem o i v, ρ, H => (ev P Φ v ρ H).bind fun y H₁ => (ev P Φ o ρ H₁).bind fun a H₂ => (ev P Φ i ρ H₂).bind fun k H₃ => (setItemA a k y H₃).bind fun _ H₄ => .ok (.next ρ) H₄
  | .expr e, ρ, H => (ev P Φ e ρ H).bind fun _ H₁ => .ok (.next ρ) H₁
  | .ret e, ρ, H => (ev P Φ e ρ H).bind fun v H₁ => .ok (.ret v) H₁
  | .ite c a b, ρ, H => ((ev P Φ c ρ H).bind truth).bind fun t H₁ => if t then exs a ρ H₁ else exs b ρ H₁
  | .for_ x it body, ρ, H => (evI P Φ it ρ H).bind fun t H₁ => loopA t x (exs body) t.len 0 ρ H₁
  | .raise _, _, _ => .stuck
  | .bad, _, _ => .stuck
noncomputable def exs : List MS → Rho → AH → Res Fl
  | [], ρ, H => .ok (.next ρ) H
  | st :: r, ρ, H => (ex st ρ H).bind fun fl H₁ => match fl with
    | .next ρ' => exs r ρ' H₁
    | .ret v => .ok (.ret v) H₁
end
end

noncomputable def fin : Fl → AV
  | .ret v => v
  | .next _ => .none

noncomputable def callN (P : Pg) : Nat → Calls
  | 0, _, _, _ => .stuck
  | n + 1, f, args, H => optR (P.fns.lookup f) fun d => chk (decide (args.length = d.np)) ((exs P (callN P n) d.body (args.map some ++ List.replicate (d.ns - d.np) none) H).bind fun fl H₁ => .ok (fin fl) H₁)
end Mine

/-! ## part C2 -/
namespace Mine
open PySem

/-! translation -/
structure Cx where
  names : List (Str × NameKind)
  slots : List (Str × Nat)
  n : Nat

noncomputable def slotsFrom : List (Str × NameKind) → Nat → List (Str × Nat)
  | [], _ => []
  | (x, .local) :: r, k => (x, k) :: slotsFrom r (k + 1)
  | (x, .cell) :: r, k => (x, k) :: slotsFrom r (k + 1)
  | _ :: r, k => slotsFrom r k

noncomputable def cxOf (sc : Scope) : Cx := ⟨sc.names, slotsFrom sc.names 0, (slotsFrom sc.names 0).length⟩

noncomputable def ownNames (c : Cx) (sc : Scope) : List (Str × NameKind) := sc.names.map fun p => if p.2 == .free && c.names.lookup p.1 == some .cell then (p.1, .cell) else (p.1, p.2)

noncomputable def Cx.comp (c : Cx) (sc : Scope) (x : Str) : Cx := ⟨ownNames c sc, (x, c.n) :: c.slots, c.n + 1⟩

noncomputable def compOk (c : Cx) (sc : Scope) (x : Str) : Bool :=
  decide (sc.kind = .function) && decide (sc.names.lookup x = some .local) && (sc.names.all fun p => (match p.2 with
    | .local => sc.names.lookup p.1 == some .local && (p.1 == x || (p.1 == (".0" : Str) && (c.slots.lookup p.1).isNone))
    | .free => c.names.lookup p.1 == some .cell && sc.names.lookup p.1 == some .free
    | .globalImplicit => true
    | _ => false)) && decide (sc.isCoroutine = false) && decide (sc.isGenerator = false)

noncomputable def Cx.global (c : Cx) (x : Str) : Bool := c.names.lookup x == some .globalImplicit && !(x == ("__debug__" : Str))

noncomputable def bopOf : Operator → Option BOp
  | .Add => some .add | .Sub => some .sub | .Mult => some .mul | .FloorDiv => some .fdiv | .Mod => some .mod | .Pow => some .pow
  | _ => none
noncomputable def copOf : CmpOp → Option COp
  | .Eq => some .eq | .NotEq => some .ne | .Lt => some .lt | .LtE => some .le | .Gt => some .gt | .GtE => some .ge | .Is => some .is_
  | _ => none
noncomputable def ME.rng? : ME → Option (List ME)
  | .rng es => some es
  | _ => none
noncomputable def mkI (e : ME) : MI := match e.rng? with
  | some es => .rng es
  | none => .seq e
noncomputable def biOf (f : Str) : Option Bi :=
  if f == ("len" : Str) then some .len else if f == ("min" : Str) then some .min else if f == ("max" : Str) then some .max else if f == ("sum" : Str) then some .sum else if f == ("sorted" : Str) then some .sorted else if f == ("abs" : Str) then some .abs else none
noncomputable def mtOf (f : Str) : Option Mt := if f == ("append" : Str) then some .append else if f == ("extend" : Str) then some .extend else if f == ("index" : Str) then some .index else none
noncomputable def nameIn : Expr → Option Str
  | .Name x _ => some x
  | _ => none
noncomputable def tyNm (t : Str) : Option Ty := if t == ("int" : Str) then some .int_ else if t == ("bool" : Str) then some .bool_ else if t == ("list" : Str) then some .list_ else if t == ("str" : Str) then some .str_ else if t == ("tuple" : Str) then some .tup_ else none
noncomputable def tyOf (c : Cx) (e : Expr) : Option Ty := (nameIn e).bind fun t => if c.global t then tyNm t else none
noncomputable def attrOf (a : Str) : Option Nat := if a == ("size" : Str) then some 0 else if a == ("begins" : Str) then some 1 else if a == ("numbers" : Str) then some 2 else none

noncomputable def isCall : Expr → Bool
  | .Call .. => true
  | _ => false
noncomputable def isSlice : Expr → Bool
  | .Slice .. => true
  | _ => false
noncomputable def isComp : Expr → Bool
  | .ListComp .. => true
  | _ => false
noncomputable def isStar : Expr → Bool
  | .Starred .. => true
  | _ => false

/-- one thing in a list, no more -/
noncomputable def one1 {α : Type} (xs : List α) : Option α := match xs with
  | [] => none
  | x :: r => if r.isEmpty then some x else none
noncomputable def orBad {α : Type} (o : Option α) (k : α → ME) : ME := match o with
  | some a => k a
  | none => .bad
noncomputable def butBad (c : Bool) (e : ME) : ME := match c with
  | true => e
  | false => .bad

noncomputable def isiOf (c : Cx) (args : List Expr) (es : List ME) : ME := match args with
  | [] => .bad
  | _ :: r => orBad (one1 r) fun t => orBad (tyOf c t) fun ty => match es with
    | [] => .bad
    | a :: _ => .isi a ty
/-- a call of a global name, its arguments as translated -/
noncomputable def mkCall (f : Str) (args : List Expr) (c : Cx) (es : List ME) : ME :=
  if f == ("isinstance" : Str) then isiOf c args es
  else if f == ("range" : Str) then .rng es
  else if f == ("list" : Str) then orBad (one1 es) fun e => .listOf (mkI e)
  else if f == ("int" : Str) then orBad (one1 es) .toInt
  else if f == ("str" : Str) then orBad (one1 es) .str_
  else if f == ("tuple" : Str) then orBad (one1 es) .tupOf
  else match biOf f with
    | some b => .bi b es
    | none => .call f es
noncomputable def callOf (c : Cx) (args : List Expr) (es : List ME) (f : Str) : ME := butBad (c.global f && !(args.any isStar) && decide (args.length ≤ 30)) (mkCall f args c es)
/-- a method of a text -/
noncomputable def smOf (f : Str) : Option Sm := if f == ("startswith" : Str) then some .startswith else if f == ("split" : Str) then some .split else if f == ("join" : Str) then some .join else none
noncomputable def smCall (o : Expr) (args : List Expr) (ap pos : Pos) (b : ME) (es : List ME) (k : Sm) : ME := orBad (one1 es) fun e => butBad (!(isCall o) && !(args.any isStar) && ap.endLine == pos.line) (.smeth k b e)
/-- a call of an attribute -/
noncomputable def methOf (o : Expr) (args : List Expr) (ap pos : Pos) (b : ME) (es : List ME) (mn : Str) : ME := match smOf mn with
  | some k => smCall o args ap pos b es k
  | none => if args.isEmpty && mn == ("pop" : Str) then butBad (!(isCall o) && ap.endLine == pos.line) (.pop b) else orBad (mtOf mn) fun k => orBad (one1 es) fun e => butBad (!(isCall o) && !(args.any isStar) && ap.endLine == pos.line) (.meth k b e)

noncomputable def mkBool (op : BoolOp) : List ME → ME
  | [] => .bad
  | e :: r => if r.isEmpty then e else match op with
    | .And => .and_ e (mkBool op r)
    | .Or => .or_ e (mkBool op r)
noncomputable def cstOf : Const → ME
  | .none => .cN
  | .bool b => .cB b
  | .int i => .cI i
  | .str x => .cS x
  | _ => .bad
noncomputable def slotOf (c : Cx) (x : Str) : Option Nat := match c.names.lookup x with
  | some .local => c.slots.lookup x
  | some .cell => c.slots.lookup x
  | _ => none
noncomputable def nameOf (c : Cx) (x : Str) : ME := butBad (!(x == ("__debug__" : Str))) (match slotOf c x with
  | some i => .var i
  | none => butBad (c.global x) (.glob x))
noncomputable def unOf (op : UnaryOp) (x : ME) : ME := match op with
  | .Not => .not_ x
  | .USub => .neg x
  | .Invert => .bad
  | .UAdd => .bad
noncomputable def inOf : CmpOp → Option Bool
  | .In => some false
  | .NotIn => some true
  | _ => none
noncomputable def cmpOf (ops : List CmpOp) (rs : List Expr) (l : ME) (es : List ME) : ME := orBad (one1 es) fun r => butBad (!(lastMarks ops rs)) (orBad (one1 ops) fun op => match inOf op with
  | some neg => .cin neg l r
  | none => orBad (copOf op) fun o => .cmp o l r)
noncomputable def seqOk (es : List Expr) : Bool := !(es.any isStar) && decide (es.length ≤ 1000)
noncomputable def condOf (it : MI) (e : ME) (ts : List ME) : ME := match ts with
  | [] => .lcomp it e
  | t :: r => butBad r.isEmpty (.lcompIf it t e)
noncomputable def compOf (c : Cx) (sc : Scope) (g : Option (Str × MI)) (e : Cx → ME) (t : Cx → List ME) : ME := orBad g fun p => butBad (compOk c sc p.1) (condOf p.2 (e (c.comp sc p.1)) (t (c.comp sc p.1)))
noncomputable def slOf (v : ME) (lo hi : Option ME) : ME := match lo with
  | some l => (match hi with
    | some h => .sl v l h
    | none => .slF v l)
  | none => (match hi with
    | some h => .slU v h
    | none => .bad)

mutual
noncomputable def cE : Expr → Cx → ME
  | .Constant v _ _, _ => cstOf v
  | .Name x _, c => nameOf c x
  | .BinOp l op r _, c => orBad (bopOf op) fun o => .bin o (cE l c) (cE r c)
  | .UnaryOp op x _, c => unOf op (cE x c)
  | .BoolOp op vs _, c => butBad (decide (2 ≤ vs.length)) (mkBool op (cEs vs c))
  | .Compare l ops rs _, c => cmpOf ops rs (cE l c) (cEs rs c)
  | .Call f args kws pos, c => butBad kws.isEmpty (cF f args pos c (cEs args c))
  | .Subscript v i _, c => cSl i c (cE v c) (cE i c)
  | .List es _, c => butBad (seqOk es) (.lst (cEs es c))
  | .Tuple es _ _, c => butBad (seqOk es) (.tup (cEs es c))
  | .ListComp elt gens sc _, c => compOf c sc (cGs gens c) (cE elt) (cIf gens)
  | _, _ => .bad
/-- what is called -/
noncomputable def cF : Expr → List Expr → Pos → Cx → List ME → ME
  | .Attribute o m ap, args, pos, c, es => methOf o args ap pos (cE o c) es m
  | .Name f _, args, _, c, es => callOf c args es f
  | _, _, _, _, _ => .bad
noncomputable def cSl : Expr → Cx → ME → ME → ME
  | .Slice lo hi st _, c, v, _ => butBad st.isNone (slOf v (cEo lo c) (cEo hi c))
  | _, _, v, i => .idx v i
noncomputable def cEs : List Expr → Cx → List ME
  | [], _ => []
  | e :: r, c => cE e c :: cEs r c
noncomputable def cEo : Option Expr → Cx → Option ME
  | none, _ => none
  | some e, c => some (cE e c)
noncomputable def cGs : List Comprehension → Cx → Option (Str × MI)
  | [], _ => none
  | ⟨t, it, ifs, a⟩ :: r, c => if r.isEmpty && a == 0 then (nameIn t).map fun x => (x, mkI (cE it c)) else none
noncomputable def cIf : List Comprehension → Cx → List ME
  | [], _ => []
  | ⟨_, _, ifs, _⟩ :: _, c => cEs ifs c
end

noncomputable def orBadS {α : Type} (o : Option α) (k : α → MS) : MS := match o with
  | some a => k a
  | none => .bad
noncomputable def asg1 (c : Cx) (v : ME) (t : Expr) : MS := match t with
  | .Name x _ => orBadS (slotOf c x) fun i => .assign i v
  | .Subscript o i _ => if isSlice i then .bad else .setItem (cE o c) (cE i c) v
  | _ => .bad
noncomputable def forOf (c : Cx) (t : Expr) (e : List Stmt) (it : MI) (body : List MS) : MS := if e.isEmpty then orBadS ((nameIn t).bind (slotOf c)) fun i => .for_ i it body else .bad
noncomputable def strArg (args : List Expr) : Bool := match one1 args with
  | some e => (match e with
    | .Constant v _ _ => (match v with
      | .str _ => true
      | _ => false)
    | _ => false)
  | none => false
noncomputable def raise1 (c : Cx) (e : Expr) : MS := match e with
  | .Call f args kws _ => if kws.isEmpty && strArg args then orBadS (nameIn f) fun t => if c.global t then .raise t else .bad else .bad
  | _ => .bad
noncomputable def retOf (o : Option Expr) (c : Cx) : ME := match o with
  | some e => cE e c
  | none => .cN

mutual
noncomputable def cS : Stmt → Cx → MS
  | .Assign ts v _, c => orBadS (one1 ts) (asg1 c (cE v c))
  | .Expr e _, c => if isComp e then .bad else .expr (cE e c)
  | .Return v _, c => .ret (retOf v c)
  | .If t a b _, c => .ite (cE t c) (cSs a c) (cSs b c)
  | .For t it body e _, c => forOf c t e (mkI (cE it c)) (cSs body c)
  | .Raise e f _, c => if f.isNone then orBadS e (raise1 c) else .bad
  | _, _ => .bad
noncomputable def cSs : List Stmt → Cx → List MS
  | [], _ => []
  | s :: r, c => cS s c :: cSs r c
end

noncomputable def funOf (params : Arguments) (sc : Scope) (body : List Stmt) : AFun := ⟨params.args.length, (cxOf sc).n, cSs body (cxOf sc)⟩
end Mine

/-! ## part C3 -/
namespace Mine
open PySem PySem.W PyProof.Rows

/-! what an abstract value, list, object is in a heap -/
inductive VRel (μ : List Addr) : AV → Value → Prop
  | none : VRel μ .none .none
  | bool (b : Bool) : VRel μ (.bool b) (.bool b)
  | int (i : Int) (t : Tok) : VRel μ (.int i) (.int i t)
  | ref {i : Nat} {a : Addr} (h : μ[i]? = some a) : VRel μ (.ref i) (.ref a)
  | str (x : Str) (t : Tok) : VRel μ (.str x) (.str x t)

theorem pre_get {α : Type} {l l' : List α} (h : l <+: l') {i : Nat} {a : α} (e : l[i]? = some a) : l'[i]? = some a := by
  obtain ⟨t, rfl⟩ := h
  rw [List.getElem?_append_left (List.getElem?_eq_some_iff.mp e).1]; exact e
theorem VRel.mono {μ μ' : List Addr} {x : AV} {v : Value} (h : VRel μ x v) (hp : μ <+: μ') : VRel μ' x v := by
  cases h with
  | none => exact .none
  | bool b => exact .bool b
  | int i t => exact .int i t
  | ref e => exact .ref (pre_get hp e)
  | str x t => exact .str x t

noncomputable def VsRel (μ : List Addr) (xs : List AV) (vs : List Value) : Prop := xs.length = vs.length ∧ ∀ (i : Nat) (x : AV) (v : Value), xs[i]? = some x → vs[i]? = some v → VRel μ x v
theorem VsRel.mono {μ μ' : List Addr} {xs : List AV} {vs : List Value} (h : VsRel μ xs vs) (hp : μ <+: μ') : VsRel μ' xs vs := ⟨h.1, fun i x v a b => (h.2 i x v a b).mono hp⟩
theorem VsRel.nil {μ : List Addr} : VsRel μ [] [] := ⟨rfl, fun i x v a _ => by simp at a⟩
theorem VsRel.cons {μ : List Addr} {x : AV} {v : Value} {xs : List AV} {vs : List Value} (h : VRel μ x v) (hs : VsRel μ xs vs) : VsRel μ (x :: xs) (v :: vs) := by
  refine ⟨by simp [hs.1], fun i y w a b => ?_⟩
  cases i with
  | zero => simp at a b; subst a; subst b; exact h
  | succ i => simp at a b; exact hs.2 i y w a b
theorem VsRel.head {μ : List Addr} {x : AV} {xs : List AV} {vs : List Value} (h : VsRel μ (x :: xs) vs) : ∃ v r, vs = v :: r ∧ VRel μ x v ∧ VsRel μ xs r := by
  cases vs with
  | nil => have := h.1; simp at this
  | cons v r => exact ⟨v, r, rfl, h.2 0 x v rfl rfl, by have := h.1; simpa using this, fun i y w a b => h.2 (i + 1) y w (by simpa using a) (by simpa using b)⟩
theorem VsRel.nil_inv {μ : List Addr} {vs : List Value} (h : VsRel μ [] vs) : vs = [] := by
  have := h.1; simp at this; exact List.eq_nil_of_length_eq_zero this.symm
theorem VsRel.get {μ : List Addr} {xs : List AV} {vs : List Value} (h : VsRel μ xs vs) {i : Nat} {x : AV} (e : xs[i]? = some x) : ∃ v, vs[i]? = some v ∧ VRel μ x v := by
  have hi := (List.getElem?_eq_some_iff.mp e).1
  rw [h.1] at hi
  exact ⟨vs[i], List.getElem?_eq_getElem hi, h.2 i x _ e (List.getElem?_eq_getElem hi)⟩
theorem VsRel.append {μ : List Addr} {xs ys : List AV} {vs ws : List Value} (h : VsRel μ xs vs) (k : VsRel μ ys ws) : VsRel μ (xs ++ ys) (vs ++ ws) := by
  refine ⟨by simp [h.1, k.1], fun i x v a b => ?_⟩
  by_cases hi : i < xs.length
  · rw [List.getElem?_append_left hi] at a
    rw [List.getElem?_append_left (h.1 ▸ hi)] at b
    exact h.2 i x v a b
  · have hi := Nat.le_of_not_lt hi
    rw [List.getElem?_append_right hi] at a
    rw [List.getElem?_append_right (h.1 ▸ hi), ← h.1] at b
    exact k.2 _ x v a b
theorem VsRel.take {μ : List Addr} {xs : List AV} {vs : List Value} (h : VsRel μ xs vs) (n : Nat) : VsRel μ (xs.take n) (vs.take n) := by
  refine ⟨by simp [h.1], fun i x v a b => ?_⟩
  rw [List.getElem?_take] at a b
  split at a
  · rename_i q
    rw [if_pos q] at b
    exact h.2 i x v a b
  · cases a
theorem VsRel.drop {μ : List Addr} {xs : List AV} {vs : List Value} (h : VsRel μ xs vs) (n : Nat) : VsRel μ (xs.drop n) (vs.drop n) := by
  refine ⟨by simp [h.1], fun i x v a b => ?_⟩
  rw [List.getElem?_drop] at a b
  exact h.2 _ x v a b
theorem VsRel.set {μ : List Addr} {xs : List AV} {vs : List Value} {x : AV} {v : Value} (h : VsRel μ xs vs) (k : VRel μ x v) (n : Nat) : VsRel μ (xs.set n x) (vs.set n v) := by
  refine ⟨by simp [h.1], fun i y w a b => ?_⟩
  rw [List.getElem?_set] at a b
  by_cases q : n = i
  · rw [if_pos q] at a b
    split at a
    · rename_i q2
      rw [if_pos (h.1 ▸ q2)] at b
      cases a; cases b; exact k
    · cases a
  · rw [if_neg q] at a b
    exact h.2 i y w a b
theorem VsRel.one {μ : List Addr} {x : AV} {v : Value} (h : VRel μ x v) : VsRel μ [x] [v] := .cons h .nil
theorem VsRel.replicate {μ : List Addr} {x : AV} {v : Value} (h : VRel μ x v) : ∀ n : Nat, VsRel μ (List.replicate n x) (List.replicate n v)
  | 0 => .nil
  | n + 1 => by simp only [List.replicate_succ]; exact .cons h (VsRel.replicate h n)


noncomputable abbrev bookDict (h1 h2 h3 : Int) (t1 t2 t3 : Tok) (x y z : Value) (n : Nat) : Obj := dictOf [⟨h1, .str "size" t1, x⟩, ⟨h2, .str "begins" t2, y⟩, ⟨h3, .str "numbers" t3, z⟩] n

inductive BkAt (C : Addr) (Ls : List Addr) (st : List (Addr × Obj)) (h : Heap) (μ : List Addr) (a : Addr) (x y z : AV) : Prop
  | mk (dx : Addr) (h1 h2 h3 : Int) (t1 t2 t3 : Tok) (vx vy vz : Value) (n : Nat) (e : h.get? a = some (instObj C dx)) (e' : h.get? dx = some (bookDict h1 h2 h3 t1 t2 t3 vx vy vz n)) (r1 : VRel μ x vx) (r2 : VRel μ y vy) (r3 : VRel μ z vz) (r4 : dx ∉ Ls) (r5 : dx ∉ st.map (·.1)) : BkAt C Ls st h μ a x y z
noncomputable def ObjAt (C : Addr) (Ls : List Addr) (st : List (Addr × Obj)) (h : Heap) (μ : List Addr) (a : Addr) : AObj → Prop
  | .list _ xs => ∃ vs n, IsL h a vs.toArray n ∧ VsRel μ xs vs
  | .tup xs => ∃ vs n, IsT h a vs.toArray n ∧ VsRel μ xs vs
  | .book x y z => BkAt C Ls st h μ a x y z

theorem ObjAt.ex {C : Addr} {Ls : List Addr} {st : List (Addr × Obj)} {h : Heap} {μ : List Addr} {a : Addr} {o : AObj} (x : ObjAt C Ls st h μ a o) : ∃ q, h.get? a = some q := by
  cases o with
  | list m xs => obtain ⟨vs, n, e, _⟩ := x; exact ⟨_, e⟩
  | tup xs => obtain ⟨vs, n, e, _⟩ := x; exact ⟨_, e⟩
  | book p q r => obtain ⟨dx, _, _, _, _, _, _, _, _, _, _, e, _⟩ := x; exact ⟨_, e⟩
theorem ObjAt.mono {C : Addr} {Ls : List Addr} {st : List (Addr × Obj)} {h : Heap} {μ μ' : List Addr} {a : Addr} {o : AObj} (x : ObjAt C Ls st h μ a o) (hp : μ <+: μ') : ObjAt C Ls st h μ' a o := by
  cases o with
  | list m xs => obtain ⟨vs, n, e, r⟩ := x; exact ⟨vs, n, e, r.mono hp⟩
  | tup xs => obtain ⟨vs, n, e, r⟩ := x; exact ⟨vs, n, e, r.mono hp⟩
  | book p q r =>
    obtain ⟨dx, h1, h2, h3, t1, t2, t3, vx, vy, vz, n, e, e', r1, r2, r3, r4, r5⟩ := x
    exact ⟨dx, h1, h2, h3, t1, t2, t3, vx, vy, vz, n, e, e', r1.mono hp, r2.mono hp, r3.mono hp, r4, r5⟩
/-- all but z stays as it was; z is neither the object nor a book's dict -/
theorem ObjAt.but {C : Addr} {Ls : List Addr} {st : List (Addr × Obj)} {h h' : Heap} {μ : List Addr} {a z : Addr} {o : AObj} (x : ObjAt C Ls st h μ a o) (hk : ∀ b q, b ≠ z → h.get? b = some q → h'.get? b = some q) (ha : a ≠ z)
    (hz : z ∈ Ls ∨ z ∈ st.map (·.1) ∨ ∀ es n, h.get? z ≠ some (dictOf es n)) : ObjAt C Ls st h' μ a o := by
  cases o with
  | list m xs => obtain ⟨vs, n, e, r⟩ := x; exact ⟨vs, n, hk _ _ ha e, r⟩
  | tup xs => obtain ⟨vs, n, e, r⟩ := x; exact ⟨vs, n, hk _ _ ha e, r⟩
  | book p q r =>
    obtain ⟨dx, h1, h2, h3, t1, t2, t3, vx, vy, vz, n, e, e', r1, r2, r3, r4, r5⟩ := x
    refine ⟨dx, h1, h2, h3, t1, t2, t3, vx, vy, vz, n, hk _ _ ha e, hk _ _ (fun w => ?_) e', r1, r2, r3, r4, r5⟩
    rcases hz with hz | hz | hz
    · exact r4 (w ▸ hz)
    · exact r5 (w ▸ hz)
    · exact hz _ _ (w ▸ e')
theorem ObjAt.keeps {C : Addr} {Ls : List Addr} {st : List (Addr × Obj)} {h h' : Heap} {μ : List Addr} {a : Addr} {o : AObj} (x : ObjAt C Ls st h μ a o) (hk : ∀ b q, h.get? b = some q → h'.get? b = some q) : ObjAt C Ls st h' μ a o := by
  cases o with
  | list m xs => obtain ⟨vs, n, e, r⟩ := x; exact ⟨vs, n, hk _ _ e, r⟩
  | tup xs => obtain ⟨vs, n, e, r⟩ := x; exact ⟨vs, n, hk _ _ e, r⟩
  | book p q r =>
    obtain ⟨dx, h1, h2, h3, t1, t2, t3, vx, vy, vz, n, e, e', r1, r2, r3, r4, r5⟩ := x
    exact ⟨dx, h1, h2, h3, t1, t2, t3, vx, vy, vz, n, hk _ _ e, hk _ _ e', r1, r2, r3, r4, r5⟩
theorem ObjAt.turn {C : Addr} {Ls Ls' : List Addr} {st st' : List (Addr × Obj)} {h : Heap} {μ : List Addr} {a : Addr} {o : AObj} (x : ObjAt C Ls st h μ a o) (hL : ∀ l ∈ Ls', l ∈ Ls ∨ ∀ es n, h.get? l ≠ some (dictOf es n)) (hs : ∀ p ∈ st', p ∈ st ∨ ∀ es n, h.get? p.1 ≠ some (dictOf es n)) : ObjAt C Ls' st' h μ a o := by
  cases o with
  | list m xs => exact x
  | tup xs => exact x
  | book p q r =>
    obtain ⟨dx, h1, h2, h3, t1, t2, t3, vx, vy, vz, n, e, e', r1, r2, r3, r4, r5⟩ := x
    refine ⟨dx, h1, h2, h3, t1, t2, t3, vx, vy, vz, n, e, e', r1, r2, r3, fun w => ?_, fun w => ?_⟩
    · rcases hL dx w with k | k
      · exact r4 k
      · exact k _ _ e'
    · obtain ⟨p, hp, e2⟩ := List.mem_map.mp w
      rcases hs p hp with k | k
      · exact r5 (List.mem_map.mpr ⟨p, k, e2⟩)
      · exact k _ _ (e2 ▸ e')

/-! a frame at hand -/
structure Fx where
  A : Around
  A₀ : Around
  env : Env
  fenv : Env
  L : Addr
  h₀ : Heap
  base : Heap
  outer : List Env
  c : Cx
  mc : Option (Addr × (Str → Option Value))
  C : Addr
  av : List Addr

/-- the heap bears the abstract heap; the frame's own things stand -/
structure Inv (cx : Fx) (m : Str → Option Value) (cv st : List (Addr × Obj)) (μ : List Addr) (H : AH) (h : Heap) : Prop where
  fr : Fr cx.h₀ cx.L h m
  cvN : News cx.h₀ cx.L h cv
  stN : News cx.h₀ cx.L h st
  cm : ∀ p ∈ cv, p.1 ∉ μ
  sm : ∀ p ∈ st, p.1 ∉ μ
  cs : ∀ p ∈ cv, ∀ q ∈ st, p.1 ≠ q.1
  cc : ∀ p ∈ cv, ∃ v, p.2.data = .cell v
  nd : μ.Nodup
  len : μ.length = H.length
  obj : ∀ (i : Nat) (o : AObj) (a : Addr), H[i]? = some o → μ[i]? = some a → ObjAt cx.C (cx.L :: cx.av) st h μ a o
  mtb : ∀ (i : Nat) (xs : List AV) (a : Addr), H[i]? = some (.list true xs) → μ[i]? = some a → cx.h₀.get? a = none ∧ a ≠ cx.L
  muL : cx.L ∉ μ
  avm : ∀ a ∈ cx.av, a ∉ μ
  avh : ∀ a ∈ cx.av, ∃ o, cx.h₀.get? a = some o
end Mine

/-! ## part C4 -/
namespace Mine
open PySem PySem.W PyProof.Rows

section
variable {cx : Fx} {m : Str → Option Value} {cv st : List (Addr × Obj)} {μ : List Addr} {H : AH} {h h' : Heap} {a : Addr}

theorem Inv.keeps (I : Inv cx m cv st μ H h) (hk : ∀ b o, h.get? b = some o → h'.get? b = some o) : Inv cx m cv st μ H h' where
  fr := I.fr.after hk
  cvN := fun p hp => ⟨hk _ _ (I.cvN p hp).1, (I.cvN p hp).2⟩
  stN := fun p hp => ⟨hk _ _ (I.stN p hp).1, (I.stN p hp).2⟩
  cm := I.cm
  sm := I.sm
  cs := I.cs
  cc := I.cc
  nd := I.nd
  len := I.len
  obj := fun i o a x y => (I.obj i o a x y).keeps hk
  mtb := I.mtb
  muL := I.muL
  avm := I.avm
  avh := I.avh
theorem Inv.push (I : Inv cx m cv st μ H h) (o : Obj) : Inv cx m cv st μ H (h.push o) := I.keeps fun _ _ e => Heap.get?_push_of_some o e

theorem Inv.at (I : Inv cx m cv st μ H h) {i : Nat} (e : μ[i]? = some a) : ∃ o, H[i]? = some o ∧ ObjAt cx.C (cx.L :: cx.av) st h μ a o := by
  have hi := (List.getElem?_eq_some_iff.mp e).1
  rw [I.len] at hi
  exact ⟨H[i], List.getElem?_eq_getElem hi, I.obj i _ a (List.getElem?_eq_getElem hi) e⟩
theorem Inv.addr (I : Inv cx m cv st μ H h) {i : Nat} {o : AObj} (e : H[i]? = some o) : ∃ a, μ[i]? = some a ∧ ObjAt cx.C (cx.L :: cx.av) st h μ a o := by
  have hi := (List.getElem?_eq_some_iff.mp e).1
  rw [← I.len] at hi
  exact ⟨μ[i], List.getElem?_eq_getElem hi, I.obj i _ _ e (List.getElem?_eq_getElem hi)⟩
theorem Inv.old (I : Inv cx m cv st μ H h) (ha : a ∈ μ) : ∃ q, h.get? a = some q := by
  obtain ⟨i, hi, e⟩ := List.mem_iff_getElem.mp ha
  obtain ⟨o, _, x⟩ := I.at (i := i) (by rw [List.getElem?_eq_getElem hi, e])
  exact x.ex
theorem Inv.new (I : Inv cx m cv st μ H h) (ha : h.get? a = none) : a ∉ μ ∧ a ≠ cx.L ∧ cx.h₀.get? a = none ∧ (∀ p ∈ cv, p.1 ≠ a) ∧ (∀ p ∈ st, p.1 ≠ a) := by
  refine ⟨fun q => ?_, fun q => ?_, ?_, fun p hp q => ?_, fun p hp q => ?_⟩
  · obtain ⟨o, e⟩ := I.old q; rw [ha] at e; cases e
  · obtain ⟨o, _, _, e, _⟩ := I.fr.ns; rw [← q, ha] at e; cases e
  · cases q : cx.h₀.get? a with
    | none => rfl
    | some o => have := I.fr.keep _ _ q; rw [ha] at this; cases this
  · have := (I.cvN p hp).1; rw [q, ha] at this; cases this
  · have := (I.stN p hp).1; rw [q, ha] at this; cases this

/-- an object that stands comes onto the abstract heap -/
theorem Inv.adopt {q : AObj} {z : Addr} (I : Inv cx m cv st μ H h) (n1 : z ∉ μ) (nL : z ≠ cx.L) (n0 : cx.h₀.get? z = none) (nc : ∀ p ∈ cv, p.1 ≠ z) (hd : ∀ p ∈ st, p.1 ≠ z) (ho : ObjAt cx.C (cx.L :: cx.av) st h (μ ++ [z]) z q) : Inv cx m cv st (μ ++ [z]) (H ++ [q]) h := by
  have hp : μ <+: μ ++ [z] := List.prefix_append _ _
  have key : ∀ (i : Nat) (q' : AObj) (b : Addr), (H ++ [q])[i]? = some q' → (μ ++ [z])[i]? = some b → (H[i]? = some q' ∧ μ[i]? = some b) ∨ (q' = q ∧ b = z) := by
    intro i q' b e1 e2
    by_cases hi : i < H.length
    · rw [List.getElem?_append_left hi] at e1
      rw [List.getElem?_append_left (I.len ▸ hi)] at e2
      exact .inl ⟨e1, e2⟩
    · have hi := Nat.le_of_not_lt hi
      rw [List.getElem?_append_right hi] at e1
      rw [List.getElem?_append_right (I.len ▸ hi), I.len] at e2
      cases w : i - H.length with
      | zero => rw [w] at e1 e2; exact .inr ⟨(Option.some.inj e1).symm, (Option.some.inj e2).symm⟩
      | succ k => rw [w] at e1; cases e1
  refine { fr := I.fr, cvN := I.cvN, stN := I.stN, cm := fun p hp q => ?_, sm := fun p hp q => ?_, cs := I.cs, cc := I.cc, nd := ?_, len := by rw [List.length_append, List.length_append, I.len]; rfl, obj := fun i q b e1 e2 => ?_, mtb := fun i xs b e1 e2 => ?_, muL := fun q => ?_, avm := fun b hb q => ?_, avh := I.avh }
  · rcases List.mem_append.mp q with q | q
    · exact I.cm p hp q
    · exact nc p hp (List.mem_singleton.mp q)
  · rcases List.mem_append.mp q with q | q
    · exact I.sm p hp q
    · exact hd p hp (List.mem_singleton.mp q)
  · exact List.nodup_append.mpr ⟨I.nd, List.nodup_cons.mpr ⟨List.not_mem_nil, List.nodup_nil⟩, fun x hx y hy => by rw [List.mem_singleton.mp hy]; exact fun q => n1 (q ▸ hx)⟩
  · rcases key i q b e1 e2 with ⟨x, y⟩ | ⟨rfl, rfl⟩
    · exact (I.obj i q b x y).mono hp
    · exact ho
  · rcases key i _ b e1 e2 with ⟨x, y⟩ | ⟨_, rfl⟩
    · exact I.mtb i xs b x y
    · exact ⟨n0, nL⟩
  · rcases List.mem_append.mp q with q | q
    · exact I.muL q
    · exact nL (List.mem_singleton.mp q).symm
  · rcases List.mem_append.mp q with q | q
    · exact I.avm b hb q
    · obtain ⟨o', e⟩ := I.avh b hb
      rw [List.mem_singleton.mp q, n0] at e; cases e
/-- a new object comes onto the abstract heap -/
theorem Inv.alloc {o : AObj} (I : Inv cx m cv st μ H h) (hk : ∀ b o, h.get? b = some o → h'.get? b = some o) (ha : h.get? a = none) (ho : ObjAt cx.C (cx.L :: cx.av) st h' (μ ++ [a]) a o) : Inv cx m cv st (μ ++ [a]) (H ++ [o]) h' := by
  obtain ⟨n1, n2, n3, n4, n5⟩ := I.new ha
  exact (I.keeps hk).adopt n1 n2 n3 n4 n5 ho

/-- a list of the abstract heap turns -/
theorem Inv.setL {i : Nat} {xs ys : List AV} {vs : List Value} {n : Nat} (I : Inv cx m cv st μ H h) (hi : H[i]? = some (.list true xs)) (ha : μ[i]? = some a) (hs : ∀ b, b ≠ a → h'.get? b = h.get? b) (hl : IsL h' a vs.toArray n) (hr : VsRel μ ys vs) :
    Inv cx m cv st μ (H.set i (.list true ys)) h' := by
  obtain ⟨n1, n2⟩ := I.mtb i xs a hi ha
  obtain ⟨ws, k, e, _⟩ := I.obj i _ a hi ha
  have hk : ∀ b q, b ≠ a → h.get? b = some q → h'.get? b = some q := fun b q hb e => (hs b hb).trans e
  have am : a ∈ μ := List.mem_of_getElem? ha
  have inj : ∀ j b, μ[j]? = some b → b = a → j = i := fun j b e1 e2 => by
    subst e2
    exact (List.getElem?_inj (List.getElem?_eq_some_iff.mp e1).1 I.nd).mp (e1.trans ha.symm)
  obtain ⟨oL, es, ep, hL, r⟩ := I.fr.ns
  refine { fr := ⟨⟨oL, es, ep, hk _ _ (Ne.symm n2) hL, r⟩, fun b o q => hk _ _ (fun z => ?_) (I.fr.keep b o q), I.fr.above⟩, cvN := fun p hp => ⟨hk _ _ (fun z => I.cm p hp (z ▸ am)) (I.cvN p hp).1, (I.cvN p hp).2⟩, stN := fun p hp => ⟨hk _ _ (fun z => I.sm p hp (z ▸ am)) (I.stN p hp).1, (I.stN p hp).2⟩, cm := I.cm, sm := I.sm, cs := I.cs, cc := I.cc, nd := I.nd, len := by simp [I.len], obj := fun j q b e1 e2 => ?_, mtb := fun j zs b e1 e2 => ?_, muL := I.muL, avm := I.avm, avh := I.avh }
  · rw [z, n1] at q; cases q
  · rw [List.getElem?_set] at e1
    by_cases z : i = j
    · subst z
      rw [if_pos rfl] at e1
      split at e1
      · cases e1
        have : b = a := Option.some.inj (e2.symm.trans ha)
        subst this
        exact ⟨vs, n, hl, hr⟩
      · cases e1
    · rw [if_neg z] at e1
      refine (I.obj j q b e1 e2).but hk (fun y => z (inj j b e2 y).symm) (.inr (.inr fun es n w => ?_))
      rw [e] at w; exact absurd (congrArg (fun q => q.map (·.data)) w) (by simp)
  · rw [List.getElem?_set] at e1
    by_cases z : i = j
    · subst z
      rw [if_pos rfl] at e1
      have : b = a := Option.some.inj (e2.symm.trans ha)
      subst this
      exact ⟨n1, n2⟩
    · rw [if_neg z] at e1
      exact I.mtb j zs b e1 e2

/-- a local is stored -/
theorem Inv.storeL {m' : Str → Option Value} (I : Inv cx m cv st μ H h) (hn : h'.Ns cx.L m') (hs : Heap.SameBut cx.L h h') : Inv cx m' cv st μ H h' where
  fr := I.fr.set hn hs
  cvN := I.cvN.set hs
  stN := I.stN.set hs
  cm := I.cm
  sm := I.sm
  cs := I.cs
  cc := I.cc
  nd := I.nd
  len := I.len
  obj := fun i o a x y => (I.obj i o a x y).but (fun b _ hb e => (hs.2 b hb).trans e) (fun z => I.muL (z ▸ List.mem_of_getElem? y)) (.inl (.head _))
  mtb := I.mtb
  muL := I.muL
  avm := I.avm
  avh := I.avh

/-- a cell is stored -/
noncomputable def setCell (c : Addr) (o : Obj) (cv : List (Addr × Obj)) : List (Addr × Obj) := cv.map fun p => if p.1 = c then (c, o) else p
theorem setCell_mem {c : Addr} {o : Obj} {p : Addr × Obj} (hp : p ∈ setCell c o cv) : (p ∈ cv ∧ p.1 ≠ c) ∨ (p = (c, o) ∧ ∃ q ∈ cv, q.1 = c) := by
  obtain ⟨q, hq, e⟩ := List.mem_map.mp hp
  by_cases z : q.1 = c
  · rw [if_pos z] at e; exact .inr ⟨e.symm, q, hq, z⟩
  · rw [if_neg z] at e; subst e; exact .inl ⟨hq, z⟩
theorem mem_setCell {c : Addr} {o : Obj} {p : Addr × Obj} (hp : p ∈ cv) (hc : p.1 ≠ c) : p ∈ setCell c o cv := List.mem_map.mpr ⟨p, hp, if_neg hc⟩
theorem mem_setCell_at {c : Addr} {o o' : Obj} (hp : (c, o') ∈ cv) : (c, o) ∈ setCell c o cv := List.mem_map.mpr ⟨(c, o'), hp, if_pos rfl⟩
theorem Inv.storeC {c : Addr} {o o' : Obj} {v : Option Value} (I : Inv cx m cv st μ H h) (hc : (c, o) ∈ cv) (hs : Heap.SameBut c h h') (ho : h'.get? c = some o') (hd : o'.data = .cell v) : Inv cx m (setCell c o' cv) st μ H h' := by
  have N := I.cvN _ hc
  have hk : ∀ b q, b ≠ c → h.get? b = some q → h'.get? b = some q := fun b q hb e => (hs.2 b hb).trans e
  obtain ⟨oL, es, ep, hL, r⟩ := I.fr.ns
  obtain ⟨v0, hd0⟩ := I.cc _ hc
  refine { fr := ⟨⟨oL, es, ep, hk _ _ (Ne.symm N.2.1) hL, r⟩, fun b o q => hk _ _ (fun z => ?_) (I.fr.keep b o q), I.fr.above⟩, cvN := fun p hp => ?_, stN := fun p hp => ⟨hk _ _ (fun z => I.cs _ hc p hp z.symm) (I.stN p hp).1, (I.stN p hp).2⟩, cm := fun p hp => ?_, sm := I.sm, cs := fun p hp q hq => ?_, cc := fun p hp => ?_, nd := I.nd, len := I.len, obj := fun i qo a x y => (I.obj i qo a x y).but hk (fun z => I.cm _ hc (z ▸ List.mem_of_getElem? y)) (.inr (.inr fun es n w => ?_)), mtb := I.mtb, muL := I.muL, avm := I.avm, avh := I.avh }
  · have := N.2.2; rw [← z, q] at this; cases this
  · rcases setCell_mem hp with ⟨hp, z⟩ | ⟨rfl, _⟩
    · exact ⟨hk _ _ z (I.cvN p hp).1, (I.cvN p hp).2⟩
    · exact ⟨ho, N.2⟩
  · rcases setCell_mem hp with ⟨hp, z⟩ | ⟨rfl, _⟩
    · exact I.cm p hp
    · exact fun q => I.cm _ hc q
  · rcases setCell_mem hp with ⟨hp, z⟩ | ⟨rfl, _⟩
    · exact I.cs p hp q hq
    · exact I.cs _ hc q hq
  · rcases setCell_mem hp with ⟨hp, z⟩ | ⟨rfl, _⟩
    · exact I.cc p hp
    · exact ⟨_, hd⟩
  · have e : h.get? c = some o := N.1
    rw [e] at w
    cases w
    exact absurd hd0 (by simp)
end

theorem notT {b : Bool} (h : (!b) = true) : b = false := by cases b <;> first | rfl | cases h
noncomputable abbrev RV : List Addr → Heap → AV → Value → Prop := fun μ _ => VRel μ
/-! what is wanted behind a part -/
noncomputable def PostG {α β : Type} (cx : Fx) (m : Str → Option Value) (cv st : List (Addr × Obj)) (s : Shared) (μ : List Addr) (R : List Addr → Heap → α → β → Prop) (Q : β → Shared → Prop) (_E : Value → Shared → Prop) : Res α → Prop
  | .ok a H' => ∀ b h' tk μ', μ <+: μ' → Inv cx m cv st μ' H' h' → R μ' h' a b → Q b { s with heap := h', toks := tk }
  | .stuck => False

section
variable {α β γ δ : Type} {M : Model} {cx : Fx} {m : Str → Option Value} {cv st : List (Addr × Obj)} {s : Shared} {μ : List Addr} {H : AH} {E : Value → Shared → Prop}
  {R : List Addr → Heap → α → β → Prop} {S : List Addr → Heap → γ → δ → Prop}

/-- t does what r says -/
noncomputable def Sim (M : Model) (cx : Fx) (m : Str → Option Value) (cv st : List (Addr × Obj)) (R : List Addr → Heap → α → β → Prop) (μ₀ : List Addr) (t : Sem β) (r : AH → Res α) : Prop :=
  ∀ (μ : List Addr) (H : AH) (s : Shared) (Q : β → Shared → Prop) (E : Value → Shared → Prop), μ₀ <+: μ → Inv cx m cv st μ H s.heap → PostG cx m cv st s μ R Q E (r H) → wpAny M cx.A t Q E s

theorem PostG.at {r : Res α} {Q : β → Shared → Prop} {h : Heap} {tk : Nat} {μ' : List Addr} (p : PostG cx m cv st s μ R Q E r) (hp : μ <+: μ') : PostG cx m cv st { s with heap := h, toks := tk } μ' R Q E r := by
  cases r with
  | ok a H' => exact fun b h' tk' μ'' hp' I r => p b h' tk' μ'' (hp.trans hp') I r
  | stuck => exact p

theorem PostG.opt {ω : Type} {o : Option ω} {k : ω → Res α} {Q : β → Shared → Prop} (p : PostG cx m cv st s μ R Q E (optR o k)) : ∃ a, o = some a ∧ PostG cx m cv st s μ R Q E (k a) := by
  cases o with
  | none => exact p.elim
  | some a => exact ⟨a, rfl, p⟩
theorem PostG.chk {c : Bool} {r : Res α} {Q : β → Shared → Prop} (p : PostG cx m cv st s μ R Q E (Mine.chk c r)) : c = true ∧ PostG cx m cv st s μ R Q E r := by
  cases c with
  | false => exact p.elim
  | true => exact ⟨rfl, p⟩
theorem PostG.chkD {c : Prop} [Decidable c] {r : Res α} {Q : β → Shared → Prop} (p : PostG cx m cv st s μ R Q E (Mine.chk (decide c) r)) : c ∧ PostG cx m cv st s μ R Q E r := ⟨of_decide_eq_true p.chk.1, p.chk.2⟩
theorem PostG.orS {v : AV} {k : Str → Res α} {z : Res α} {Q : β → Shared → Prop} (p : PostG cx m cv st s μ R Q E (Mine.orS v k z)) : (∃ x, v = .str x ∧ PostG cx m cv st s μ R Q E (k x)) ∨ (v.s? = none ∧ PostG cx m cv st s μ R Q E z) := by
  cases v with
  | str x => exact .inl ⟨x, rfl, p⟩
  | none => exact .inr ⟨rfl, p⟩
  | bool _ => exact .inr ⟨rfl, p⟩
  | int _ => exact .inr ⟨rfl, p⟩
  | ref _ => exact .inr ⟨rfl, p⟩
theorem PostG.orD {o : Option (List (Str × Int))} {k : List (Str × Int) → Res α} {z : Res α} {Q : β → Shared → Prop} (p : PostG cx m cv st s μ R Q E (Mine.orD o k z)) : (∃ D, o = some D ∧ PostG cx m cv st s μ R Q E (k D)) ∨ (o = none ∧ PostG cx m cv st s μ R Q E z) := by
  cases o with
  | some D => exact .inl ⟨D, rfl, p⟩
  | none => exact .inr ⟨rfl, p⟩
/-- the part, then the rest -/
theorem Sim.next {μ₀ : List Addr} {t : Sem β} {r : AH → Res α} {g : α → AH → Res γ} {Q : δ → Shared → Prop} {k : β → Shared → Prop} (h : Sim M cx m cv st R μ₀ t r) (hμ : μ₀ <+: μ) (I : Inv cx m cv st μ H s.heap)
    (p : PostG cx m cv st s μ S Q E ((r H).bind g))
    (f : ∀ a b h₁ tk₁ μ₁ H₁, μ <+: μ₁ → Inv cx m cv st μ₁ H₁ h₁ → R μ₁ h₁ a b → PostG cx m cv st { s with heap := h₁, toks := tk₁ } μ₁ S Q E (g a H₁) → k b { s with heap := h₁, toks := tk₁ }) : wpAny M cx.A t k E s := by
  refine h μ H s k E hμ I ?_
  cases q : r H with
  | ok a H₁ =>
    rw [q] at p
    exact fun b h₁ tk₁ μ₁ hp I₁ r₁ => f a b h₁ tk₁ μ₁ H₁ hp I₁ r₁ (PostG.at p hp)
  | stuck => rw [q] at p; exact p
end
end Mine

/-! ## part C5 -/
namespace Mine
open PySem PySem.W PyProof.Rows

theorem pfx {α : Type} (l : List α) : l <+: l := List.prefix_refl l

section
variable {cx : Fx} {m : Str → Option Value} {cv st : List (Addr × Obj)} {μ : List Addr} {H : AH} {h : Heap}
theorem Inv.refNew (I : Inv cx m cv st μ H h) (a : Addr) : VRel (μ ++ [a]) (.ref H.length) (.ref a) := .ref (by rw [← I.len]; simp)
theorem Inv.newList {xs : List AV} {vs : List Value} (mt : Bool) (I : Inv cx m cv st μ H h) (hr : VsRel μ xs vs) : Inv cx m cv st (μ ++ [h.objs.size]) (H ++ [.list mt xs]) (h.push { cls := .type "list", data := .seq vs.toArray }) := by
  refine I.alloc (fun _ _ e => Heap.get?_push_of_some _ e) ?_ ⟨vs, 0, IsL.new _ _, hr.mono (List.prefix_append _ _)⟩
  cases e : h.get? h.objs.size with
  | none => rfl
  | some o => exact absurd (Heap.lt_size e) (Nat.lt_irrefl _)
theorem size_none (h : Heap) : h.get? h.objs.size = none := by
  cases e : h.get? h.objs.size with
  | none => rfl
  | some o => exact absurd (Heap.lt_size e) (Nat.lt_irrefl _)
theorem Inv.newTup {xs : List AV} {vs : List Value} (I : Inv cx m cv st μ H h) (hr : VsRel μ xs vs) : Inv cx m cv st (μ ++ [h.objs.size]) (H ++ [.tup xs]) (h.push { cls := .type "tuple", data := .seq vs.toArray }) :=
  I.alloc (fun _ _ e => Heap.get?_push_of_some _ e) (size_none h) ⟨vs, 0, IsT.new _ _, hr.mono (List.prefix_append _ _)⟩
theorem Inv.isL {i : Nat} {mt : Bool} {xs : List AV} {a : Addr} (I : Inv cx m cv st μ H h) (e : H[i]? = some (.list mt xs)) (ha : μ[i]? = some a) : ∃ vs n, IsL h a vs.toArray n ∧ VsRel μ xs vs := I.obj i _ a e ha
theorem Inv.isT {i : Nat} {xs : List AV} {a : Addr} (I : Inv cx m cv st μ H h) (e : H[i]? = some (.tup xs)) (ha : μ[i]? = some a) : ∃ vs n, IsT h a vs.toArray n ∧ VsRel μ xs vs := I.obj i _ a e ha
theorem VRel.i? {v : AV} {a : Value} {i : Int} (h : VRel μ v a) (e : v.i? = some i) : ∃ t, a = .int i t := by
  cases h <;> cases e
  exact ⟨_, rfl⟩
theorem VRel.s? {v : AV} {a : Value} {x : Str} (h : VRel μ v a) (e : v.s? = some x) : ∃ t, a = .str x t := by
  cases h <;> cases e
  exact ⟨_, rfl⟩
theorem s?_some {v : AV} {x : Str} (e : v.s? = some x) : v = .str x := by cases v <;> cases e; rfl
theorem str_nil_add {x y : Str} (h : (x.length == 0) = true) : x ++ y = y := by
  apply Str.ext'
  apply Array.toList_inj.mp
  have : x.cps.toList = [] := by
    apply List.eq_nil_of_length_eq_zero
    have := beq_iff_eq.mp h
    simpa [Str.length] using this
  rw [Str.cps_append, Array.toList_append, this, List.nil_append]
theorem str_add_nil {x y : Str} (h : (y.length == 0) = true) : x ++ y = x := by
  apply Str.ext'
  apply Array.toList_inj.mp
  have : y.cps.toList = [] := by
    apply List.eq_nil_of_length_eq_zero
    have := beq_iff_eq.mp h
    simpa [Str.length] using this
  rw [Str.cps_append, Array.toList_append, this, List.append_nil]
theorem VRel.r? {v : AV} {a : Value} {i : Nat} (h : VRel μ v a) (e : v.r? = some i) : ∃ b, μ[i]? = some b ∧ a = .ref b := by
  cases h <;> cases e
  exact ⟨_, ‹_›, rfl⟩
theorem VRel.refInv {i : Nat} {v : Value} (h : VRel μ (.ref i) v) : ∃ a, μ[i]? = some a ∧ v = .ref a := h.r? rfl
theorem l?_some {o : AObj} {xs : List AV} (e : o.l? = some xs) : ∃ mt, o = .list mt xs := by
  cases o <;> cases e
  exact ⟨_, rfl⟩
theorem its?_some {o : AObj} {xs : List AV} (e : o.its? = some xs) : (∃ mt, o = .list mt xs) ∨ o = .tup xs := by
  cases o <;> cases e
  · exact .inl ⟨_, rfl⟩
  · exact .inr rfl
theorem m?_some {o : AObj} {xs : List AV} (e : o.m? = some xs) : o = .list true xs := by
  cases o with
  | list mt ys => cases mt <;> cases e; rfl
  | tup _ => cases e
  | book _ _ _ => cases e
theorem r?_some {v : AV} {i : Nat} (e : v.r? = some i) : v = .ref i := by cases v <;> cases e; rfl
theorem i?_some {v : AV} {i : Int} (e : v.i? = some i) : v = .int i := by cases v <;> cases e; rfl
theorem b?_some {v : AV} {i : Bool} (e : v.b? = some i) : v = .bool i := by cases v <;> cases e; rfl
theorem bind_some {α β : Type} {o : Option α} {f : α → Option β} {b : β} (e : o.bind f = some b) : ∃ a, o = some a ∧ f a = some b := by
  cases o with
  | none => cases e
  | some a => exact ⟨a, rfl, e⟩
theorem at?_some {v : AV} {o : AObj} (e : at? v H = some o) : ∃ i, v = .ref i ∧ H[i]? = some o := by
  obtain ⟨i, e1, e2⟩ := bind_some e
  exact ⟨i, r?_some e1, e2⟩
/-- a list of the abstract heap, in the heap -/
theorem Inv.lst {v : AV} {a : Value} {xs : List AV} (I : Inv cx m cv st μ H h) (r : VRel μ v a) (e : lstOf v H = some xs) : ∃ i b mt vs n, v = .ref i ∧ a = .ref b ∧ μ[i]? = some b ∧ H[i]? = some (.list mt xs) ∧ IsL h b vs.toArray n ∧ VsRel μ xs vs := by
  obtain ⟨o, e1, e2⟩ := bind_some e
  obtain ⟨i, rfl, e3⟩ := at?_some e1
  obtain ⟨mt, rfl⟩ := l?_some e2
  obtain ⟨b, hb, rfl⟩ := r.refInv
  obtain ⟨vs, n, hl, hr⟩ := I.isL e3 hb
  exact ⟨i, b, mt, vs, n, rfl, rfl, hb, e3, hl, hr⟩
theorem Inv.its {v : AV} {a : Value} {xs : List AV} (I : Inv cx m cv st μ H h) (r : VRel μ v a) (e : items v H = some xs) : ∃ i b vs n, v = .ref i ∧ a = .ref b ∧ μ[i]? = some b ∧ (IsL h b vs.toArray n ∨ IsT h b vs.toArray n) ∧ VsRel μ xs vs := by
  obtain ⟨o, e1, e2⟩ := bind_some e
  obtain ⟨i, rfl, e3⟩ := at?_some e1
  obtain ⟨b, hb, rfl⟩ := r.refInv
  rcases its?_some e2 with ⟨mt, rfl⟩ | rfl
  · obtain ⟨vs, n, hl, hr⟩ := I.isL e3 hb
    exact ⟨i, b, vs, n, rfl, rfl, hb, .inl hl, hr⟩
  · obtain ⟨vs, n, hl, hr⟩ := I.isT e3 hb
    exact ⟨i, b, vs, n, rfl, rfl, hb, .inr hl, hr⟩
theorem VsRel.one? {xs : List AV} {vs : List Value} {x : AV} (h : VsRel μ xs vs) (e : Mine.one? xs = some x) : ∃ v, vs = [v] ∧ xs = [x] ∧ VRel μ x v := by
  cases xs with
  | nil => cases e
  | cons y r =>
    cases r with
    | nil =>
      cases e
      obtain ⟨v, q, rfl, h1, h2⟩ := h.head
      obtain rfl := h2.nil_inv
      exact ⟨v, rfl, rfl, h1⟩
    | cons _ _ => cases e
end

/-! operations on values -/
section
variable {prog : Program} {w : World} {cx : Fx} {m : Str → Option Value} {cv st : List (Addr × Obj)} {μ : List Addr} {H : AH} {s : Shared} {E : Value → Shared → Prop} {Q : Value → Shared → Prop}
  {x y : AV} {a b : Value}

theorem mulOk_ok {i j : Int} (h : mulOk i j = true) : IntMulOk i j := by
  unfold mulOk at h
  simp only [Bool.or_eq_true, Bool.and_eq_true, decide_eq_true_eq] at h
  rcases h with (h | h) | h
  · exact .of_left (intBits_le_64 (by decreasing_trivial) (by decreasing_trivial))
  · exact .of_right (intBits_le_64 (by decreasing_trivial) (by decreasing_trivial))
  · have bits : ∀ k : Int, k.natAbs < 2 ^ 1000 → Builtin.Int.intBits k ≤ 1000 := fun k hk => by
      unfold Builtin.Int.intBits
      split
      · exact Nat.zero_le _
      · have : k.natAbs.log2 < 1000 := by
          rcases Nat.eq_zero_or_pos k.natAbs with h0 | hp
          · rw [h0]; decide
          · exact (Nat.log2_lt (Nat.ne_of_gt hp)).mpr hk
        decreasing_trivial
    have b1 := bits i h.1
    have b2 := bits j h.2
    unfold IntMulOk
    intro q
    simp only [Bool.and_eq_true] at q
    have q2 := q.2
    unfold Builtin.Int.intTooBig at q2
    have q3 := of_decide_eq_true q2
    have q4 := bitsLine_eq
    clear h
    decreasing_trivial

theorem log2_1000 {y : Int} (h : y.natAbs < 2 ^ 1000) : y.natAbs.log2 < 9000 := by
  rcases Nat.eq_zero_or_pos y.natAbs with h0 | hp
  · rw [h0]; decide
  · exact Nat.lt_of_lt_of_le ((Nat.log2_lt (Nat.ne_of_gt hp)).mpr h) (by decide)

theorem mul_list_raw {l : Addr} {v : Value} {k : Nat} {x : Int} {u : Tok} (hl : IsL s.heap l #[v] k) (h0 : 0 ≤ x) (hx : x ≤ 1000000)
    (h : Q (.ref s.heap.objs.size) { s with heap := s.heap.push { cls := .type "list", data := .seq (List.replicate x.toNat v).toArray } }) : wpAny (model prog w) cx.A (binaryOp .Mult (.ref l) (.int x u)) Q E s := by
  have e : List.foldl (fun x1 x2 => x1 ++ x2) (#[] : Array Value) (List.replicate (if (#[v] : Array Value).isEmpty = true then 0 else x.toNat) #[v]) = (List.replicate x.toNat v).toArray := by
    have : ∀ (n : Nat) (acc : Array Value), List.foldl (fun x1 x2 => x1 ++ x2) acc (List.replicate n #[v]) = acc ++ (List.replicate n v).toArray := by
      intro n
      induction n with
      | zero => intro acc; simp
      | succ n ih => intro acc; rw [List.replicate_succ, List.foldl_cons, ih, List.replicate_succ]; apply Array.ext'; simp
    simpa using this x.toNat #[]
  refine wpAny_binaryOp_repeat_ref (T := "list") (U := "int") (by decide) ⟨_, hl, rfl⟩ (fun s' => typeIs_int s' x u) noFill_list_mul F.fills_int_mul F.slot_int_rmul repeat_list F.slot_int_index.lookup
    (call_meets F.slot_int_rmul (typeIs_int s x u) F.entry_int_rmul (F.args_int_rmul_2 _ _) (int___rmul___int_list x u l #[v] k)
      ⟨hl, rfl, ⟨_, hl, rfl⟩, call_meets F.slot_list_mul ⟨_, hl, rfl⟩ F.entry_list_mul (F.args_list_mul_2 _ _)
        (AutoListH.list___mul___list_int_3 l #[v] k x u (by simp [Builtin.List.listFitsIndex]; decreasing_trivial) (by simp; decreasing_trivial) (by simp [Builtin.List.listTooLong, sizeLine]; decreasing_trivial)) ⟨hl, ?_⟩⟩)
  rw [e]; exact h

theorem PostG.int2 {k : Int → Int → Res AV} (rx : VRel μ x a) (ry : VRel μ y b) (p : PostG cx m cv st s μ RV Q E (Mine.int2 x y k)) : ∃ i j t u, a = .int i t ∧ b = .int j u ∧ PostG cx m cv st s μ RV Q E (k i j) := by
  obtain ⟨i, e, p⟩ := p.opt
  obtain ⟨j, e', p⟩ := p.opt
  obtain ⟨t, rfl⟩ := rx.i? e
  obtain ⟨u, rfl⟩ := ry.i? e'
  exact ⟨i, j, t, u, rfl, rfl, p⟩
/-- a new list is the answer -/
theorem PostG.new {ys : List AV} {ws : List Value} (I : Inv cx m cv st μ H s.heap) (r : VsRel μ ys ws) (p : PostG cx m cv st s μ RV Q E (alloc (.list true ys) H)) : Q (.ref s.heap.objs.size) { s with heap := s.heap.push { cls := .type "list", data := .seq ws.toArray } } :=
  p (.ref s.heap.objs.size) _ s.toks (μ ++ [s.heap.objs.size]) (List.prefix_append _ _) (I.newList true r) (I.refNew _)
theorem PostG.val {v : AV} {b : Value} (I : Inv cx m cv st μ H s.heap) (p : PostG cx m cv st s μ RV Q E (.ok v H)) (r : VRel μ v b) (tk : Nat) : Q b { s with toks := tk } := p b s.heap tk μ (pfx _) I r

theorem add_sound (I : Inv cx m cv st μ H s.heap) (rx : VRel μ x a) (ry : VRel μ y b) (p : PostG cx m cv st s μ RV Q E (addA x y H)) : wpAny (model prog w) cx.A (binaryOp .Add a b) Q E s := by
  cases rx with
  | none => exact p.elim
  | str x t =>
    obtain ⟨y', e, p⟩ := p.opt
    obtain ⟨hs, p⟩ := p.chkD
    obtain ⟨u, rfl⟩ := ry.s? e
    refine P.add_str ?_
    split
    · rename_i hz
      have := p.val I (.str _ u) s.toks
      rw [str_nil_add hz] at this
      exact this
    · split
      · rename_i hz
        have := p.val I (.str _ t) s.toks
        rw [str_add_nil hz] at this
        exact this
      · refine ⟨?_, p.val I (.str _ _) _⟩
        have : (x ++ y').length = x.length + y'.length := by simp [Str.length, Str.cps_append]
        rw [this, sizeLine_eq]; exact hs
  | bool _ => exact p.elim
  | int i t =>
    obtain ⟨j, e, p⟩ := p.opt
    obtain ⟨u, rfl⟩ := ry.i? e
    exact PyProof.Rows.add_int (p.val I (.int _ _) _)
  | ref ha =>
    obtain ⟨xs, e, p⟩ := p.opt
    obtain ⟨ys, e', p⟩ := p.opt
    obtain ⟨hs, p⟩ := p.chkD
    obtain ⟨_, _, _, vs, n, _, hq, _, _, l1, r1⟩ := I.lst (VRel.ref ha) e
    cases hq
    obtain ⟨_, _, _, ws, k, _, rfl, _, _, l2, r2⟩ := I.lst ry e'
    refine P.add_list l1 l2 ?_ ?_
    · have := p.new I (r1.append r2)
      rw [List.append_toArray]; exact this
    · rw [List.size_toArray, List.size_toArray, sizeLine_eq, ← r1.1, ← r2.1]; exact hs
theorem mul_sound (I : Inv cx m cv st μ H s.heap) (rx : VRel μ x a) (ry : VRel μ y b) (p : PostG cx m cv st s μ RV Q E (mulA x y H)) : wpAny (model prog w) cx.A (binaryOp .Mult a b) Q E s := by
  obtain ⟨j, e, p⟩ := p.opt
  obtain ⟨u, rfl⟩ := ry.i? e
  cases rx with
  | none => exact p.elim
  | str _ _ => exact p.elim
  | bool _ => exact p.elim
  | int i t =>
    obtain ⟨hm, p⟩ := p.chk
    exact PyProof.Rows.mul_int (p.val I (.int _ _) _) (mulOk_ok hm)
  | ref ha =>
    obtain ⟨v, e, p⟩ := p.opt
    obtain ⟨hs, p⟩ := p.chkD
    obtain ⟨xs, e1, e2⟩ := bind_some e
    obtain ⟨_, _, _, vs, n, _, hq, _, _, l1, r1⟩ := I.lst (VRel.ref ha) e1
    cases hq
    obtain ⟨v, rfl, _, hv⟩ := r1.one? e2
    exact mul_list_raw l1 hs.1 hs.2 (p.new I (.replicate hv _))
theorem divOk_ok {y : Int} (h : divOk y = true) : y ≠ 0 ∧ y.natAbs < 2 ^ 1000 := by
  have := Bool.and_eq_true_iff.mp h
  exact ⟨of_decide_eq_true this.1, of_decide_eq_true this.2⟩
theorem bin_sound {op : BOp} {o : Operator} (ho : bopOf o = some op) (I : Inv cx m cv st μ H s.heap) (rx : VRel μ x a) (ry : VRel μ y b) (p : PostG cx m cv st s μ RV Q E (binA op x y H)) :
    wpAny (model prog w) cx.A (binaryOp o a b) Q E s := by
  cases o <;> cases ho
  · exact add_sound I rx ry p
  · obtain ⟨i, j, t, u, rfl, rfl, p⟩ := PostG.int2 rx ry p
    exact PyProof.Rows.sub_int (p.val I (.int _ _) _)
  · exact mul_sound I rx ry p
  · obtain ⟨i, j, t, u, rfl, rfl, p⟩ := PostG.int2 rx ry p
    obtain ⟨hm, p⟩ := p.chk
    exact PyProof.Rows.mod_int' (divOk_ok hm).1 (p.val I (.int _ _) _)
  · obtain ⟨i, j, t, u, rfl, rfl, p⟩ := PostG.int2 rx ry p
    obtain ⟨hm, p⟩ := p.chk
    have h1 := Bool.and_eq_true_iff.mp hm
    have h2 := of_decide_eq_true h1.1
    exact PyProof.Rows.pow_int_small h2.1 h2.2 (of_decide_eq_true h1.2) (p.val I (.int _ _) _)
  · obtain ⟨i, j, t, u, rfl, rfl, p⟩ := PostG.int2 rx ry p
    obtain ⟨hm, p⟩ := p.chk
    exact PyProof.Rows.floordiv_int (divOk_ok hm).1 (p.val I (.int _ _) _) (.inl (PyProof.noPylong_of_log2 (log2_1000 (divOk_ok hm).2)))
end
end Mine

/-! ## part C6 -/
namespace Mine
open PySem PySem.W PyProof.Rows

section
variable {cx : Fx} {m : Str → Option Value} {cv st : List (Addr × Obj)} {μ : List Addr} {H : AH} {h : Heap}

theorem optAll_get {α β : Type} {f : α → Option β} : ∀ {l : List α} {r : List β}, optAll f l = some r → l.length = r.length ∧ ∀ (i : Nat) (a : α), l[i]? = some a → ∃ b, f a = some b ∧ r[i]? = some b
  | [], r, e => by cases e; exact ⟨rfl, fun i a h => by cases h⟩
  | a :: l, r, e => by
    obtain ⟨x, q1, e⟩ := bind_some e
    obtain ⟨y, q2, rfl⟩ := Option.map_eq_some_iff.mp e
    obtain ⟨h1, h2⟩ := optAll_get q2
    refine ⟨congrArg Nat.succ h1, fun i b hb => ?_⟩
    cases i with
    | zero => cases hb; exact ⟨x, q1, rfl⟩
    | succ i => exact h2 i b hb

theorem readsAll_of {h : Heap} : ∀ {vs : List Value} {ds : List PyData}, vs.length = ds.length → (∀ (i : Nat) (v : Value) (d : PyData), vs[i]? = some v → ds[i]? = some d → ∃ as, Reads h v d as) → ∃ as, ReadsAll h vs ds as
  | [], [], _, _ => ⟨_, .nil⟩
  | v :: vs, d :: ds, hl, hr => by
    obtain ⟨as, ha⟩ := hr 0 v d rfl rfl
    obtain ⟨bs, hb⟩ := readsAll_of (vs := vs) (ds := ds) (by simpa using hl) fun i v d a b => hr (i + 1) v d (by simpa using a) (by simpa using b)
    exact ⟨_, .cons ha hb⟩
  | [], _ :: _, hl, _ => by simp at hl
  | _ :: _, [], hl, _ => by simp at hl
theorem canLayAll_of : ∀ {ds : List PyData}, (∀ d ∈ ds, d.canLay0 = true) → PyData.canLayAll0 ds = true
  | [], _ => rfl
  | d :: r, h => by simp only [PyData.canLayAll0, Bool.and_eq_true]; exact ⟨h d (.head _), canLayAll_of fun x hx => h x (.tail _ hx)⟩
theorem depthAll_of {n : Nat} : ∀ {ds : List PyData}, (∀ d ∈ ds, d.depth ≤ n) → PyData.depthAll ds ≤ n
  | [], _ => Nat.zero_le _
  | d :: r, h => by simp only [PyData.depthAll]; exact Nat.max_le.mpr ⟨h d (.head _), depthAll_of fun x hx => h x (.tail _ hx)⟩

theorem datA_reads (I : Inv cx m cv st μ H h) : ∀ (d : Nat) (v : AV) (D : PyData) (a : Value), datA d H v = some D → VRel μ v a → (∃ as, Reads h a D as) ∧ D.canLay0 = true ∧ D.depth ≤ d
  | 0, _, _, _, e, _ => by cases e
  | d + 1, v, D, a, e, r => by
    have body : ∀ {xs : List AV} {ys : List PyData} {vs : List Value}, optAll (datA d H) xs = some ys → VsRel μ xs vs → (∃ as, ReadsAll h vs ys as) ∧ PyData.canLayAll0 ys = true ∧ PyData.depthAll ys ≤ d := by
      intro xs ys vs q hr
      obtain ⟨h1, h2⟩ := optAll_get q
      have each : ∀ (i : Nat) (v : Value) (D : PyData), vs[i]? = some v → ys[i]? = some D → (∃ as, Reads h v D as) ∧ D.canLay0 = true ∧ D.depth ≤ d := by
        intro i v D e1 e2
        have hi : i < xs.length := by rw [hr.1]; exact (List.getElem?_eq_some_iff.mp e1).1
        obtain ⟨b, hb, hy⟩ := h2 i xs[i] (List.getElem?_eq_getElem hi)
        obtain rfl : b = D := Option.some.inj (hy.symm.trans e2)
        exact datA_reads I d xs[i] b v hb (hr.2 i _ v (List.getElem?_eq_getElem hi) e1)
      have all : ∀ D ∈ ys, D.canLay0 = true ∧ D.depth ≤ d := fun D hD => by
        obtain ⟨i, hi, e⟩ := List.mem_iff_getElem.mp hD
        have hj : i < vs.length := by rw [← hr.1, h1]; exact hi
        exact (each i vs[i] D (List.getElem?_eq_getElem hj) (by rw [List.getElem?_eq_getElem hi, e])).2
      exact ⟨readsAll_of (by rw [← hr.1, h1]) fun i v D e1 e2 => (each i v D e1 e2).1, canLayAll_of fun D hD => (all D hD).1, depthAll_of fun D hD => (all D hD).2⟩
    cases r with
    | none => cases e; exact ⟨⟨_, .none⟩, rfl, Nat.zero_le _⟩
    | bool b => cases e; exact ⟨⟨_, .bool b⟩, rfl, Nat.zero_le _⟩
    | int i t => cases e; exact ⟨⟨_, .int i t⟩, rfl, Nat.zero_le _⟩
    | str x t =>
      have e : (if PyData.strOk x then some (PyData.str x) else none) = some D := e
      by_cases q : PyData.strOk x = true
      · rw [if_pos q] at e; cases e; exact ⟨⟨_, .str x t⟩, q, Nat.zero_le _⟩
      · rw [if_neg q] at e; cases e
    | ref ha =>
      obtain ⟨o, q, e⟩ := bind_some e
      cases o with
      | book _ _ _ => cases e
      | list mt xs =>
        obtain ⟨ys, hy, rfl⟩ := Option.map_eq_some_iff.mp e
        obtain ⟨vs, n, hl, hr⟩ := I.isL q ha
        obtain ⟨⟨as, h1⟩, h2, h3⟩ := body hy hr
        exact ⟨⟨_, .list hl rfl rfl h1⟩, h2, by simp only [PyData.depth]; decreasing_trivial⟩
      | tup xs =>
        obtain ⟨ys, hy, rfl⟩ := Option.map_eq_some_iff.mp e
        obtain ⟨vs, n, hl, hr⟩ := I.isT q ha
        obtain ⟨⟨as, h1⟩, h2, h3⟩ := body hy hr
        exact ⟨⟨_, .tuple hl rfl rfl h1⟩, h2, by simp only [PyData.depth]; decreasing_trivial⟩
end

section
variable {prog : Program} {w : World} {cx : Fx} {m : Str → Option Value} {cv st : List (Addr × Obj)} {μ : List Addr} {H : AH} {s : Shared} {E : Value → Shared → Prop} {Q : Value → Shared → Prop}
  {x y : AV} {a b : Value}

theorem eqA_sound (hu : cx.A.units + 8 < cLine) (I : Inv cx m cv st μ H s.heap) (rx : VRel μ x a) (ry : VRel μ y b) {r : Bool} (e : eqA H x y = some r) :
    (∀ Q : Value → Shared → Prop, Q (.bool r) s → wpAny (model prog w) cx.A (compareOp .Eq a b) Q E s) ∧ (∀ Q : Value → Shared → Prop, Q (.bool (!r)) s → wpAny (model prog w) cx.A (compareOp .NotEq a b) Q E s) := by
  obtain ⟨D1, q1, e⟩ := bind_some e
  obtain ⟨D2, q2, rfl⟩ := Option.map_eq_some_iff.mp e
  obtain ⟨⟨as, r1⟩, c1, d1⟩ := datA_reads I 5 _ _ _ q1 rx
  obtain ⟨⟨bs, r2⟩, c2, d2⟩ := datA_reads I 5 _ _ _ q2 ry
  have hu' : cx.A.units + min D1.depth D2.depth < cLine := by decreasing_trivial
  exact ⟨fun Q h => SeqAt.compareEq_reads r1 r2 c1 c2 hu' h, fun Q h => SeqAt.compareNe_reads r1 r2 c1 c2 hu' h⟩

theorem cmp_sound {op : COp} {o : CmpOp} (hu : cx.A.units + 8 < cLine) (ho : copOf o = some op) (I : Inv cx m cv st μ H s.heap) (rx : VRel μ x a) (ry : VRel μ y b) (p : PostG cx m cv st s μ RV Q E (cmpA op x y H)) :
    wpAny (model prog w) cx.A (compareOp o a b) Q E s := by
  cases o <;> cases ho
  · obtain ⟨r, q, p⟩ := p.opt
    exact (eqA_sound hu I rx ry q).1 _ (p.val I (.bool _) _)
  · obtain ⟨r, q, p⟩ := p.opt
    exact (eqA_sound hu I rx ry q).2 _ (p.val I (.bool _) _)
  · obtain ⟨i, j, t, u, rfl, rfl, p⟩ := PostG.int2 rx ry p
    exact PyProof.Rows.lt_int (p.val I (.bool _) _)
  · obtain ⟨i, j, t, u, rfl, rfl, p⟩ := PostG.int2 rx ry p
    exact PyProof.Rows.le_int (p.val I (.bool _) _)
  · obtain ⟨i, j, t, u, rfl, rfl, p⟩ := PostG.int2 rx ry p
    exact PyProof.Rows.gt_int (p.val I (.bool _) _)
  · obtain ⟨i, j, t, u, rfl, rfl, p⟩ := PostG.int2 rx ry p
    exact P.ge_int (p.val I (.bool _) _)
  · obtain ⟨hn, p⟩ := p.chk
    cases ry <;> cases hn
    refine is_none_gen ?_
    have e : (a == Value.none) = isNone x := by cases rx <;> rfl
    rw [e]; exact p.val I (.bool _) s.toks

theorem getI_list {xs : List AV} {vs : List Value} {k : Int} {v : AV} {l : Addr} {n : Nat} {t : Tok} (hl : IsL s.heap l vs.toArray n) (hr : VsRel μ xs vs) (e : getI xs k = some v) (h : ∀ b, VRel μ v b → Q b s) : wpAny (model prog w) cx.A (getItem (.ref l) (.int k t)) Q E s := by
  unfold getI at e
  split at e
  · rename_i h0
    split at e
    · rename_i h1
      obtain ⟨b, hb, hv⟩ := hr.get e
      exact wpAny_getItem_list hl.isList h0 h1 (by simpa using hb) (h b hv)
    · cases e
  · rename_i h0
    split at e
    · rename_i h1
      obtain ⟨b, hb, hv⟩ := hr.get e
      have e1 : vs.toArray.size = xs.length := by simp [hr.1]
      exact wpAny_getItem_list_neg hl.isList (by decreasing_trivial) (by rw [e1]; exact h1.1) (by have := h1.1; have := h1.2; decreasing_trivial) (by rw [e1]; simpa using hb) (h b hv)
    · cases e
theorem getI_tup {xs : List AV} {vs : List Value} {k : Int} {v : AV} {l : Addr} {n : Nat} {t : Tok} (hl : IsT s.heap l vs.toArray n) (hr : VsRel μ xs vs) (e : getI xs k = some v) (h : ∀ b, VRel μ v b → Q b s) : wpAny (model prog w) cx.A (getItem (.ref l) (.int k t)) Q E s := by
  have e1 : vs.toArray.size = xs.length := by simp [hr.1]
  unfold getI at e
  split at e
  · rename_i h0
    split at e
    · rename_i h1
      have hi := (List.getElem?_eq_some_iff.mp e).1
      obtain ⟨b, hb, hv⟩ := hr.get e
      exact P.getItem_tuple hl (by decreasing_trivial) h1 (seqIndex_of h0 (by rw [e1]; decreasing_trivial)) (by simpa using hb) (h b hv)
    · cases e
  · rename_i h0
    split at e
    · rename_i h1
      obtain ⟨b, hb, hv⟩ := hr.get e
      exact P.getItem_tuple hl (by have := h1.1; have := h1.2; decreasing_trivial) (by decreasing_trivial) (by rw [e1]; exact seqIndex_neg (by decreasing_trivial) h1.1) (by simpa using hb) (h b hv)
    · cases e

theorem sub_plain {slice : Expr} {o i : Value} (hs : isSlice slice = false) : subscripted slice false o i = operate [o, i] (getItem o i) := by
  cases slice <;> first | rfl | cases hs
theorem idx_sound {value slice : Expr} (hs : isSlice slice = false) (I : Inv cx m cv st μ H s.heap) (rx : VRel μ x a) (ry : VRel μ y b) (p : PostG cx m cv st s μ RV Q E (idxA x y H)) :
    wpAny (model prog w) cx.A (subscriptTail value slice a b) Q E s := by
  obtain ⟨k, e, p⟩ := p.opt
  obtain ⟨t, rfl⟩ := ry.i? e
  rcases p.orS with ⟨z, rfl, p⟩ | ⟨_, p⟩
  · obtain ⟨c, hc, p⟩ := p.opt
    obtain ⟨tt, rfl⟩ := rx.s? rfl
    unfold sgAt at hc
    split at hc
    · rename_i hk
      have hlt := (Array.getElem?_eq_some_iff.mp hc).1
      refine tail_any (typeIs_str _ _ _) F.slot_str_getitem.lookup (P.getItem_str (c := c) ?_ ?_ (p.val I (.str _ _) _)) (sub_plain hs)
      · have h2 : k < 9223372036854775808 := hk.2
        rw [Bool.or_eq_false_iff]
        exact ⟨decide_eq_false (by decreasing_trivial), decide_eq_false (by decreasing_trivial)⟩
      · have : k < z.length := by show k < (z.cps.size : Int); decreasing_trivial
        rw [seqIndex_of hk.1 this]
        exact hc
    · cases hc
  obtain ⟨v, e', p⟩ := p.opt
  obtain ⟨xs, q, g⟩ := bind_some e'
  obtain ⟨_, _, vs, n, _, rfl, _, hl | hl, hr⟩ := I.its rx q
  · exact tail_any ⟨_, hl, rfl⟩ slot_list_getitem.lookup (getI_list hl hr g fun b hb => p.val I hb s.toks) (sub_plain hs)
  · exact tail_any ⟨_, hl, rfl⟩ F.slot_tuple_getitem.lookup (getI_tup hl hr g fun b hb => p.val I hb s.toks) (sub_plain hs)

/-- the class of books as the written part bears it -/
structure BkCls (K : Frag) (C : Addr) : Prop where
  g0 : plainGet K C "size" = true
  g1 : plainGet K C "begins" = true
  g2 : plainGet K C "numbers" = true
  hd : hasDictIn K C = true
  f0 : findIn K (.ref C) "size" = some none
  f1 : findIn K (.ref C) "begins" = some none
  f2 : findIn K (.ref C) "numbers" = some none

theorem handed_of {v : AV} (h : VRel μ v a) : handedIn a = true := by cases h <;> rfl

theorem attr_sound {K : Frag} {n : Nat} {nm : Str} (B : BkCls K cx.C) (X : K.In cx.h₀) (hn : attrOf nm = some n) (I : Inv cx m cv st μ H s.heap) (rx : VRel μ x a) (p : PostG cx m cv st s μ RV Q E (attrA x n H)) :
    wpAny (model prog w) cx.A (getAttr a nm true) Q E s := by
  obtain ⟨z, e, p⟩ := p.opt
  obtain ⟨o, e1, e2⟩ := bind_some e
  obtain ⟨i, rfl, q⟩ := at?_some e1
  cases o <;> cases e2
  obtain ⟨ad, ha, rfl⟩ := rx.refInv
  obtain ⟨dx, h1, h2, h3, t1, t2, t3, vx, vy, vz, k, e1, e2, r1, r2, r3, _⟩ := I.obj _ _ _ q ha
  have IA : InstAt s.heap _ (instObj cx.C dx) cx.C (some (bookDict h1 h2 h3 t1 t2 t3 vx vy vz k)) := ⟨e1, rfl, rfl, e2⟩
  unfold attrOf at hn
  split at hn
  · rename_i z
    cases hn
    obtain rfl : nm = "size" := beq_iff_eq.mp z
    exact get_own I.fr X IA B.g0 B.hd B.f0 rfl (by rfl) (handed_of r1) (p.val I r1 _)
  · split at hn
    · rename_i z
      cases hn
      obtain rfl : nm = "begins" := beq_iff_eq.mp z
      exact get_own I.fr X IA B.g1 B.hd B.f1 rfl (by rfl) (handed_of r2) (p.val I r2 _)
    · split at hn
      · rename_i z
        cases hn
        obtain rfl : nm = "numbers" := beq_iff_eq.mp z
        exact get_own I.fr X IA B.g2 B.hd B.f2 rfl (by rfl) (handed_of r3) (p.val I r3 _)
      · cases hn
end
end Mine

/-! ## part C7 -/
namespace Mine
open PySem PySem.W PyProof.Rows

section
variable {prog : Program} {w : World} {cx : Fx} {m : Str → Option Value} {cv st : List (Addr × Obj)} {μ : List Addr} {H : AH} {s : Shared} {E : Value → Shared → Prop} {Q : Value → Shared → Prop}
  {x y : AV} {a b : Value}

theorem VsRel.intsOf {xs : List AV} {vs : List Value} {ns : List Int} (h : VsRel μ xs vs) (e : Mine.intsOf xs = some ns) : ∃ ps : List (Int × Tok), vs = ps.map (fun p => .int p.1 p.2) ∧ ns = ps.map (·.1) := by
  induction xs generalizing vs ns with
  | nil => obtain rfl := h.nil_inv; cases e; exact ⟨[], rfl, rfl⟩
  | cons x xs ih =>
    obtain ⟨v, r, rfl, hv, hr⟩ := h.head
    obtain ⟨i, e1, e⟩ := bind_some e
    obtain ⟨ks, hk, rfl⟩ := Option.map_eq_some_iff.mp e
    obtain ⟨ps, rfl, rfl⟩ := ih hr hk
    obtain ⟨t, rfl⟩ := hv.i? e1
    exact ⟨(i, t) :: ps, rfl, rfl⟩
theorem preSum_map (ps : List (Int × Tok)) : preSum (numAt ps.toArray) ps.length = (ps.map (·.1)).sum := by
  have key : ∀ k, k ≤ ps.length → preSum (numAt ps.toArray) k = ((ps.take k).map (·.1)).sum := by
    intro k
    induction k with
    | zero => intro _; rfl
    | succ k ih =>
      intro hk
      have h1 := ih (by decreasing_trivial)
      rw [preSum, h1, List.take_add_one, List.getElem?_eq_getElem (by decreasing_trivial : k < ps.length)]
      simp only [List.map_append, List.sum_append, Option.toList_some, List.map_cons, List.map_nil, List.sum_cons, List.sum_nil, Int.add_zero]
      congr 1
      simp [numAt, List.getElem?_eq_getElem (by decreasing_trivial : k < ps.length)]
  have := key ps.length (Nat.le_refl _)
  rw [this, List.take_length]

theorem intItems_map (ps : List (Int × Tok)) : (ps.map (fun p => Value.int p.1 p.2)).toArray = intItems ps.toArray := by
  simp [intItems]

noncomputable def biName : Bi → Str
  | .len => "len" | .min => "min" | .max => "max" | .sum => "sum" | .sorted => "sorted" | .abs => "abs"
noncomputable def biVal (b : Bi) : Value := .builtin (match b with | .len => "len" | .min => "min" | .max => "max" | .sum => "sum" | .sorted => "sorted" | .abs => "abs")

theorem PostG.int2L {xs : List AV} {vs : List Value} {k : Int → Int → Res AV} (rs : VsRel μ xs vs) (p : PostG cx m cv st s μ RV Q E (Mine.int2L xs k)) : ∃ i j t u, vs = [.int i t, .int j u] ∧ PostG cx m cv st s μ RV Q E (k i j) := by
  cases xs with
  | nil => exact p.elim
  | cons x r =>
    obtain ⟨y, e, p⟩ := p.opt
    obtain ⟨v, q, rfl, hv, hr⟩ := rs.head
    obtain ⟨v', rfl, _, hv'⟩ := hr.one? e
    obtain ⟨i, j, t, u, rfl, rfl, p⟩ := PostG.int2 hv hv' p
    exact ⟨i, j, t, u, rfl, p⟩
theorem numAt_map (ps : List (Int × Tok)) {k : Nat} (hk : k < ps.length) : numAt ps.toArray k = (ps.map (·.1))[k]'(by rw [List.length_map]; exact hk) := by
  simp [numAt, List.getElem?_eq_getElem hk]
theorem minAt {ps : List (Int × Tok)} {n : Int} {v : Value} (e : (ps.map (·.1)).min? = some n) (h : (intItems ps.toArray)[argBest (fun i j => decide (numAt ps.toArray i < numAt ps.toArray j)) (ps.toArray.size - 1)]? = some v) : ∃ t, v = .int n t := by
  obtain ⟨h1, h2⟩ := List.min?_eq_some_iff.mp e
  have hne : 0 < ps.length := by cases ps with
    | nil => cases e
    | cons _ _ => exact Nat.zero_lt_succ _
  obtain ⟨b1, b2⟩ := argBest_lt (numAt ps.toArray) (ps.toArray.size - 1)
  have hs : ps.toArray.size = ps.length := List.size_toArray ..
  generalize argBest (fun i j => decide (numAt ps.toArray i < numAt ps.toArray j)) (ps.toArray.size - 1) = j at h b1 b2
  have hj : j < ps.length := by decreasing_trivial
  rw [← intItems_map] at h
  have hv : v = .int ps[j].1 ps[j].2 := by
    have : ((ps.map (fun p => Value.int p.1 p.2)).toArray)[j]? = some (.int ps[j].1 ps[j].2) := by simp [List.getElem?_eq_getElem hj]
    exact Option.some.inj (h.symm.trans this)
  have en : numAt ps.toArray j = n := by
    refine Int.le_antisymm ?_ ?_
    · obtain ⟨i, hi, e2⟩ := List.mem_iff_getElem.mp h1
      rw [List.length_map] at hi
      have := b2 i (by decreasing_trivial)
      rw [numAt_map ps hi, e2] at this
      exact this
    · rw [numAt_map ps hj]; exact h2 _ (List.getElem_mem _)
  rw [numAt_map ps hj, List.getElem_map] at en
  exact ⟨_, by rw [hv, en]⟩
theorem maxAt {ps : List (Int × Tok)} {n : Int} {v : Value} (e : (ps.map (·.1)).max? = some n) (h : (intItems ps.toArray)[argBest (fun i j => decide (numAt ps.toArray i > numAt ps.toArray j)) (ps.toArray.size - 1)]? = some v) : ∃ t, v = .int n t := by
  obtain ⟨h1, h2⟩ := List.max?_eq_some_iff.mp e
  have hne : 0 < ps.length := by cases ps with
    | nil => cases e
    | cons _ _ => exact Nat.zero_lt_succ _
  obtain ⟨b1, b2⟩ := argBest_gt (numAt ps.toArray) (ps.toArray.size - 1)
  have hs : ps.toArray.size = ps.length := List.size_toArray ..
  generalize argBest (fun i j => decide (numAt ps.toArray i > numAt ps.toArray j)) (ps.toArray.size - 1) = j at h b1 b2
  have hj : j < ps.length := by decreasing_trivial
  rw [← intItems_map] at h
  have hv : v = .int ps[j].1 ps[j].2 := by
    have : ((ps.map (fun p => Value.int p.1 p.2)).toArray)[j]? = some (.int ps[j].1 ps[j].2) := by simp [List.getElem?_eq_getElem hj]
    exact Option.some.inj (h.symm.trans this)
  have en : numAt ps.toArray j = n := by
    refine Int.le_antisymm ?_ ?_
    · rw [numAt_map ps hj]; exact h2 _ (List.getElem_mem _)
    · obtain ⟨i, hi, e2⟩ := List.mem_iff_getElem.mp h1
      rw [List.length_map] at hi
      have := b2 i (by decreasing_trivial)
      rw [numAt_map ps hi, e2] at this
      exact this
  rw [numAt_map ps hj, List.getElem_map] at en
  exact ⟨_, by rw [hv, en]⟩
/-- a list of numbers at hand -/
theorem Inv.nums {h : Heap} {v : AV} {c : Value} {ns : List Int} (I : Inv cx m cv st μ H h) (r : VRel μ v c) (e : numsOf v H = some ns) : ∃ (b : Addr) (ps : List (Int × Tok)) (n : Nat), c = .ref b ∧ IsL h b (intItems ps.toArray) n ∧ ns = ps.map (·.1) := by
  obtain ⟨ys, e3, e4⟩ := bind_some e
  obtain ⟨_, b, _, ws, n, _, rfl, _, _, hl, hr⟩ := I.lst r e3
  obtain ⟨ps, rfl, rfl⟩ := hr.intsOf e4
  rw [intItems_map] at hl
  exact ⟨b, ps, n, rfl, hl, rfl⟩
theorem ints_are : ∀ ps : List (Int × Tok), IntsAre (ps.map (fun p => Value.int p.1 p.2)) (ps.map (·.1))
  | [] => .nil
  | p :: ps => .cons p.1 p.2 (ints_are ps)
theorem ints_rel : ∀ {vs : List Value} {ns : List Int}, IntsAre vs ns → VsRel μ (ns.map .int) vs
  | _, _, .nil => .nil
  | _, _, .cons n t r => .cons (.int n t) (ints_rel r)
theorem sortL_eq {ns ns' : List Int} (hp : ns'.Perm ns) (hs : ns'.Pairwise (· ≤ ·)) : sortL ns = ns' := by
  have h1 : (sortL ns).Perm ns := List.mergeSort_perm _ _
  have h2 : (sortL ns).Pairwise fun a b => decide (a ≤ b) = true := List.pairwise_mergeSort (le := fun (a b : Int) => decide (a ≤ b)) (fun a b c x y => decide_eq_true (Int.le_trans (of_decide_eq_true x) (of_decide_eq_true y))) (fun a b => by
    rcases Int.le_total a b with q | q
    · rw [decide_eq_true q]; rfl
    · rw [decide_eq_true q, Bool.or_true]) _
  exact List.Perm.eq_of_pairwise (fun _ _ _ _ a b => Int.le_antisymm a b) (h2.imp fun x => of_decide_eq_true x) hs (h1.trans hp.symm)
theorem bi_sound {bi : Bi} {xs : List AV} {vs : List Value} (hh : cx.A.handled = none) (I : Inv cx m cv st μ H s.heap) (rs : VsRel μ xs vs) (p : PostG cx m cv st s μ RV Q E (biA bi xs H)) :
    wpAny (model prog w) cx.A (call (biVal bi) vs) Q E s := by
  cases bi with
  | len =>
    obtain ⟨x, e1, p⟩ := p.opt
    obtain ⟨v, rfl, _, hv⟩ := rs.one? e1
    rcases p.orS with ⟨z, rfl, p⟩ | ⟨_, p⟩
    · obtain ⟨hs, p⟩ := p.chkD
      obtain ⟨tt, rfl⟩ := hv.s? rfl
      have hs' : z.length ≤ 16777216 := hs
      exact P.len_str (by decreasing_trivial) (p.val I (.int _ _) _)
    obtain ⟨ys, e2, p⟩ := p.opt
    obtain ⟨hs, p⟩ := p.chkD
    obtain ⟨_, _, ws, n, _, rfl, _, hl | hl, hr⟩ := I.its hv e2
    · refine Calls.call_len_list hl.isList (by rw [List.size_toArray, ← hr.1]; decreasing_trivial) ?_
      rw [List.size_toArray, ← hr.1]
      exact p.val I (.int _ _) _
    · refine P.len_tuple hl (by rw [List.size_toArray, ← hr.1]; decreasing_trivial) ?_
      rw [List.size_toArray, ← hr.1]
      exact p.val I (.int _ _) _
  | min =>
    have p : PostG cx m cv st s μ RV Q E (match one? xs with
      | some v => optR ((numsOf v H).bind List.min?) fun n => .ok (.int n) H
      | none => Mine.int2L xs fun x y => .ok (.int (if y < x then y else x)) H) := p
    cases q1 : one? xs with
    | some x =>
      rw [q1] at p
      obtain ⟨n, e, p⟩ := p.opt
      obtain ⟨ns, e1, e2⟩ := bind_some e
      obtain ⟨v, rfl, _, hv⟩ := rs.one? q1
      obtain ⟨b, ps, k, rfl, hl, rfl⟩ := I.nums hv e1
      have hne : 0 < ps.toArray.size := by
        cases ps with
        | nil => cases e2
        | cons _ _ => exact Nat.zero_lt_succ _
      refine min_intList hh hl.isList hne fun v h' tk hv hk => ?_
      obtain ⟨t, rfl⟩ := minAt e2 hv
      exact p _ h' tk μ (pfx _) (I.keeps hk) (.int _ _)
    | none =>
    rw [q1] at p
    obtain ⟨i, j, t, u, rfl, p⟩ := PostG.int2L rs p
    refine min_two_ints hh fun h' tk hk => ?_
    by_cases z : j < i
    · rw [if_pos z]; rw [if_pos z] at p; exact p _ h' tk μ (pfx _) (I.keeps hk) (.int _ _)
    · rw [if_neg z]; rw [if_neg z] at p; exact p _ h' tk μ (pfx _) (I.keeps hk) (.int _ _)
  | max =>
    have p : PostG cx m cv st s μ RV Q E (match one? xs with
      | some v => optR ((numsOf v H).bind List.max?) fun n => .ok (.int n) H
      | none => Mine.int2L xs fun x y => .ok (.int (if x < y then y else x)) H) := p
    cases q1 : one? xs with
    | some x =>
      rw [q1] at p
      obtain ⟨n, e, p⟩ := p.opt
      obtain ⟨ns, e1, e2⟩ := bind_some e
      obtain ⟨v, rfl, _, hv⟩ := rs.one? q1
      obtain ⟨b, ps, k, rfl, hl, rfl⟩ := I.nums hv e1
      have hne : 0 < ps.toArray.size := by
        cases ps with
        | nil => cases e2
        | cons _ _ => exact Nat.zero_lt_succ _
      refine max_intList hh hl.isList hne fun v h' tk hv hk => ?_
      obtain ⟨t, rfl⟩ := maxAt e2 hv
      exact p _ h' tk μ (pfx _) (I.keeps hk) (.int _ _)
    | none =>
    rw [q1] at p
    obtain ⟨i, j, t, u, rfl, p⟩ := PostG.int2L rs p
    refine max_two_ints hh fun h' tk hk => ?_
    by_cases z : i < j
    · rw [if_pos z]; rw [if_pos z] at p; exact p _ h' tk μ (pfx _) (I.keeps hk) (.int _ _)
    · rw [if_neg z]; rw [if_neg z] at p; exact p _ h' tk μ (pfx _) (I.keeps hk) (.int _ _)
  | sum =>
    obtain ⟨ns, e, p⟩ := p.opt
    obtain ⟨x, e1, e2⟩ := bind_some e
    obtain ⟨ys, e3, e4⟩ := bind_some e2
    obtain ⟨v, rfl, _, hv⟩ := rs.one? e1
    obtain ⟨_, _, _, ws, n, _, rfl, _, _, hl, hr⟩ := I.lst hv e3
    obtain ⟨ps, rfl, rfl⟩ := hr.intsOf e4
    rw [intItems_map] at hl
    refine sum_intListG hh hl.isList fun h' tk t' hk => ?_
    have := p (.int (ps.map (·.1)).sum t') h' tk μ (pfx _) (I.keeps hk) (.int _ _)
    rw [← preSum_map] at this
    exact this
  | abs =>
    obtain ⟨n, e, p⟩ := p.opt
    obtain ⟨x, e1, e2⟩ := bind_some e
    obtain ⟨v, rfl, _, hv⟩ := rs.one? e1
    obtain ⟨t, rfl⟩ := hv.i? e2
    exact call_abs_int fun u tk => p (.int _ u) s.heap tk μ (pfx _) I (.int _ _)
  | sorted =>
    obtain ⟨ns, e, p⟩ := p.opt
    obtain ⟨h64, p⟩ := p.chkD
    obtain ⟨x, e1, e2⟩ := bind_some e
    obtain ⟨v, rfl, _, hv⟩ := rs.one? e1
    obtain ⟨b, ps, k, rfl, hl, rfl⟩ := I.nums hv e2
    rw [← intItems_map] at hl
    refine sorted_ints hl.isList (ints_are ps) (by rw [List.length_map]; rw [List.length_map] at h64; exact h64) fun out ns' a1 a2 a3 => ?_
    rw [sortL_eq a2 a3] at p
    obtain ⟨z, hz⟩ := sortedAll_at s.heap (ps.map (fun p => Value.int p.1 p.2)) out
    have hn : s.heap.get? (s.heap.objs.size + 1) = none := by
      cases q : s.heap.get? (s.heap.objs.size + 1) with
      | none => rfl
      | some o => exact absurd (Heap.lt_size q) (Nat.not_lt.mpr (Nat.le_succ _))
    refine p (.ref (s.heap.objs.size + 1)) _ s.toks (μ ++ [s.heap.objs.size + 1]) (List.prefix_append _ _) (I.alloc (fun _ _ => sortedAll_old) hn ⟨out.toList, z, ?_, (ints_rel a1).mono (List.prefix_append _ _)⟩) (I.refNew _)
    rw [Array.toArray_toList]; exact hz
end
end Mine

/-! ## part C8 -/
namespace Mine
open PySem PySem.W PyProof.Rows

section
variable {prog : Program} {w : World} {cx : Fx} {m : Str → Option Value} {cv st : List (Addr × Obj)} {μ : List Addr} {H : AH} {s : Shared} {E : Value → Shared → Prop} {Q : Value → Shared → Prop}
  {x y : AV} {a b : Value}

/-! a list's item stored -/
theorem setItem_raw {l : Addr} {items : Array Value} {n : Nat} {k : Int} {t : Tok} {v : Value} {Q : Unit → Shared → Prop} (hl : IsL s.heap l items n) (h0 : 0 ≤ k) (hfit : k < 2 ^ 63) (hn : k < items.size)
    (h : Q () { s with heap := s.heap.update l (Obj.mapSeq (·.setIfInBounds k.toNat v)) }) : wpAny (model prog w) cx.A (setItem (.ref l) (.int k t) v) Q E s := by
  have hL := hl.isList
  unfold setItem
  try with_reducible refine wpAny_holding ?_
  first | refine wpAny_bind (wpAny_pure ?_) | skip
  refine wpAny_bind (wpAny_sequenceKey hL.typeIs (by decide) ?_)
  refine wpAny_bind (wpAny_callSpecial?_slot (name := Str.ofString "__setitem__") hL.typeIs slot_list_setitem (wpAny_call_entry slot_list_setitem hL.typeIs entry_list_setitem ?_ (args_list_setitem _ _ _)))
  show wpAny _ _ (Builtin.List.listSubscript? (.int k t) >>= _) _ _ s
  refine wpAny_bind (wpAny_listSubscript_int (fitsIndex_of h0 hfit) ?_)
  clear hfit
  obtain ⟨j, rfl⟩ := Int.eq_ofNat_of_zero_le h0
  have hj : j < items.size := by decreasing_trivial
  have hx' : items[j]? = some items[j] := Array.getElem?_eq_getElem hj
  show wpAny _ _ ((seqItemAt l j >>= fun r => pure (r.map (j, ·))) >>= _) _ _ s
  refine wpAny_bind (wpAny_bind (wpAny_seqItemAt hl rfl (wpAny_pure ?_)))
  rw [hx']
  show wpAny _ _ (setSeqItemAt l j v >>= _) _ _ s
  refine wpAny_bind (wpAny_setSeqItemAt hl rfl ?_)
  first
    | exact wpAny_bind (wpAny_pure (wpAny_pure ⟨.none, rfl, wpAny_pure h⟩))
    | exact wpAny_pure ⟨.none, rfl, wpAny_pure h⟩

/-- a mutable list of the abstract heap turns by an update -/
theorem Inv.upd {h : Heap} {i : Nat} {xs ys : List AV} {vs ws : List Value} {ad : Addr} {n : Nat} {f : Array Value → Array Value} (I : Inv cx m cv st μ H h) (hi : H[i]? = some (.list true xs)) (ha : μ[i]? = some ad) (hl : IsL h ad vs.toArray n)
    (hf : f vs.toArray = ws.toArray) (hr : VsRel μ ys ws) : Inv cx m cv st μ (setObj i (.list true ys) H) (h.update ad (Obj.mapSeq f)) :=
  I.setL hi ha (fun b hb => Heap.get?_update_ne _ _ _ _ hb) (by have := hl.update f; rw [hf] at this; exact this) hr

/-- a mutable list at hand -/
theorem PostG.mutAt {k : Nat → List AV → Res AV} {Q : Value → Shared → Prop} (I : Inv cx m cv st μ H s.heap) (rx : VRel μ x a) (p : PostG cx m cv st s μ RV Q E (Mine.mutAt x H k)) :
    ∃ i b xs vs n, x = .ref i ∧ a = .ref b ∧ μ[i]? = some b ∧ H[i]? = some (.list true xs) ∧ IsL s.heap b vs.toArray n ∧ VsRel μ xs vs ∧ PostG cx m cv st s μ RV Q E (k i xs) := by
  obtain ⟨i, e, p⟩ := p.opt
  obtain ⟨xs, e', p⟩ := p.opt
  obtain ⟨o, q, e2⟩ := bind_some e'
  obtain rfl := m?_some e2
  obtain ⟨b, hb, rfl⟩ := rx.r? e
  obtain ⟨vs, n, hl, hr⟩ := I.isL q hb
  exact ⟨i, b, xs, vs, n, r?_some e, rfl, hb, q, hl, hr, p⟩

theorem setItem_sound {z : AV} {c : Value} {Q : Value → Shared → Prop} (I : Inv cx m cv st μ H s.heap) (rx : VRel μ x a) (ry : VRel μ y b) (rz : VRel μ z c) (p : PostG cx m cv st s μ RV Q E (setItemA x y z H)) :
    wpAny (model prog w) cx.A (setItem a b c) (fun _ => Q .none) E s := by
  obtain ⟨i, ad, xs, vs, n, _, rfl, ha, q, hl, hr, p⟩ := PostG.mutAt I rx p
  obtain ⟨k, e, p⟩ := p.opt
  obtain ⟨hk, p⟩ := p.chkD
  obtain ⟨t, rfl⟩ := ry.i? e
  refine setItem_raw hl hk.1 hk.2.2 (by rw [List.size_toArray, ← hr.1]; exact hk.2.1) ?_
  exact p .none _ s.toks μ (pfx _) (I.upd q ha hl (by rw [List.setIfInBounds_toArray]) (hr.set rz _)) .none

/-! methods, their arguments already at hand -/
theorem index_sound {e : Expr} {pos : Pos} {env : Env} {r : AH → Res AV} {ad i : Addr} (ha : μ[i]? = some ad) (I : Inv cx m cv st μ H s.heap) (he : Sim (model prog w) cx m cv st RV μ (eval e env) r)
    (p : PostG cx m cv st s μ RV Q E ((r H).bind fun v H₁ => methA .index (.ref i) v H₁)) : wpAny (model prog w) cx.A (callWith pos (.builtin "list.index") [.ref ad] [(false, eval e env)] []) Q E s := by
  refine P.index_list (he.next (pfx _) I p fun v b h₁ tk₁ μ₁ H₁ hp I₁ r₁ p₁ => ?_)
  have ha' := pre_get hp ha
  obtain ⟨i', ad', xs, vs, n, e1, e2, hb, q, hl, hr, p₁⟩ := PostG.mutAt I₁ (VRel.ref ha') p₁
  cases e1; cases e2
  obtain ⟨k, ek, p₁⟩ := p₁.opt
  obtain ⟨ns, en, p₁⟩ := p₁.opt
  obtain ⟨hs, p₁⟩ := p₁.chkD
  obtain ⟨t, rfl⟩ := r₁.i? ek
  obtain ⟨ps, rfl, rfl⟩ := hr.intsOf en
  have hi := ints_are ps
  have hj : (ps.map (·.1)).idxOf k < (ps.map (·.1)).length := List.idxOf_lt_length_iff.mpr hs.1
  have hlen := hi.length
  have hs2 : (ps.map (·.1)).length ≤ 16777216 := hs.2
  refine ⟨_, n, isInt k, (ps.map (·.1)).idxOf k, by rw [List.size_toArray]; decreasing_trivial, hl, fun y hy => eq_isInt k t hi y (by simpa using hy), by decreasing_trivial, ?_, fun j hjs hlt => ?_, p₁.val I₁ (.int _ _) _⟩
  · show isInt k (ps.map (fun p => Value.int p.1 p.2))[(ps.map (·.1)).idxOf k] = true
    rw [isInt_at k hi _ (by decreasing_trivial) hj]
    simpa using List.getElem_idxOf hj
  · rw [List.size_toArray] at hjs
    show isInt k (ps.map (fun p => Value.int p.1 p.2))[j] = false
    rw [isInt_at k hi j hjs (by decreasing_trivial)]
    exact ne_of_lt_idxOf hlt _
theorem append_sound {e : Expr} {pos : Pos} {env : Env} {r : AH → Res AV} {ad i : Addr} (ha : μ[i]? = some ad) (I : Inv cx m cv st μ H s.heap) (he : Sim (model prog w) cx m cv st RV μ (eval e env) r)
    (p : PostG cx m cv st s μ RV Q E ((r H).bind fun v H₁ => methA .append (.ref i) v H₁)) : wpAny (model prog w) cx.A (callWith pos (.builtin "list.append") [.ref ad] [(false, eval e env)] []) Q E s := by
  refine P.append_list (he.next (pfx _) I p fun v b h₁ tk₁ μ₁ H₁ hp I₁ r₁ p₁ => ?_)
  have ha' := pre_get hp ha
  obtain ⟨i', ad', xs, vs, n, e1, e2, hb, q, hl, hr, p₁⟩ := PostG.mutAt I₁ (VRel.ref ha') p₁
  cases e1; cases e2
  obtain ⟨hs, p₁⟩ := p₁.chkD
  refine ⟨vs.toArray, n, by rw [List.size_toArray, sizeLine_eq, ← hr.1]; exact hs, hl, ?_⟩
  exact p₁ .none _ tk₁ μ₁ (pfx _) (I₁.upd q ha' hl (by rw [List.push_toArray]) (hr.append (.one r₁))) .none
theorem extend_sound {e : Expr} {pos : Pos} {env : Env} {r : AH → Res AV} {ad i : Addr} (ha : μ[i]? = some ad) (I : Inv cx m cv st μ H s.heap) (he : Sim (model prog w) cx m cv st RV μ (eval e env) r)
    (p : PostG cx m cv st s μ RV Q E ((r H).bind fun v H₁ => methA .extend (.ref i) v H₁)) : wpAny (model prog w) cx.A (callWith pos (.builtin "list.extend") [.ref ad] [(false, eval e env)] []) Q E s := by
  refine P.extend_list (he.next (pfx _) I p fun v b h₁ tk₁ μ₁ H₁ hp I₁ r₁ p₁ => ?_)
  have ha' := pre_get hp ha
  obtain ⟨i', ad', xs, vs, n, e1, e2, hb, q, hl, hr, p₁⟩ := PostG.mutAt I₁ (VRel.ref ha') p₁
  cases e1; cases e2
  obtain ⟨j, ej, p₁⟩ := p₁.opt
  obtain ⟨ys, ey, p₁⟩ := p₁.opt
  obtain ⟨hs, p₁⟩ := p₁.chkD
  obtain ⟨_, _, mt, ws, k, _, rfl, _, _, hl2, hr2⟩ := I₁.lst r₁ ey
  have e1 : vs.toArray.size = xs.length := by rw [List.size_toArray, hr.1]
  have e2 : ws.toArray.size = ys.length := by rw [List.size_toArray, hr2.1]
  have hs' : xs.length + ys.length ≤ 16777216 := hs.2
  refine ⟨_, vs.toArray, ws.toArray, n, k, by rw [e1, sizeLine_eq]; decreasing_trivial, by rw [e1, e2, sizeLine_eq]; decreasing_trivial, ?_, rfl, hl, hl2, ?_⟩
  · rw [e1, e2]; simp [Builtin.List.listTooLong, sizeLine]; decreasing_trivial
  · exact p₁ .none _ tk₁ μ₁ (pfx _) (I₁.upd q ha' hl (by rw [List.append_toArray]) (hr.append hr2)) .none
end
end Mine

/-! ## part C9 -/
namespace Mine
open PySem PySem.W PyProof.Rows

section
variable {prog : Program} {w : World} {cx : Fx} {m : Str → Option Value} {cv st : List (Addr × Obj)} {μ : List Addr} {H : AH} {s : Shared} {E : Value → Shared → Prop} {Q : Value → Shared → Prop}
  {x y : AV} {a b : Value}

/-- a slice of a list, as it is picked -/
theorem slice_any {value : Expr} {lower upper : Option Expr} {p0 : Pos} {vl vu : Value} {l u : Option Int} {sl : Addr} {xs ys : List AV} (I : Inv cx m cv st μ H s.heap) (rx : VRel μ x a) (e : lstOf x H = some xs) (hs : s.heap.IsSliceOf sl vl vu .none) (pl : IsPart vl l) (pu : IsPart vu u) (hsz : xs.length ≤ sLine)
    (hy : ∀ vs : List Value, VsRel μ xs vs → ∃ ws : List Value, slicePick vs.toArray l u none = ws.toArray ∧ VsRel μ ys ws) (p : PostG cx m cv st s μ RV Q E (alloc (.list true ys) H)) : wpAny (model prog w) cx.A (subscriptTail value (.Slice lower upper none p0) a (.ref sl)) Q E s := by
  obtain ⟨_, _, _, vs, n, _, rfl, _, _, hl, hr⟩ := I.lst rx e
  obtain ⟨ws, e2, hw⟩ := hy vs hr
  refine tail_any (ops := [.ref sl, _]) ⟨_, hl, rfl⟩ slot_list_getitem.lookup (wpAny_getItem_list_slice hl.isList hs pl pu .none (by simp) ?_ (by rw [List.size_toArray, sizeLine_eq, ← hr.1]; exact hsz)) rfl
  rw [e2]
  exact p.new I hw
theorem strSlice {value : Expr} {lower upper : Option Expr} {p0 : Pos} {sl : Addr} {x : Str} {t : Tok} {l u : Option (Int × Tok)} (hs : s.heap.IsSlice sl l u none) (hx : x.length ≤ sLine) (h : ∀ t' k, Q (.str (Txt.slice x (l.map (·.1)) (u.map (·.1))) t') { s with toks := k }) :
    wpAny (model prog w) cx.A (subscriptTail value (.Slice lower upper none p0) (.str x t) (.ref sl)) Q E s :=
  tail_any (ops := [.ref sl, _]) (typeIs_str _ _ _) F.slot_str_getitem.lookup (wpAny_getItem_str_slice (l := l) (u := u) (st := none) hs rfl (post_val_or_str ⟨Nat.le_trans (Txt.slice_le x _ _) (by rw [sizeLine_eq]; exact hx), h⟩)) rfl
theorem tupAt_some {v : AV} {xs : List AV} (e : tupAt v H = some xs) : ∃ i, v = .ref i ∧ H[i]? = some (.tup xs) := by
  obtain ⟨o, e1, e2⟩ := bind_some e
  obtain ⟨i, rfl, q⟩ := at?_some e1
  cases o <;> cases e2
  exact ⟨i, rfl, q⟩
theorem slice_sound {value : Expr} {lower upper : Option Expr} {p0 : Pos} {lo hi : AV} {vl vu : Value} {sl : Addr} (I : Inv cx m cv st μ H s.heap) (rx : VRel μ x a) (rl : VRel μ lo vl) (ru : VRel μ hi vu) (hs : s.heap.IsSliceOf sl vl vu .none)
    (p : PostG cx m cv st s μ RV Q E (sliceA x lo hi H)) : wpAny (model prog w) cx.A (subscriptTail value (.Slice lower upper none p0) a (.ref sl)) Q E s := by
  obtain ⟨xs, e, p⟩ := p.opt
  obtain ⟨l, h, t, u, rfl, rfl, p⟩ := PostG.int2 rl ru p
  obtain ⟨hc, p⟩ := p.chkD
  obtain ⟨l, rfl⟩ := Int.eq_ofNat_of_zero_le hc.1
  obtain ⟨h, rfl⟩ := Int.eq_ofNat_of_zero_le (Int.le_trans hc.1 hc.2.1)
  refine slice_any I rx e hs (.int _ _) (.int _ _) hc.2.2.2 (fun vs hr => ⟨(vs.drop l).take (h - l), ?_, (hr.drop _).take _⟩) p
  have := slicePick_run vs.toArray l h (by rw [List.size_toArray, ← hr.1]; decreasing_trivial) (by decreasing_trivial)
  simpa using this
theorem sliceU_sound {value : Expr} {lower upper : Option Expr} {p0 : Pos} {hi : AV} {vu : Value} {sl : Addr} (I : Inv cx m cv st μ H s.heap) (rx : VRel μ x a) (ru : VRel μ hi vu) (hs : s.heap.IsSliceOf sl .none vu .none)
    (p : PostG cx m cv st s μ RV Q E (sliceU x hi H)) : wpAny (model prog w) cx.A (subscriptTail value (.Slice lower upper none p0) a (.ref sl)) Q E s := by
  rcases p.orS with ⟨z, rfl, p⟩ | ⟨_, p⟩
  · obtain ⟨h, e', p⟩ := p.opt
    obtain ⟨hc, p⟩ := p.chkD
    obtain ⟨u, rfl⟩ := ru.i? e'
    obtain ⟨tt, rfl⟩ := rx.s? rfl
    exact strSlice (l := none) (u := some (h, u)) hs hc.2 fun t' k => p.val I (.str _ _) k
  obtain ⟨xs, e, p⟩ := p.opt
  obtain ⟨h, e', p⟩ := p.opt
  obtain ⟨hc, p⟩ := p.chkD
  obtain ⟨u, rfl⟩ := ru.i? e'
  obtain ⟨h, rfl⟩ := Int.eq_ofNat_of_zero_le hc.1
  refine slice_any I rx e hs .none (.int _ _) hc.2.2 (fun vs hr => ⟨vs.take h, ?_, hr.take _⟩) p
  have := slicePick_upto vs.toArray h (by rw [List.size_toArray, ← hr.1]; decreasing_trivial)
  simpa using this
theorem sliceF_sound {value : Expr} {lower upper : Option Expr} {p0 : Pos} {lo : AV} {vl : Value} {sl : Addr} (I : Inv cx m cv st μ H s.heap) (rx : VRel μ x a) (rl : VRel μ lo vl) (hs : s.heap.IsSliceOf sl vl .none .none)
    (p : PostG cx m cv st s μ RV Q E (sliceF x lo H)) : wpAny (model prog w) cx.A (subscriptTail value (.Slice lower upper none p0) a (.ref sl)) Q E s := by
  rcases p.orS with ⟨z, rfl, p⟩ | ⟨_, p⟩
  · obtain ⟨l, e', p⟩ := p.opt
    obtain ⟨hc, p⟩ := p.chkD
    obtain ⟨u, rfl⟩ := rl.i? e'
    obtain ⟨tt, rfl⟩ := rx.s? rfl
    exact strSlice (l := some (l, u)) (u := none) hs hc.2 fun t' k => p.val I (.str _ _) k
  unfold sliceT at p
  split at p
  · rename_i xs ht
    obtain ⟨l, e', p⟩ := p.opt
    obtain ⟨hc, p⟩ := p.chkD
    obtain ⟨u, rfl⟩ := rl.i? e'
    obtain ⟨i, rfl, q⟩ := tupAt_some ht
    obtain ⟨ad, ha, rfl⟩ := rx.refInv
    obtain ⟨vs, n, hl, hr⟩ := I.isT q ha
    obtain ⟨l, rfl⟩ := Int.eq_ofNat_of_zero_le (Int.le_trans (by decide) hc.1)
    refine tail_any (ops := [.ref sl, _]) ⟨_, hl, rfl⟩ F.slot_tuple_getitem.lookup (getItem_tuple_from ⟨_, hl, rfl, _, rfl⟩ hs (by have := hc.1; decreasing_trivial) (by rw [List.size_toArray, ← hr.1]; have := hc.2.1; decreasing_trivial) ?_ (by rw [List.size_toArray, sizeLine_eq, ← hr.1]; exact hc.2.2)) rfl
    have := p (.ref s.heap.objs.size) _ s.toks (μ ++ [s.heap.objs.size]) (List.prefix_append _ _) (I.newTup (hr.drop l)) (I.refNew _)
    simpa using this
  obtain ⟨xs, e, p⟩ := p.opt
  obtain ⟨l, e', p⟩ := p.opt
  obtain ⟨hc, p⟩ := p.chkD
  obtain ⟨u, rfl⟩ := rl.i? e'
  obtain ⟨l, rfl⟩ := Int.eq_ofNat_of_zero_le hc.1
  refine slice_any I rx e hs (.int _ _) .none hc.2.2 (fun vs hr => ⟨vs.drop l, ?_, hr.drop _⟩) p
  have := slicePick_from vs.toArray l (by rw [List.size_toArray, ← hr.1]; decreasing_trivial)
  simpa using this

/-! isinstance against a built-in type -/
noncomputable def tyVal : Ty → String
  | .int_ => "int" | .bool_ => "bool" | .list_ => "list" | .str_ => "str" | .tup_ => "tuple"
theorem isi_sound {t : Ty} (I : Inv cx m cv st μ H s.heap) (rx : VRel μ x a) (p : PostG cx m cv st s μ RV Q E (isiA x t H)) : wpAny (model prog w) cx.A (call (.builtin "isinstance") [a, .type (tyVal t)]) Q E s := by
  obtain ⟨r, e, p⟩ := p.opt
  have T1 : r = true → Q (.bool true) s := fun hr => by subst hr; exact p.val I (.bool _) s.toks
  have T2 : r = false → Q (.bool false) { s with toks := s.toks + 1 } := fun hr => by subst hr; exact p.val I (.bool _) (s.toks + 1)
  cases rx with
  | none =>
    cases e
    cases t <;> exact call_isinstance (isinstance_false_none (by decide +kernel) (by kernel_rfl) (by rw [isSubtype_type]; kernel_rfl)) (T2 rfl)
  | bool b =>
    cases t with
    | int_ => cases e; exact IsiPair.bool_int (T1 rfl)
    | bool_ => cases e; exact IsiPair.bool_bool (T1 rfl)
    | list_ => cases e; exact IsiPair.bool_list (T2 rfl)
    | str_ => cases e; exact IsiPair.bool_str (T2 rfl)
    | tup_ => cases e; exact IsiPair.bool_tuple (T2 rfl)
  | int i tk =>
    cases t with
    | int_ => cases e; exact IsiPair.int_int (T1 rfl)
    | bool_ => cases e; exact IsiPair.int_bool (T2 rfl)
    | list_ => cases e; exact IsiPair.int_list (T2 rfl)
    | str_ => cases e; exact IsiPair.int_str (T2 rfl)
    | tup_ => cases e; exact IsiPair.int_tuple (T2 rfl)
  | str i tk =>
    cases t with
    | int_ => cases e; exact IsiPair.str_int (T2 rfl)
    | bool_ => cases e; exact IsiPair.str_bool (T2 rfl)
    | list_ => cases e; exact IsiPair.str_list (T2 rfl)
    | str_ => cases e; exact IsiPair.str_str (T1 rfl)
    | tup_ => cases e; exact IsiPair.str_tuple (T2 rfl)
  | ref ha =>
    obtain ⟨o, q, e⟩ := bind_some e
    cases o with
    | list mt xs =>
      obtain ⟨vs, n, hl, _⟩ := I.isL q ha
      cases t with
      | int_ => cases e; exact IsiPair.list_int hl rfl (T2 rfl)
      | bool_ => cases e; exact IsiPair.list_bool hl rfl (T2 rfl)
      | list_ => cases e; exact IsiPair.list_list hl rfl (T1 rfl)
      | str_ => cases e; exact IsiPair.list_str hl rfl (T2 rfl)
      | tup_ => cases e; exact IsiPair.list_tuple hl rfl (T2 rfl)
    | tup xs =>
      obtain ⟨vs, n, hl, _⟩ := I.isT q ha
      cases t with
      | int_ => cases e; exact IsiPair.tuple_int hl rfl (T2 rfl)
      | bool_ => cases e; exact IsiPair.tuple_bool hl rfl (T2 rfl)
      | list_ => cases e; exact IsiPair.tuple_list hl rfl (T2 rfl)
      | str_ => cases e; exact IsiPair.tuple_str hl rfl (T2 rfl)
      | tup_ => cases e; exact IsiPair.tuple_tuple hl rfl (T1 rfl)
    | book _ _ _ => cases e
end
end Mine

/-! ## part C10 -/
namespace Mine
open PySem PySem.W PyProof.Rows

/-! the setting -/
structure Wd where
  prog : Program
  w : World
  K : Frag
  p : Program
  loose : List Str
  mean : ExcName → Option Value
  mg : Str → Option Value
  mb : Str → Option Value

noncomputable abbrev Wd.M (W : Wd) : Model := model W.prog W.w

noncomputable def biNames : List Str := ["len", "min", "max", "int", "list", "range", "isinstance", "bool", "sum", "str", "sorted", "abs", "tuple"]

noncomputable def Fx.locOf (cx : Fx) (m : Str → Option Value) (x : Str) : Option Value := match cx.mc with
  | none => m x
  | some p => p.2 x

structure FxOk (W : Wd) (d : Nat) (cx : Fx) (st : List (Addr × Obj)) : Prop where
  B : Below cx.A₀ cx.base cx.outer cx.h₀
  X : W.K.In cx.h₀
  T : TopRead W.p W.loose W.mg W.mb cx.h₀
  fr : cx.A.frames = some (cx.fenv :: cx.outer)
  ff : cx.fenv.frame = some cx.L
  fk : cx.fenv.scope.kind = .function
  dp : cx.A.depth + d + 5 < recursionLimit
  un : cx.A.units + 8 * d + 40 < cLine
  ek : cx.env.scope.kind = .function
  en : cx.env.scope.names = cx.c.names
  eg : cx.env.globals = mainGlobals
  eb : cx.env.builtins = builtinsNs
  ce : ∀ x : Str, cx.c.names.lookup x = some .cell → ∃ a, cx.env.cells.lookup x = some a
  sl : ∀ (x : Str) (i : Nat), cx.c.slots.lookup x = some i → i < cx.c.n
  out : 20 < d → cx.outer = [] ∧ W.K.In cx.base ∧ TopRead W.p W.loose W.mg W.mb cx.base
  loc : match cx.mc with
    | none => cx.env.locals = cx.L
    | some q => cx.env.locals = q.1 ∧ ∃ o es ep, (q.1, o) ∈ st ∧ o.data = .dict es ep ∧ StrKeys es ∧ ∀ x, nsFind es x = q.2 x

structure VarsOK (cx : Fx) (m : Str → Option Value) (cv : List (Addr × Obj)) (μ : List Addr) (ρ : Rho) : Prop where
  len : ρ.length = cx.c.n
  loc : ∀ (x : Str) (i : Nat) (av : AV), cx.c.names.lookup x = some .local → cx.c.slots.lookup x = some i → ρ[i]? = some (some av) → ∃ v, cx.locOf m x = some v ∧ VRel μ av v
  cel : ∀ (x : Str) (i : Nat) (av : AV), cx.c.names.lookup x = some .cell → cx.c.slots.lookup x = some i → ρ[i]? = some (some av) → ∃ c o v, cx.env.cells.lookup x = some c ∧ (c, o) ∈ cv ∧ o.data = .cell (some v) ∧ VRel μ av v
theorem VarsOK.mono {cx : Fx} {m : Str → Option Value} {cv : List (Addr × Obj)} {μ μ' : List Addr} {ρ : Rho} (h : VarsOK cx m cv μ ρ) (hp : μ <+: μ') : VarsOK cx m cv μ' ρ :=
  ⟨h.len, fun x i av a b c => let ⟨v, e, r⟩ := h.loc x i av a b c; ⟨v, e, r.mono hp⟩, fun x i av a b c => let ⟨k, o, v, e1, e2, e3, r⟩ := h.cel x i av a b c; ⟨k, o, v, e1, e2, e3, r.mono hp⟩⟩

/-- one parameter after the other, no more -/
noncomputable def plainParams (ps : Arguments) : Bool := ps.posonlyargs.isEmpty && ps.vararg.isNone && ps.kwonlyargs.isEmpty && ps.kwarg.isNone && ps.defaults.isEmpty && ps.kw_defaults.isEmpty

inductive FnOk (K : Frag) (f : Str) (d : AFun) : Prop
  | mk (a : Addr) (oc : Value) (od : Option Addr) (osl : Array (Option Value)) (name qual : Str) (params : Arguments) (body : List Stmt) (scope : Scope) (doc pm cdv ct : Value) (an : Option Addr)
    (h1 : nsIn K mainGlobals f = some (some (.ref a))) (h2 : K.lookup a = some ⟨oc, od, .func (fnOf name qual params body scope .none .none doc pm an cdv ct), osl⟩) (h3 : codeIn K cdv qual = true) (h4 : keepIn K (.ref a) = true)
    (h5 : plainParams params = true) (h6 : scope.isCoroutine = false) (h7 : scope.isGenerator = false) (h8 : scope.kind = .function)
    (h9 : (scope.names.map (·.1)).Nodup) (h10 : ((slotsFrom scope.names 0).map (·.1)).take params.args.length = params.args.map (·.arg)) (h11 : d = funOf params scope body) : FnOk K f d

structure LkK (prog : Program) (w : World) (K : Frag) (P : Pg) (C : Addr) : Prop where
  cst : ∀ (x : Str) (v : AV), P.cst.lookup x = some v → ∃ cv, nsIn K mainGlobals x = some (some cv) ∧ ∀ μ, VRel μ v cv
  fn : ∀ (f : Str) (d : AFun), P.fns.lookup f = some d → FnOk K f d
  bi : ∀ x ∈ biNames, nsIn K mainGlobals x = some none
  dct : ∀ (x : Str) (D : List (Str × Int)), P.dct.lookup x = some D → ∃ d, nsIn K mainGlobals x = some (some (.ref d)) ∧ ∀ h : Heap, K.In h → StrTab prog w h d (D.map fun q => (PyData.str q.1, PyData.int q.2))
noncomputable abbrev Lk (W : Wd) (P : Pg) (C : Addr) : Prop := LkK W.prog W.w W.K P C

noncomputable def CallsOk (W : Wd) (P : Pg) (C : Addr) (d : Nat) (Φ : Calls) : Prop :=
  ∀ (f : Str) (a : Addr), (P.fns.lookup f).isSome = true → nsIn W.K mainGlobals f = some (some (.ref a)) →
    ∀ (cx : Fx) (m : Str → Option Value) (cv st : List (Addr × Obj)) (μ : List Addr) (H : AH) (s : Shared) (avs : List AV) (vs : List Value) (Q : Value → Shared → Prop) (E : Value → Shared → Prop),
      cx.C = C → FxOk W d cx st → cx.A.handled = none → Inv cx m cv st μ H s.heap → VsRel μ avs vs → PostG cx m cv st s μ RV Q E (Φ f avs H) → wpAny W.M cx.A (call (.ref a) vs) Q E s
noncomputable def BookOk (_W : Wd) (_C : Addr) (_d : Nat) : Prop := True

/-! names -/
section
variable {W : Wd} {d : Nat} {P : Pg} {cx : Fx} {m : Str → Option Value} {cv st : List (Addr × Obj)} {μ : List Addr} {H : AH} {s : Shared} {E : Value → Shared → Prop} {Q : Value → Shared → Prop}

theorem FxOk.kind (ok : FxOk W d cx st) (x : Str) : cx.env.kindOf x = cx.c.names.lookup x := by unfold Env.kindOf; rw [ok.en]

theorem name_glob {x : Str} {pos : Pos} {v : Value} (ok : FxOk W d cx st) (I : Inv cx m cv st μ H s.heap) (hx : cx.c.names.lookup x = some .globalImplicit) (hd : (x == ("__debug__" : Str)) = false) (e : nsIn W.K mainGlobals x = some (some v)) (h : Q v s) :
    wpAny W.M cx.A (eval (.Name x pos) cx.env) Q E s :=
  Calls.Name_function_global ok.ek ((ok.kind x).trans hx) (Calls.loadGlobal_global (by rw [ok.eg]; exact ok.T.g.keeps I.fr.keep) (mg_of ok.X ok.T.g e) h) hd
theorem name_boot {x : Str} {pos : Pos} {v : Value} (ok : FxOk W d cx st) (I : Inv cx m cv st μ H s.heap) (hx : cx.c.names.lookup x = some .globalImplicit) (hd : (x == ("__debug__" : Str)) = false) (e : nsIn W.K mainGlobals x = some none)
    (hv : bootBuiltins x = some v) (hn : x ≠ "__name__") (h : Q v s) : wpAny W.M cx.A (eval (.Name x pos) cx.env) Q E s :=
  Calls.Name_function_global ok.ek ((ok.kind x).trans hx) (Calls.loadGlobal_builtin (by rw [ok.eg]; exact ok.T.g.keeps I.fr.keep) (mg_none_of ok.X ok.T.g e) (by rw [ok.eb]; exact ok.T.b.keeps I.fr.keep) ((ok.T.builtins x hn).trans hv) h) hd

theorem name_var {x : Str} {pos : Pos} {i : Nat} {av : AV} {ρ : Rho} (ok : FxOk W d cx st) (V : VarsOK cx m cv μ ρ) (I : Inv cx m cv st μ H s.heap) (hx : cx.c.names.lookup x = some .local ∨ cx.c.names.lookup x = some .cell) (hd : (x == ("__debug__" : Str)) = false)
    (hi : cx.c.slots.lookup x = some i) (e : ρ[i]? = some (some av)) (h : ∀ v, VRel μ av v → Q v s) : wpAny W.M cx.A (eval (.Name x pos) cx.env) Q E s := by
  rcases hx with hx | hx
  · obtain ⟨v, e1, r⟩ := V.loc x i av hx hi e
    refine wpAny_Name ?_ hd
    have L := ok.loc
    unfold Fx.locOf at e1
    split at e1
    · rename_i q
      rw [q] at L
      dsimp only at L
      exact wpAny_loadName_local ok.ek ((ok.kind x).trans hx) (by rw [L]; exact I.fr.ns) e1 (h v r)
    · rename_i q0 q
      rw [q] at L
      dsimp only at L
      obtain ⟨L1, o, es, ep, h1, h2, h3, h4⟩ := L
      exact wpAny_loadName_local ok.ek ((ok.kind x).trans hx) (by rw [L1]; exact ⟨o, es, ep, (I.stN _ h1).1, h2, h3, h4⟩) e1 (h v r)
  · obtain ⟨c, o, v, e1, e2, e3, r⟩ := V.cel x i av hx hi e
    exact wpAny_Name (wpAny_loadName_cell ok.ek ((ok.kind x).trans hx) e1 ⟨o, (I.cvN _ e2).1, e3⟩ (h v r)) hd
end

/-! calls: the arguments -/
section
variable {M : Model} {A : Around} {E : Value → Shared → Prop} {s : Shared} {env : Env}
theorem starEach_cons {e : Expr} {r : List Expr} (h : isStar e = false) : starEach (e :: r) env = (false, eval e env) :: starEach r env := by
  cases e <;> first | rfl | cases h
theorem noStar_any : ∀ {es : List Expr} {pos : Pos}, es.any isStar = false → (backTo pos (starEach es env)).any (·.1) = false
  | [], _, _ => rfl
  | e :: r, pos, h => by
    simp only [List.any_cons, Bool.or_eq_false_iff] at h
    rw [starEach_cons h.1]
    show (false || (backTo pos (starEach r env)).any (·.1)) = false
    rw [noStar_any h.2]; rfl
theorem noStar_all : ∀ {es : List Expr} {pos : Pos}, es.any isStar = false → (backTo pos (starEach es env)).all (fun x => !x.1) = true
  | [], _, _ => rfl
  | e :: r, pos, h => by
    simp only [List.any_cons, Bool.or_eq_false_iff] at h
    rw [starEach_cons h.1]
    show (true && (backTo pos (starEach r env)).all fun x => !x.1) = true
    rw [noStar_all h.2]; rfl
theorem evalArgs_all {f : Value} {es : List Expr} {pos : Pos} {Q : Args → Shared → Prop} (h : es.any isStar = false) (hq : wpAny M A (spliced (backTo pos (starEach es env))) (fun vs s' => Q ⟨vs, []⟩ s') E s) :
    wpAny M A (evalArgs f true (backTo pos (starEach es env)) []) Q E s := by
  cases es with
  | nil => exact fun Γ p hΓ => PySem.evalArgs_none (M := M) (A := A) (E := E) (s := s) (f := f) (Q := Q) (show Q ⟨[], []⟩ s from hq Γ p hΓ) Γ p hΓ
  | cons e r =>
    simp only [List.any_cons, Bool.or_eq_false_iff] at h
    rw [starEach_cons h.1] at hq ⊢
    exact Calls.evalArgs_plain hq
end
end Mine

/-! ## part C11 -/
namespace Mine
open PySem PySem.W PyProof.Rows

/-- what is walked by a for, in the heap -/
noncomputable def ItR (μ : List Addr) (h : Heap) : It → Value → Prop
  | .seq _ i _, v => VRel μ (.ref i) v
  | .fix xs, v => ∃ (r : Addr) (a b c : Int) (t u k : Tok), v = .ref r ∧ IsRange h r a b c t u k ∧ Builtin.Range.small a b c = true ∧ Builtin.Range.rangeSize a b c = (xs.length : Int) ∧ ∀ j, j < xs.length → xs[j]? = some (.int (a + j * c))
  | .txt x, v => (∃ t, v = .str x t) ∧ x.cps.all (· < 128) = true
noncomputable abbrev RVs : List Addr → Heap → List AV → List Value → Prop := fun μ _ => VsRel μ
noncomputable abbrev RB : List Addr → Heap → Bool → Bool → Prop := fun _ _ a b => a = b

section
variable (W : Wd) (P : Pg) (Φ : Calls) (C : Addr) (d : Nat)
/-- the frame, its names, the table of calls -/
structure St (cx : Fx) (m : Str → Option Value) (cv st : List (Addr × Obj)) (ρ : Rho) (μ₀ : List Addr) : Prop where
  c : cx.C = C
  ok : FxOk W d cx st
  V : VarsOK cx m cv μ₀ ρ
  hh : cx.A.handled = none
noncomputable def SE (e : Expr) : Prop := ∀ (cx : Fx) (m : Str → Option Value) (cv st : List (Addr × Obj)) (ρ : Rho) (μ₀ : List Addr), St W C d cx m cv st ρ μ₀ → Sim W.M cx m cv st RV μ₀ (eval e cx.env) (ev P Φ (cE e cx.c) ρ)
noncomputable def SB (e : Expr) : Prop := ∀ (cx : Fx) (m : Str → Option Value) (cv st : List (Addr × Obj)) (ρ : Rho) (μ₀ : List Addr), St W C d cx m cv st ρ μ₀ → Sim W.M cx m cv st RB μ₀ (isTrue e cx.env (eval e cx.env)) (fun H => (ev P Φ (cE e cx.c) ρ H).bind truth)
noncomputable def SI (e : Expr) : Prop := ∀ (cx : Fx) (m : Str → Option Value) (cv st : List (Addr × Obj)) (ρ : Rho) (μ₀ : List Addr), St W C d cx m cv st ρ μ₀ → Sim W.M cx m cv st ItR μ₀ (eval e cx.env) (evI P Φ (mkI (cE e cx.c)) ρ)
structure S3 (e : Expr) : Prop where
  E : SE W P Φ C d e
  B : SB W P Φ C d e
  I : SI W P Φ C d e
noncomputable def Ss (es : List Expr) : Prop := ∀ (cx : Fx) (m : Str → Option Value) (cv st : List (Addr × Obj)) (ρ : Rho) (μ₀ : List Addr) (pos : Pos), St W C d cx m cv st ρ μ₀ → es.any isStar = false →
  Sim W.M cx m cv st RVs μ₀ (spliced (backTo pos (starEach es cx.env))) (evs P Φ (cEs es cx.c) ρ)
end

section
variable {W : Wd} {P : Pg} {Φ : Calls} {C : Addr} {d : Nat} {cx : Fx} {m : Str → Option Value} {cv st : List (Addr × Obj)} {μ : List Addr} {H : AH} {s : Shared} {E : Value → Shared → Prop}

/-- an end -/
theorem PostG.done {α β : Type} {R : List Addr → Heap → α → β → Prop} {Q : β → Shared → Prop} {a : α} {b : β} (I : Inv cx m cv st μ H s.heap) (p : PostG cx m cv st s μ R Q E (.ok a H)) (r : R μ s.heap a b) (tk : Nat) : Q b { s with toks := tk } :=
  p b s.heap tk μ (pfx _) I r
theorem stuck_sim {α β : Type} {R : List Addr → Heap → α → β → Prop} {μ₀ : List Addr} {t : Sem β} {r : AH → Res α} (h : ∀ H, r H = .stuck) : Sim W.M cx m cv st R μ₀ t r := fun μ H s Q E _ _ p => by
  rw [h H] at p; exact p.elim
theorem S3.bad {e : Expr} (h : ∀ c, cE e c = .bad) : S3 W P Φ C d e :=
  ⟨fun cx m cv st ρ μ₀ _ => by rw [h]; exact stuck_sim fun _ => rfl, fun cx m cv st ρ μ₀ _ => by rw [h]; exact stuck_sim fun _ => rfl,
    fun cx m cv st ρ μ₀ _ => by rw [h]; exact stuck_sim fun _ => rfl⟩
theorem PostG.orBad {α β ω : Type} {R : List Addr → Heap → α → β → Prop} {Q : β → Shared → Prop} {o : Option ω} {k : ω → ME} {ρ : Rho} {g : AV → AH → Res α} (p : PostG cx m cv st s μ R Q E ((ev P Φ (orBad o k) ρ H).bind g)) : ∃ a, o = some a ∧ PostG cx m cv st s μ R Q E ((ev P Φ (k a) ρ H).bind g) := by
  cases o with
  | none => exact p.elim
  | some a => exact ⟨a, rfl, p⟩
theorem PostG.butBad {α β : Type} {R : List Addr → Heap → α → β → Prop} {Q : β → Shared → Prop} {c : Bool} {e : ME} {ρ : Rho} {g : AV → AH → Res α} (p : PostG cx m cv st s μ R Q E ((ev P Φ (Mine.butBad c e) ρ H).bind g)) : c = true ∧ PostG cx m cv st s μ R Q E ((ev P Φ e ρ H).bind g) := by
  cases c with
  | false => exact p.elim
  | true => exact ⟨rfl, p⟩
theorem PostG.orE {ω : Type} {Q : Value → Shared → Prop} {o : Option ω} {k : ω → ME} {ρ : Rho} (p : PostG cx m cv st s μ RV Q E (ev P Φ (Mine.orBad o k) ρ H)) : ∃ a, o = some a ∧ PostG cx m cv st s μ RV Q E (ev P Φ (k a) ρ H) := by
  cases o with
  | none => exact p.elim
  | some a => exact ⟨a, rfl, p⟩
theorem PostG.butE {Q : Value → Shared → Prop} {c : Bool} {e : ME} {ρ : Rho} (p : PostG cx m cv st s μ RV Q E (ev P Φ (Mine.butBad c e) ρ H)) : c = true ∧ PostG cx m cv st s μ RV Q E (ev P Φ e ρ H) := by
  cases c with
  | false => exact p.elim
  | true => exact ⟨rfl, p⟩
theorem orBad_rng {ω : Type} {o : Option ω} {k : ω → ME} (h : ∀ a, (k a).rng? = none) : (orBad o k).rng? = none := by
  cases o with
  | none => rfl
  | some a => exact h a
theorem butBad_rng {c : Bool} {e : ME} (h : e.rng? = none) : (butBad c e).rng? = none := by
  cases c with
  | false => rfl
  | true => exact h
theorem bind_bind {α β γ : Type} (r : Res α) (f : α → AH → Res β) (g : β → AH → Res γ) : (r.bind f).bind g = r.bind fun a H => (f a H).bind g := by cases r <;> rfl

theorem truth_sound {x : AV} {a : Value} {Q : Bool → Shared → Prop} (I : Inv cx m cv st μ H s.heap) (r : VRel μ x a) (p : PostG cx m cv st s μ RB Q E (truth x H)) : wpAny W.M cx.A (truthy a) Q E s := by
  obtain ⟨b, e, p⟩ := p.opt
  cases r <;> cases e
  exact wpAny_truthy_bool (p _ s.heap s.toks μ (pfx _) I rfl)
theorem itOf_sound {x : AV} {a : Value} {Q : Value → Shared → Prop} (I : Inv cx m cv st μ H s.heap) (r : VRel μ x a) (p : PostG cx m cv st s μ ItR Q E (itOf x H)) : Q a s := by
  rcases p.orS with ⟨z, rfl, p⟩ | ⟨_, p⟩
  · obtain ⟨hc, p⟩ := p.chk
    exact p a s.heap s.toks μ (pfx _) I ⟨r.s? rfl, (Bool.and_eq_true_iff.mp hc).2⟩
  obtain ⟨i, e, p₁⟩ := p.opt
  obtain ⟨o, _, p₂⟩ := p₁.opt
  obtain ⟨xs, _, p₃⟩ := p₂.opt
  obtain ⟨_, p₄⟩ := p₃.chk
  obtain rfl := r?_some e
  exact p₄ a s.heap s.toks μ (pfx _) I r

theorem mkI_seq {e : ME} (h : e.rng? = none) : mkI e = .seq e := by unfold mkI; rw [h]
theorem SI.of {e : Expr} (h : SE W P Φ C d e) (hi : ∀ c, (cE e c).rng? = none) : SI W P Φ C d e := fun cx m cv st ρ μ₀ T μ H s Q E hp I p => by
  rw [mkI_seq (hi _)] at p
  exact (h cx m cv st ρ μ₀ T).next hp I p fun a b h₁ tk₁ μ₁ H₁ hp₁ I₁ r₁ p₁ => itOf_sound I₁ r₁ p₁
/-- a plain expression's three -/
theorem S3.of {e : Expr} (h : SE W P Φ C d e) (he : ∀ env whole, isTrue e env whole = (do let v ← whole; standAt e.pos; holding [v] (truthy v))) (hi : ∀ c, (cE e c).rng? = none) : S3 W P Φ C d e := by
  refine ⟨h, fun cx m cv st ρ μ₀ T μ H s Q E hp I p => ?_, SI.of h hi⟩
  exact isTrue_plain ((h cx m cv st ρ μ₀ T).next hp I p fun a b h₁ tk₁ μ₁ H₁ hp₁ I₁ r₁ p₁ => truth_sound I₁ r₁ p₁) (he _ _)

theorem const_S3 {v : Const} {k : Nat} {pos : Pos} : S3 W P Φ C d (.Constant v k pos) := by
  refine .of (fun cx m cv st ρ μ₀ T μ H s Q E hp I p => ?_) (fun _ _ => rfl) (fun c => by cases v <;> rfl)
  cases v <;> try exact p.elim
  · exact PyProof.Rows.Constant_none (p.done I .none s.toks)
  · exact PyProof.Rows.Constant_bool (p.done I (.bool _) s.toks)
  · exact wpAny_Constant_int (p.done I (.int _ _) _)
  · exact Calls.Constant_str (p.done I (.str _ _) _)

theorem slotOf_some {c : Cx} {x : Str} {i : Nat} (h : slotOf c x = some i) : (c.names.lookup x = some .local ∨ c.names.lookup x = some .cell) ∧ c.slots.lookup x = some i := by
  unfold slotOf at h
  split at h
  · rename_i q; exact ⟨.inl q, h⟩
  · rename_i q; exact ⟨.inr q, h⟩
  · cases h
theorem global_of {c : Cx} {f : Str} (h : c.global f = true) : c.names.lookup f = some .globalImplicit ∧ (f == ("__debug__" : Str)) = false := by
  have h := Bool.and_eq_true_iff.mp h
  exact ⟨beq_iff_eq.mp h.1, notT h.2⟩
theorem join_some {α : Type} {o : Option (Option α)} {a : α} (h : o.join = some a) : o = some (some a) := by
  cases o with
  | none => cases h
  | some q => cases q <;> cases h; rfl
theorem name_S3 {x : Str} {pos : Pos} (LK : Lk W P C) : S3 W P Φ C d (.Name x pos) := by
  refine .of (fun cx m cv st ρ μ₀ T μ H s Q E hp I p => ?_) (fun _ _ => rfl) (fun c => butBad_rng ?_)
  · obtain ⟨hd, p⟩ := p.butE
    have hd := notT hd
    cases hs : slotOf cx.c x with
    | some i =>
      rw [hs] at p
      obtain ⟨v, q, p⟩ := p.opt
      obtain ⟨h1, h2⟩ := slotOf_some hs
      exact name_var T.ok (T.V.mono hp) I h1 hd h2 (join_some q) fun v r => p.done I r s.toks
    | none =>
      rw [hs] at p
      obtain ⟨hg, p⟩ := p.butE
      obtain ⟨v, q, p⟩ := p.opt
      obtain ⟨cv', e, r⟩ := LK.cst x v q
      exact name_glob T.ok I (global_of hg).1 hd e (p.done I (r μ) s.toks)
  · cases slotOf c x with
    | some i => rfl
    | none => exact butBad_rng rfl

theorem binop_S3 {l r : Expr} {op : Operator} {pos : Pos} (hl : S3 W P Φ C d l) (hr : S3 W P Φ C d r) : S3 W P Φ C d (.BinOp l op r pos) := by
  refine .of (fun cx m cv st ρ μ₀ T μ H s Q E hp I p => ?_) (fun _ _ => rfl) (fun c => orBad_rng fun _ => rfl)
  obtain ⟨o, ho, p⟩ := p.orE
  refine wpAny_BinOp ((hl.E cx m cv st ρ μ₀ T).next hp I p fun a va h₁ tk₁ μ₁ H₁ hp₁ I₁ r₁ p₁ => ?_)
  refine (hr.E cx m cv st ρ μ₀ T).next (hp.trans hp₁) I₁ p₁ fun b vb h₂ tk₂ μ₂ H₂ hp₂ I₂ r₂ p₂ => ?_
  exact bin_sound ho I₂ (r₁.mono hp₂) r₂ p₂

/-- a test's truth value, turned -/
theorem SB.turn {x : Expr} {ρ : Rho} {μ₀ : List Addr} {α β : Type} {R : List Addr → Heap → α → β → Prop} {Q : β → Shared → Prop} {k : Bool → Shared → Prop} {g : AV → Bool → AH → Res α} (hx : SB W P Φ C d x) (T : St W C d cx m cv st ρ μ₀) (hp : μ₀ <+: μ) (I : Inv cx m cv st μ H s.heap)
    (p : PostG cx m cv st s μ R Q E ((ev P Φ (cE x cx.c) ρ H).bind fun a H₁ => (truth a H₁).bind (g a)))
    (f : ∀ b h₁ tk₁ μ₁ H₁, μ <+: μ₁ → Inv cx m cv st μ₁ H₁ h₁ → PostG cx m cv st { s with heap := h₁, toks := tk₁ } μ₁ R Q E (g (.bool b) b H₁) → k b { s with heap := h₁, toks := tk₁ }) : wpAny W.M cx.A (isTrue x cx.env (eval x cx.env)) k E s := by
  refine hx cx m cv st ρ μ₀ T μ H s k E hp I ?_
  show PostG cx m cv st s μ RB k E ((ev P Φ (cE x cx.c) ρ H).bind truth)
  cases q : ev P Φ (cE x cx.c) ρ H with
  | ok a H₁ =>
    rw [q] at p
    cases a with
    | bool b => exact fun b' h' tk μ' hp' I' e => by cases e; exact f b h' tk μ' H₁ hp' I' (PostG.at p hp')
    | none => exact p.elim
    | int _ => exact p.elim
    | ref _ => exact p.elim
    | str _ => exact p.elim
  | stuck => rw [q] at p; exact p

theorem unary_S3 {x : Expr} {op : UnaryOp} {pos : Pos} (hx : S3 W P Φ C d x) : S3 W P Φ C d (.UnaryOp op x pos) := by
  cases op with
  | Not =>
    have he : SE W P Φ C d (.UnaryOp .Not x pos) := fun cx m cv st ρ μ₀ T μ H s Q E hp I p => by
      refine UnaryOp_ ((hx.E cx m cv st ρ μ₀ T).next hp I p fun a va h₁ tk₁ μ₁ H₁ hp₁ I₁ r₁ p₁ => ?_)
      refine not_of ?_
      cases r₁ with
      | bool b => exact wpAny_truthy_bool (p₁ _ h₁ tk₁ μ₁ (pfx _) I₁ (.bool _))
      | none => exact p₁.elim
      | int _ _ => exact p₁.elim
      | ref _ => exact p₁.elim
      | str _ _ => exact p₁.elim
    refine ⟨he, fun cx m cv st ρ μ₀ T μ H s Q E hp I p => ?_, SI.of he fun c => rfl⟩
    have p : PostG cx m cv st s μ RB Q E (((ev P Φ (cE x cx.c) ρ H).bind fun x H₁ => (truth x H₁).bind fun b H₂ => .ok (.bool (!b)) H₂).bind truth) := p
    rw [bind_bind] at p
    have p : PostG cx m cv st s μ RB Q E ((ev P Φ (cE x cx.c) ρ H).bind fun x H₁ => (truth x H₁).bind fun b H₂ => .ok (!b) H₂) := by
      cases q : ev P Φ (cE x cx.c) ρ H with
      | ok a H₁ => rw [q] at p; cases a <;> exact p
      | stuck => rw [q] at p; exact p
    exact isTrue_not (hx.B.turn T hp I p fun b h₁ tk₁ μ₁ H₁ hp₁ I₁ p₁ => p₁ _ h₁ tk₁ μ₁ (pfx _) I₁ rfl)
  | USub =>
    refine .of (fun cx m cv st ρ μ₀ T μ H s Q E hp I p => ?_) (fun _ _ => rfl) (fun c => rfl)
    refine UnaryOp_ ((hx.E cx m cv st ρ μ₀ T).next hp I p fun a va h₁ tk₁ μ₁ H₁ hp₁ I₁ r₁ p₁ => ?_)
    obtain ⟨i, e, p₁⟩ := p₁.opt
    obtain ⟨t, rfl⟩ := r₁.i? e
    exact PyProof.Rows.neg_int (p₁ _ h₁ _ μ₁ (pfx _) I₁ (.int _ _))
  | Invert => exact .bad fun c => rfl
  | UAdd => exact .bad fun c => rfl
end
end Mine

/-! ## part C12 -/
namespace Mine
open PySem PySem.W PyProof.Rows

section
variable {W : Wd} {P : Pg} {Φ : Calls} {C : Addr} {d : Nat} {cx : Fx} {m : Str → Option Value} {cv st : List (Addr × Obj)} {μ : List Addr} {H : AH} {s : Shared} {E : Value → Shared → Prop}

noncomputable def S3s (W : Wd) (P : Pg) (Φ : Calls) (C : Addr) (d : Nat) (es : List Expr) : Prop := ∀ e ∈ es, S3 W P Φ C d e
noncomputable def S3o (W : Wd) (P : Pg) (Φ : Calls) (C : Addr) (d : Nat) (o : Option Expr) : Prop := ∀ e, o = some e → S3 W P Φ C d e

theorem one1_some {α : Type} {xs : List α} {x : α} (h : one1 xs = some x) : xs = [x] := by
  cases xs with
  | nil => cases h
  | cons y r =>
    cases r with
    | nil => cases h; rfl
    | cons _ _ => cases h
theorem cEs_one {c : Cx} {es : List Expr} {e : ME} (h : one1 (cEs es c) = some e) : ∃ x, es = [x] ∧ e = cE x c := by
  cases es with
  | nil => cases h
  | cons x r =>
    cases r with
    | nil => cases h; exact ⟨x, rfl, rfl⟩
    | cons _ _ => cases h

theorem orBad_glob {ω : Type} {o : Option ω} {k : ω → ME} (h : ∀ a, globN (k a) = none) : globN (orBad o k) = none := by
  cases o with
  | none => rfl
  | some a => exact h a
theorem butBad_glob {c : Bool} {e : ME} (h : globN e = none) : globN (butBad c e) = none := by
  cases c with
  | false => rfl
  | true => exact h
theorem mkCall_glob {f : Str} {args : List Expr} {c : Cx} {es : List ME} : globN (mkCall f args c es) = none := by
  unfold mkCall
  split
  · unfold isiOf
    cases args with
    | nil => rfl
    | cons _ r => exact orBad_glob fun _ => orBad_glob fun _ => by cases es <;> rfl
  · split
    · rfl
    · split
      · exact orBad_glob fun _ => rfl
      · split
        · exact orBad_glob fun _ => rfl
        · split
          · exact orBad_glob fun _ => rfl
          · split
            · exact orBad_glob fun _ => rfl
            · cases biOf f <;> rfl
theorem methOf_glob {o : Expr} {args : List Expr} {ap pos : Pos} {b : ME} {es : List ME} {mn : Str} : globN (methOf o args ap pos b es mn) = none := by
  unfold methOf
  cases smOf mn with
  | some k => exact orBad_glob fun _ => butBad_glob rfl
  | none =>
    show globN (if args.isEmpty && mn == ("pop" : Str) then _ else _) = none
    split
    · exact butBad_glob rfl
    · exact orBad_glob fun _ => orBad_glob fun _ => butBad_glob rfl
/-- a global name, as it is written -/
theorem glob_name {c : Cx} {r : Expr} {x : Str} (h : globN (cE r c) = some x) : (∃ p, r = .Name x p) ∧ c.global x = true := by
  have no : globN (cE r c) = none → False := fun q => by rw [q] at h; cases h
  cases r with
  | Name y p =>
    have h : globN (butBad (!(y == ("__debug__" : Str))) (match slotOf c y with | some i => .var i | none => butBad (c.global y) (.glob y))) = some x := h
    cases hd : (!(y == ("__debug__" : Str))) with
    | false => rw [hd] at h; cases h
    | true =>
      rw [hd] at h
      cases hs : slotOf c y with
      | some i => rw [hs] at h; cases h
      | none =>
        rw [hs] at h
        cases hg : c.global y with
        | false => rw [hg] at h; cases h
        | true => rw [hg] at h; cases h; exact ⟨⟨p, rfl⟩, hg⟩
  | Constant v _ _ => cases v <;> cases h
  | BinOp l op r _ => exact (no (orBad_glob fun _ => rfl)).elim
  | UnaryOp op y _ => cases op <;> cases h
  | BoolOp op vs _ =>
    match vs, no with
    | [], _ => cases op <;> cases h
    | [_], _ => cases op <;> cases h
    | _ :: _ :: _, no => exact (no (butBad_glob (by cases op <;> rfl))).elim
  | Compare l ops rs _ =>
    refine (no (orBad_glob fun _ => butBad_glob (orBad_glob fun op => ?_))).elim
    cases inOf op with
    | some neg => rfl
    | none => exact orBad_glob fun _ => rfl
  | Call f args kws pos =>
    refine (no (butBad_glob ?_)).elim
    cases f with
    | Attribute o mn ap => exact methOf_glob
    | Name f _ => exact butBad_glob mkCall_glob
    | _ => rfl
  | Subscript v i _ =>
    cases i with
    | Slice lo hi st _ => exact (no (butBad_glob (by cases lo <;> cases hi <;> rfl))).elim
    | _ => cases h
  | List es _ => exact (no (butBad_glob rfl)).elim
  | Tuple es _ _ => exact (no (butBad_glob rfl)).elim
  | ListComp elt gens sc _ =>
    refine (no (orBad_glob fun p => butBad_glob ?_)).elim
    show globN (condOf p.2 (cE elt (c.comp sc p.1)) (cIf gens (c.comp sc p.1))) = none
    cases cIf gens (c.comp sc p.1) with
    | nil => rfl
    | cons t r => exact butBad_glob rfl
  | _ => cases h
theorem dctOf_some {c : Cx} {r : Expr} {D : List (Str × Int)} (h : dctOf P (cE r c) = some D) : ∃ x p, r = .Name x p ∧ c.global x = true ∧ P.dct.lookup x = some D := by
  obtain ⟨x, e1, e2⟩ := bind_some h
  obtain ⟨⟨p, rfl⟩, hg⟩ := glob_name e1
  exact ⟨x, p, rfl, hg, e2⟩
theorem tab_lookup (y : Str) : ∀ D : List (Str × Int), PySem.Spec.lookup (.str y) (D.map fun q => (PyData.str q.1, PyData.int q.2)) = (D.lookup y).map PyData.int
  | [] => rfl
  | (x, n) :: r => by
    have ih := tab_lookup y r
    show (if PySem.Spec.same _ _ = true then _ else _) = _
    rw [List.lookup_cons]
    by_cases h : y = x
    · subst h
      rw [if_pos (by rw [PyProof.V.same_str]; exact decide_eq_true rfl), beq_self_eq_true]
      rfl
    · have h2 : (y == x) = false := beq_eq_false_iff_ne.mpr h
      rw [h2, if_neg]
      · exact ih
      · rw [PyProof.V.same_str]
        simpa using fun e => h (by first | exact e | exact e.symm)
theorem VsRel.strsOf : ∀ {xs : List AV} {vs : List Value} {ys : List Str}, VsRel μ xs vs → Mine.strsOf xs = some ys → StrsAre vs ys
  | [], vs, ys, h, e => by
    cases e
    rw [h.nil_inv]
    exact .nil
  | x :: r, vs, ys, h, e => by
    obtain ⟨v, q, rfl, h1, h2⟩ := h.head
    obtain ⟨y, e1, e2⟩ := bind_some e
    obtain ⟨zs, e3, rfl⟩ := Option.map_eq_some_iff.mp e2
    obtain ⟨t, rfl⟩ := h1.s? e1
    exact .cons y t (VsRel.strsOf h2 e3)
theorem in_sound {x y : AV} {a b : Value} {neg : Bool} {o : CmpOp} {Q : Value → Shared → Prop} (ho : inOf o = some neg) (I : Inv cx m cv st μ H s.heap) (rx : VRel μ x a) (ry : VRel μ y b) (p : PostG cx m cv st s μ RV Q E (cinA neg x y H)) : wpAny W.M cx.A (compareOp o a b) Q E s := by
  obtain ⟨k, e, p⟩ := p.opt
  obtain ⟨t, rfl⟩ := rx.s? e
  rcases p.orS with ⟨z, rfl, p⟩ | ⟨_, p⟩
  · obtain ⟨u, rfl⟩ := ry.s? rfl
    cases o <;> cases ho
    · exact P.in_str (p.val I (.bool _) s.toks)
    · exact P.notIn_str (p.val I (.bool _) s.toks)
  · obtain ⟨ys, e', p⟩ := p.opt
    obtain ⟨xs, e1, e2⟩ := bind_some e'
    obtain ⟨_, _, _, vs, n, _, rfl, _, _, hl, hr⟩ := I.lst ry e1
    have hi := hr.strsOf e2
    cases o <;> cases ho
    · exact in_list_strs hl.isList hi (p.val I (.bool _) s.toks)
    · exact notin_list_strs hl.isList hi (p.val I (.bool _) s.toks)
theorem din_sound {x : AV} {a : Value} {neg : Bool} {o : CmpOp} {d' : Addr} {D : List (Str × Int)} {Q : Value → Shared → Prop} (ho : inOf o = some neg) (I : Inv cx m cv st μ H s.heap) (rx : VRel μ x a) (T : StrTab W.prog W.w s.heap d' (D.map fun q => (PyData.str q.1, PyData.int q.2))) (p : PostG cx m cv st s μ RV Q E (dinA neg D x H)) : wpAny W.M cx.A (compareOp o a (.ref d')) Q E s := by
  obtain ⟨k, e, p⟩ := p.opt
  obtain ⟨t, rfl⟩ := rx.s? e
  have hk : (PySem.Spec.lookup (.str k) (D.map fun q => (PyData.str q.1, PyData.int q.2))).isSome = (D.lookup k).isSome := by rw [tab_lookup, Option.isSome_map]
  cases o <;> cases ho
  · exact in_strTab T (by rw [hk]; exact p.val I (.bool _) _)
  · exact notin_strTab T (by rw [hk]; exact p.val I (.bool _) _)
theorem cmp_two {α β : Type} {R : List Addr → Heap → α → β → Prop} {Q : β → Shared → Prop} {K : Value → Shared → Prop} {g : AV → AH → Res α} {l r : Expr} {op : CmpOp} {ρ : Rho} {μ₀ : List Addr} (LK : Lk W P C) (hl : S3 W P Φ C d l) (hr : S3 W P Φ C d r) (T : St W C d cx m cv st ρ μ₀) (hp : μ₀ <+: μ) (I : Inv cx m cv st μ H s.heap)
    (p : PostG cx m cv st s μ R Q E ((ev P Φ (match inOf op with | some neg => .cin neg (cE l cx.c) (cE r cx.c) | none => orBad (copOf op) fun o => .cmp o (cE l cx.c) (cE r cx.c)) ρ H).bind g))
    (k : ∀ a v h₁ tk₁ μ₁ H₁, μ <+: μ₁ → Inv cx m cv st μ₁ H₁ h₁ → VRel μ₁ a v → PostG cx m cv st { s with heap := h₁, toks := tk₁ } μ₁ R Q E (g a H₁) → K v { s with heap := h₁, toks := tk₁ }) :
    wpAny W.M cx.A (eval l cx.env) (fun va s₁ => wpAny W.M cx.A (eval r cx.env) (fun vb s₂ => wpAny W.M cx.A (compareOp op va vb) K E s₂) E s₁) E s := by
  cases hi : inOf op with
  | none =>
    rw [hi] at p
    obtain ⟨o, ho, p⟩ := PostG.orBad p
    have p : PostG cx m cv st s μ R Q E (((ev P Φ (cE l cx.c) ρ H).bind fun x H₁ => (ev P Φ (cE r cx.c) ρ H₁).bind fun y H₂ => cmpA o x y H₂).bind g) := p
    rw [bind_bind] at p
    refine (hl.E cx m cv st ρ μ₀ T).next hp I p fun a va h₁ tk₁ μ₁ H₁ hp₁ I₁ r₁ p₁ => ?_
    rw [bind_bind] at p₁
    refine (hr.E cx m cv st ρ μ₀ T).next (hp.trans hp₁) I₁ p₁ fun b vb h₂ tk₂ μ₂ H₂ hp₂ I₂ r₂ p₂ => ?_
    have S : Sim W.M cx m cv st RV μ₂ (compareOp op va vb) (cmpA o a b) := fun μ' H' s' Q' E' hp' I' p' => cmp_sound (by have := T.ok.un; decreasing_trivial) ho I' ((r₁.mono hp₂).mono hp') (r₂.mono hp') p'
    exact S.next (pfx _) I₂ p₂ fun c vc h₃ tk₃ μ₃ H₃ hp₃ I₃ r₃ p₃ => k c vc h₃ tk₃ μ₃ H₃ ((hp₁.trans hp₂).trans hp₃) I₃ r₃ p₃
  | some neg =>
    rw [hi] at p
    cases hD : dctOf P (cE r cx.c) with
    | some D =>
      have q1 : PostG cx m cv st s μ R Q E ((orD (dctOf P (cE r cx.c)) (fun D => (ev P Φ (cE l cx.c) ρ H).bind fun x H₁ => dinA neg D x H₁) ((ev P Φ (cE l cx.c) ρ H).bind fun x H₁ => (ev P Φ (cE r cx.c) ρ H₁).bind fun y H₂ => cinA neg x y H₂)).bind g) := p
      rw [hD] at q1
      have q2 : PostG cx m cv st s μ R Q E (((ev P Φ (cE l cx.c) ρ H).bind fun x H₁ => dinA neg D x H₁).bind g) := q1
      rw [bind_bind] at q2
      obtain ⟨x, pp, rfl, hg, hl'⟩ := dctOf_some hD
      obtain ⟨d', e1, e2⟩ := LK.dct x D hl'
      refine (hl.E cx m cv st ρ μ₀ T).next hp I q2 fun a va h₁ tk₁ μ₁ H₁ hp₁ I₁ r₁ p₁ => ?_
      obtain ⟨g1, g2⟩ := global_of hg
      refine name_glob T.ok I₁ g1 g2 e1 ?_
      have S : Sim W.M cx m cv st RV μ₁ (compareOp op va (.ref d')) (dinA neg D a) := fun μ' H' s' Q' E' hp' I' p' => din_sound hi I' (r₁.mono hp') (e2 _ (T.ok.X.keeps I'.fr.keep)) p'
      exact S.next (pfx _) I₁ p₁ fun c vc h₃ tk₃ μ₃ H₃ hp₃ I₃ r₃ p₃ => k c vc h₃ tk₃ μ₃ H₃ (hp₁.trans hp₃) I₃ r₃ p₃
    | none =>
      have p : PostG cx m cv st s μ R Q E ((orD (dctOf P (cE r cx.c)) (fun D => (ev P Φ (cE l cx.c) ρ H).bind fun x H₁ => dinA neg D x H₁) ((ev P Φ (cE l cx.c) ρ H).bind fun x H₁ => (ev P Φ (cE r cx.c) ρ H₁).bind fun y H₂ => cinA neg x y H₂)).bind g) := p
      rw [hD] at p
      have p : PostG cx m cv st s μ R Q E (((ev P Φ (cE l cx.c) ρ H).bind fun x H₁ => (ev P Φ (cE r cx.c) ρ H₁).bind fun y H₂ => cinA neg x y H₂).bind g) := p
      rw [bind_bind] at p
      refine (hl.E cx m cv st ρ μ₀ T).next hp I p fun a va h₁ tk₁ μ₁ H₁ hp₁ I₁ r₁ p₁ => ?_
      rw [bind_bind] at p₁
      refine (hr.E cx m cv st ρ μ₀ T).next (hp.trans hp₁) I₁ p₁ fun b vb h₂ tk₂ μ₂ H₂ hp₂ I₂ r₂ p₂ => ?_
      have S : Sim W.M cx m cv st RV μ₂ (compareOp op va vb) (cinA neg a b) := fun μ' H' s' Q' E' hp' I' p' => in_sound hi I' ((r₁.mono hp₂).mono hp') (r₂.mono hp') p'
      exact S.next (pfx _) I₂ p₂ fun c vc h₃ tk₃ μ₃ H₃ hp₃ I₃ r₃ p₃ => k c vc h₃ tk₃ μ₃ H₃ ((hp₁.trans hp₂).trans hp₃) I₃ r₃ p₃
theorem bind_same {α : Type} (r : Res α) : (r.bind fun a H => .ok a H) = r := by cases r <;> rfl
theorem cmpOf_rng {ops : List CmpOp} {rs : List Expr} {l : ME} {es : List ME} : (cmpOf ops rs l es).rng? = none := by
  refine orBad_rng fun _ => butBad_rng (orBad_rng fun op => ?_)
  cases inOf op with
  | some neg => rfl
  | none => exact orBad_rng fun _ => rfl
theorem compare_S3 {l : Expr} {ops : List CmpOp} {rs : List Expr} {pos : Pos} (LK : Lk W P C) (hl : S3 W P Φ C d l) (hr : S3s W P Φ C d rs) : S3 W P Φ C d (.Compare l ops rs pos) := by
  have hE : SE W P Φ C d (.Compare l ops rs pos) := fun cx m cv st ρ μ₀ T μ H s Q E hp I p => by
    obtain ⟨r', hr', pp2⟩ := p.orE
    obtain ⟨hm, pp3⟩ := pp2.butE
    obtain ⟨op, h1, pp4⟩ := pp3.orE
    obtain rfl := one1_some h1
    obtain ⟨r, rfl, rfl⟩ := cEs_one hr'
    rw [← bind_same (ev P Φ _ ρ H)] at pp4
    exact wpAny_Compare1 (cmp_two LK hl (hr r (.head _)) T hp I pp4 fun a v h₁ tk₁ μ₁ H₁ hp₁ I₁ r₁ p₁ => p₁ v h₁ tk₁ μ₁ (pfx _) I₁ r₁) (notT hm)
  refine ⟨hE, fun cx m cv st ρ μ₀ T μ H s Q E hp I p => ?_, SI.of hE fun c => cmpOf_rng⟩
  obtain ⟨r', hr', pp2⟩ := PostG.orBad p
  obtain ⟨hm, pp3⟩ := PostG.butBad pp2
  obtain ⟨op, h1, pp4⟩ := PostG.orBad pp3
  obtain rfl := one1_some h1
  obtain ⟨r, rfl, rfl⟩ := cEs_one hr'
  exact wpAny_isTrue_Compare1 (cmp_two LK hl (hr r (.head _)) T hp I pp4 fun a v h₁ tk₁ μ₁ H₁ hp₁ I₁ r₁ p₁ => truth_sound I₁ r₁ p₁) (notT hm)

/-- and / or: what stands for the first part's value -/
noncomputable def boolTest (op : BoolOp) (b : Bool) : Bool := match op with
  | .And => b
  | .Or => !b
theorem mkBool_cons {op : BoolOp} {ρ : Rho} {e e2 : ME} {r : List ME} : ev P Φ (mkBool op (e :: e2 :: r)) ρ H = (ev P Φ e ρ H).bind fun x H₁ => (truth x H₁).bind fun t H₂ => if boolTest op t then ev P Φ (mkBool op (e2 :: r)) ρ H₂ else .ok x H₂ := by
  cases op with
  | And => rfl
  | Or =>
    show ((ev P Φ e ρ H).bind fun x H₁ => (truth x H₁).bind fun t H₂ => if t then .ok x H₂ else ev P Φ (mkBool .Or (e2 :: r)) ρ H₂) = _
    congr 1; funext x H₁; congr 1; funext t H₂; cases t <;> rfl

theorem bool_key {op : BoolOp} {pos : Pos} {ρ : Rho} {μ₀ : List Addr} (T : St W C d cx m cv st ρ μ₀) : ∀ vs : List Expr, S3s W P Φ C d vs → vs ≠ [] →
      Sim W.M cx m cv st RV μ₀ (eval (.BoolOp op vs pos) cx.env) (ev P Φ (mkBool op (cEs vs cx.c)) ρ) ∧
      ∀ whole, Sim W.M cx m cv st RB μ₀ (isTrue (.BoolOp op vs pos) cx.env whole) (fun H => (ev P Φ (mkBool op (cEs vs cx.c)) ρ H).bind truth)
  | [], _, h => absurd rfl h
  | e :: [], hs, _ => by
    have he := hs e (.head _)
    refine ⟨fun μ H s Q E hp I p => BoolOp_one (he.E cx m cv st ρ μ₀ T μ H s Q E hp I p), fun whole μ H s Q E hp I p => ?_⟩
    have := he.B cx m cv st ρ μ₀ T μ H s Q E hp I p
    cases op with
    | And => exact isTrue_and (wpAny_mono this (fun c s' h' => by cases c <;> first | exact h' | exact isTrue_and_nil h') fun _ _ x => x)
    | Or => exact isTrue_or (wpAny_mono this (fun c s' h' => by cases c <;> first | exact h' | exact isTrue_or_nil h') fun _ _ x => x)
  | e :: e2 :: r2, hs, _ => by
    have he := hs e (.head _)
    obtain ⟨i1, i2⟩ := bool_key T (e2 :: r2) (fun x hx => hs x (.tail _ hx)) (by intro h; cases h)
    refine ⟨fun μ H s Q E hp I p => ?_, fun whole μ H s Q E hp I p => ?_⟩
    · have p : PostG cx m cv st s μ RV Q E (ev P Φ (mkBool op (cE e cx.c :: cE e2 cx.c :: cEs r2 cx.c)) ρ H) := p
      rw [mkBool_cons] at p
      have k : wpAny W.M cx.A (eval e cx.env) (fun va s₁ => wpAny W.M cx.A (truthy va) (fun b s₂ => if boolTest op b then wpAny W.M cx.A (eval (.BoolOp op (e2 :: r2) pos) cx.env) Q E s₂ else Q va s₂) E s₁) E s := by
        refine (he.E cx m cv st ρ μ₀ T).next hp I p fun a va h₁ tk₁ μ₁ H₁ hp₁ I₁ r₁ p₁ => ?_
        cases r₁ with
        | bool b =>
          refine wpAny_truthy_bool ?_
          have p₁ : PostG cx m cv st { s with heap := h₁, toks := tk₁ } μ₁ RV Q E (if boolTest op b then ev P Φ (mkBool op (cEs (e2 :: r2) cx.c)) ρ H₁ else .ok (.bool b) H₁) := p₁
          cases hb : boolTest op b with
          | false => rw [hb] at p₁; exact p₁ _ h₁ tk₁ μ₁ (pfx _) I₁ (.bool _)
          | true => rw [hb] at p₁; exact i1 μ₁ H₁ _ Q E (hp.trans hp₁) I₁ p₁
        | none => exact p₁.elim
        | int _ _ => exact p₁.elim
        | ref _ => exact p₁.elim
        | str _ _ => exact p₁.elim
      cases op with
      | And => exact BoolOp_and (wpAny_mono k (fun va s₁ h => wpAny_mono h (fun b s₂ h => by cases b <;> exact h) fun _ _ x => x) fun _ _ x => x)
      | Or => exact BoolOp_or (wpAny_mono k (fun va s₁ h => wpAny_mono h (fun b s₂ h => by cases b <;> exact h) fun _ _ x => x) fun _ _ x => x)
    · have p : PostG cx m cv st s μ RB Q E ((ev P Φ (mkBool op (cE e cx.c :: cE e2 cx.c :: cEs r2 cx.c)) ρ H).bind truth) := p
      rw [mkBool_cons, bind_bind] at p
      have p : PostG cx m cv st s μ RB Q E ((ev P Φ (cE e cx.c) ρ H).bind fun x H₁ => (truth x H₁).bind fun t H₂ => (if boolTest op t then ev P Φ (mkBool op (cEs (e2 :: r2) cx.c)) ρ H₂ else .ok x H₂).bind truth) := by
        simp only [bind_bind] at p; exact p
      have k : wpAny W.M cx.A (isTrue e cx.env (eval e cx.env)) (fun b s₁ => if boolTest op b then ∀ whole, wpAny W.M cx.A (isTrue (.BoolOp op (e2 :: r2) pos) cx.env whole) Q E s₁ else Q b s₁) E s := by
        refine he.B.turn T hp I p fun b h₁ tk₁ μ₁ H₁ hp₁ I₁ p₁ => ?_
        cases hb : boolTest op b with
        | false => rw [hb] at p₁; exact p₁ _ h₁ tk₁ μ₁ (pfx _) I₁ rfl
        | true => rw [hb] at p₁; exact fun whole => i2 whole μ₁ H₁ _ Q E (hp.trans hp₁) I₁ p₁
      cases op with
      | And => exact isTrue_and (wpAny_mono k (fun b s₁ h => by cases b with | false => exact h | true => exact h _) fun _ _ x => x)
      | Or => exact isTrue_or (wpAny_mono k (fun b s₁ h => by cases b with | true => exact h | false => exact h _) fun _ _ x => x)

theorem mkBool_rng {op : BoolOp} {e e2 : ME} {r : List ME} : (mkBool op (e :: e2 :: r)).rng? = none := by cases op <;> rfl
theorem bool_S3 {op : BoolOp} {vs : List Expr} {pos : Pos} (hs : S3s W P Φ C d vs) : S3 W P Φ C d (.BoolOp op vs pos) := by
  cases hl : decide (2 ≤ vs.length) with
  | false => exact .bad fun c => by show butBad (decide (2 ≤ vs.length)) _ = _; rw [hl]; rfl
  | true =>
    have he : ∀ c, cE (.BoolOp op vs pos) c = mkBool op (cEs vs c) := fun c => by show butBad (decide (2 ≤ vs.length)) _ = _; rw [hl]; rfl
    have hl := of_decide_eq_true hl
    have hne : vs ≠ [] := fun q => by rw [q] at hl; cases hl
    have hE : SE W P Φ C d (.BoolOp op vs pos) := fun cx m cv st ρ μ₀ T => by rw [he]; exact (bool_key T vs hs hne).1
    refine ⟨hE, fun cx m cv st ρ μ₀ T => by rw [he]; exact (bool_key T vs hs hne).2 _, SI.of hE fun c => ?_⟩
    rw [he]
    match vs, hl with
    | e :: e2 :: r, _ => exact mkBool_rng
    | [], h => exact absurd rfl hne
    | [_], h => exact absurd h (by decide : ¬ 2 ≤ 1)

theorem evs_length {ρ : Rho} : ∀ {es : List ME} {H H' : AH} {xs : List AV}, evs P Φ es ρ H = .ok xs H' → xs.length = es.length
  | [], H, H', xs, e => by cases e; rfl
  | x :: r, H, H', xs, e => by
    have e : ((ev P Φ x ρ H).bind fun v H₁ => (evs P Φ r ρ H₁).bind fun vs H₂ => .ok (v :: vs) H₂) = .ok xs H' := e
    cases q : ev P Φ x ρ H with
    | ok a H₁ =>
      rw [q] at e
      have e : ((evs P Φ r ρ H₁).bind fun vs H₂ => .ok (a :: vs) H₂) = .ok xs H' := e
      cases q2 : evs P Φ r ρ H₁ with
      | ok b H₂ => rw [q2] at e; cases e; exact congrArg Nat.succ (evs_length q2)
      | stuck => rw [q2] at e; cases e
    | stuck => rw [q] at e; cases e
theorem cEs_length {c : Cx} : ∀ es : List Expr, (cEs es c).length = es.length
  | [] => rfl
  | _ :: r => congrArg Nat.succ (cEs_length r)

theorem args_Ss : ∀ {es : List Expr}, S3s W P Φ C d es → Ss W P Φ C d es
  | [], _, cx, m, cv, st, ρ, μ₀, pos, T, hst, μ, H, s, Q, E, hp, I, p => args_nil (p _ s.heap s.toks μ (pfx _) I .nil)
  | e :: r, hs, cx, m, cv, st, ρ, μ₀, pos, T, hst, μ, H, s, Q, E, hp, I, p => by
    have hst := Bool.or_eq_false_iff.mp hst
    refine args_cons (((hs e (.head _)).E cx m cv st ρ μ₀ T).next hp I p fun a va h₁ tk₁ μ₁ H₁ hp₁ I₁ r₁ p₁ => ?_) (starEach_cons hst.1)
    refine (args_Ss (fun x hx => hs x (.tail _ hx)) cx m cv st ρ μ₀ pos T hst.2).next (hp.trans hp₁) I₁ p₁ fun b vb h₂ tk₂ μ₂ H₂ hp₂ I₂ r₂ p₂ => ?_
    exact p₂ _ h₂ tk₂ μ₂ (pfx _) I₂ (.cons (r₁.mono hp₂) r₂)
end
end Mine

/-! ## part C13 -/
namespace Mine
open PySem PySem.W PyProof.Rows

section
variable {W : Wd} {P : Pg} {Φ : Calls} {C : Addr} {d : Nat} {cx : Fx} {m : Str → Option Value} {cv st : List (Addr × Obj)} {μ : List Addr} {H : AH} {s : Shared} {E : Value → Shared → Prop}

theorem flat_int {v : Value} {n : Int} (hp : Heap) (h : PyProof.V.Flat v (.int n)) : ∃ u, v = .int n u := by
  cases h hp with
  | int i t => exact ⟨t, rfl⟩
theorem idx_S3 {v i : Expr} {pos : Pos} (LK : Lk W P C) (hi : isSlice i = false) (hv : S3 W P Φ C d v) (hx : S3 W P Φ C d i) : S3 W P Φ C d (.Subscript v i pos) := by
  have he : ∀ c, cE (.Subscript v i pos) c = .idx (cE v c) (cE i c) := fun c => by cases i <;> first | (cases hi; done) | rfl
  refine .of (fun cx m cv st ρ μ₀ T μ H s Q E hp I p => ?_) (fun _ _ => rfl) (fun c => by rw [he]; rfl)
  rw [he] at p
  have q1 : PostG cx m cv st s μ RV Q E (orD (dctOf P (cE v cx.c)) (fun D => (ev P Φ (cE i cx.c) ρ H).bind fun y H₂ => dgetA D y H₂) ((ev P Φ (cE v cx.c) ρ H).bind fun x H₁ => (ev P Φ (cE i cx.c) ρ H₁).bind fun y H₂ => idxA x y H₂)) := p
  rcases q1.orD with ⟨D, hD, q2⟩ | ⟨_, q2⟩
  · obtain ⟨x, pp, rfl, hg, hl'⟩ := dctOf_some hD
    obtain ⟨d', e1, e2⟩ := LK.dct x D hl'
    obtain ⟨g1, g2⟩ := global_of hg
    refine Subscript_ (name_glob T.ok I g1 g2 e1 ?_)
    refine (hx.E cx m cv st ρ μ₀ T).next hp I q2 fun b vb h₂ tk₂ μ₂ H₂ hp₂ I₂ r₂ p₂ => ?_
    obtain ⟨n, e, p₂⟩ := p₂.opt
    obtain ⟨y, e3, e4⟩ := bind_some e
    obtain ⟨t, rfl⟩ := VRel.s? r₂ e3
    refine item_strTab (e2 _ (T.ok.X.keeps I₂.fr.keep)) (dv := .int n) (by rw [tab_lookup, e4]; rfl) (fun v hf => ?_) (sub_plain hi) (fun _ => rfl)
    obtain ⟨u, rfl⟩ := flat_int h₂ hf
    exact p₂ _ h₂ _ μ₂ (pfx _) I₂ (.int _ _)
  · refine Subscript_ ((hv.E cx m cv st ρ μ₀ T).next hp I q2 fun a va h₁ tk₁ μ₁ H₁ hp₁ I₁ r₁ p₁ => ?_)
    refine (hx.E cx m cv st ρ μ₀ T).next (hp.trans hp₁) I₁ p₁ fun b vb h₂ tk₂ μ₂ H₂ hp₂ I₂ r₂ p₂ => ?_
    exact idx_sound hi I₂ (r₁.mono hp₂) r₂ p₂

theorem slOf_rng {v : ME} {lo hi : Option ME} : (slOf v lo hi).rng? = none := by cases lo <;> cases hi <;> rfl
theorem slice_S3 {v : Expr} {lo hi st' : Option Expr} {p0 pos : Pos} (hv : S3 W P Φ C d v) (hlo : S3o W P Φ C d lo) (hhi : S3o W P Φ C d hi) : S3 W P Φ C d (.Subscript v (.Slice lo hi st' p0) pos) := by
  refine .of (fun cx m cv st ρ μ₀ T μ H s Q E hp I p => ?_) (fun _ _ => rfl) (fun c => butBad_rng slOf_rng)
  obtain ⟨hn, p₀⟩ := p.butE
  obtain rfl := Option.isNone_iff_eq_none.mp hn
  clear p
  cases lo with
  | none =>
    cases hi with
    | none => exact p₀.elim
    | some h =>
      refine Subscript_ ((hv.E cx m cv st ρ μ₀ T).next hp I p₀ fun a va h₁ tk₁ μ₁ H₁ hp₁ I₁ r₁ p₁ => ?_)
      refine wpAny_Slice ?_
      rw [evalPart_some, evalPart_none]
      refine wpAny_pure ?_
      refine ((hhi h rfl).E cx m cv st ρ μ₀ T).next (hp.trans hp₁) I₁ p₁ fun e ve h₃ tk₃ μ₃ H₃ hp₃ I₃ r₃ p₃ => ?_
      refine wpAny_pure ?_
      exact sliceU_sound (I₃.push _) (r₁.mono hp₃) r₃ (Heap.IsSliceOf.new _ _ _ _) (PostG.at p₃ (pfx _))
  | some l =>
    cases hi with
    | none =>
      refine Subscript_ ((hv.E cx m cv st ρ μ₀ T).next hp I p₀ fun a va h₁ tk₁ μ₁ H₁ hp₁ I₁ r₁ p₁ => ?_)
      refine wpAny_Slice ?_
      rw [evalPart_some, evalPart_none]
      refine ((hlo l rfl).E cx m cv st ρ μ₀ T).next (hp.trans hp₁) I₁ p₁ fun b vb h₂ tk₂ μ₂ H₂ hp₂ I₂ r₂ p₂ => ?_
      refine wpAny_pure (wpAny_pure ?_)
      exact sliceF_sound (I₂.push _) (r₁.mono hp₂) r₂ (Heap.IsSliceOf.new _ _ _ _) (PostG.at p₂ (pfx _))
    | some h =>
      refine Subscript_ ((hv.E cx m cv st ρ μ₀ T).next hp I p₀ fun a va h₁ tk₁ μ₁ H₁ hp₁ I₁ r₁ p₁ => ?_)
      refine wpAny_Slice ?_
      rw [evalPart_some, evalPart_some, evalPart_none]
      refine ((hlo l rfl).E cx m cv st ρ μ₀ T).next (hp.trans hp₁) I₁ p₁ fun b vb h₂ tk₂ μ₂ H₂ hp₂ I₂ r₂ p₂ => ?_
      refine ((hhi h rfl).E cx m cv st ρ μ₀ T).next ((hp.trans hp₁).trans hp₂) I₂ p₂ fun e ve h₃ tk₃ μ₃ H₃ hp₃ I₃ r₃ p₃ => ?_
      refine wpAny_pure ?_
      exact slice_sound (I₃.push _) ((r₁.mono hp₂).mono hp₃) (r₂.mono hp₃) r₃ (Heap.IsSliceOf.new _ _ _ _) (PostG.at p₃ (pfx _))

theorem attr_S3 {v : Expr} {a : Str} {pos : Pos} : S3 W P Φ C d (.Attribute v a pos) := .bad fun _ => rfl
theorem newList_sound {xs : List AV} {vs : List Value} {Q : Value → Shared → Prop} (I : Inv cx m cv st μ H s.heap) (hr : VsRel μ xs vs) (hs : xs.length ≤ 1000) (p : PostG cx m cv st s μ RV Q E (alloc (.list true xs) H)) : wpAny W.M cx.A (newList vs) Q E s :=
  wpAny_newObj_type (p (.ref s.heap.objs.size) _ s.toks (μ ++ [s.heap.objs.size]) (List.prefix_append _ _) (I.newList true hr) (I.refNew _)) (by show vs.toArray.size ≤ sizeLine; rw [List.size_toArray, sizeLine_eq, ← hr.1]; decreasing_trivial)
theorem newTup_sound {xs : List AV} {vs : List Value} {Q : Value → Shared → Prop} (I : Inv cx m cv st μ H s.heap) (hr : VsRel μ xs vs) (hs : xs.length ≤ 1000) (p : PostG cx m cv st s μ RV Q E (alloc (.tup xs) H)) : wpAny W.M cx.A (newTuple vs) Q E s :=
  wpAny_newObj_type (p (.ref s.heap.objs.size) _ s.toks (μ ++ [s.heap.objs.size]) (List.prefix_append _ _) (I.newTup hr) (I.refNew _)) (by show vs.toArray.size ≤ sizeLine; rw [List.size_toArray, sizeLine_eq, ← hr.1]; decreasing_trivial)

/-- the arguments, then the rest; their number is known -/
theorem Ss.next {es : List Expr} {ρ : Rho} {μ₀ : List Addr} {pos : Pos} {γ δ : Type} {S : List Addr → Heap → γ → δ → Prop} {g : List AV → AH → Res γ} {Q : δ → Shared → Prop} {k : List Value → Shared → Prop} (hs : Ss W P Φ C d es) (T : St W C d cx m cv st ρ μ₀)
    (hst : es.any isStar = false) (hp : μ₀ <+: μ) (I : Inv cx m cv st μ H s.heap) (p : PostG cx m cv st s μ S Q E ((evs P Φ (cEs es cx.c) ρ H).bind g))
    (f : ∀ a b h₁ tk₁ μ₁ H₁, μ <+: μ₁ → Inv cx m cv st μ₁ H₁ h₁ → VsRel μ₁ a b → a.length = es.length → PostG cx m cv st { s with heap := h₁, toks := tk₁ } μ₁ S Q E (g a H₁) → k b { s with heap := h₁, toks := tk₁ }) : wpAny W.M cx.A (spliced (backTo pos (starEach es cx.env))) k E s := by
  refine hs cx m cv st ρ μ₀ pos T hst μ H s k E hp I ?_
  cases q : evs P Φ (cEs es cx.c) ρ H with
  | ok a H₁ =>
    rw [q] at p
    exact fun b h₁ tk₁ μ₁ hp₁ I₁ r₁ => f a b h₁ tk₁ μ₁ H₁ hp₁ I₁ r₁ ((evs_length q).trans (cEs_length es)) (PostG.at p hp₁)
  | stuck => rw [q] at p; exact p

theorem seqOk_of {es : List Expr} (h : seqOk es = true) : es.any isStar = false ∧ es.length ≤ 1000 := by
  have h := Bool.and_eq_true_iff.mp h
  exact ⟨notT h.1, of_decide_eq_true h.2⟩
theorem list_S3 {es : List Expr} {pos : Pos} (hs : S3s W P Φ C d es) : S3 W P Φ C d (.List es pos) := by
  refine .of (fun cx m cv st ρ μ₀ T μ H s Q E hp I p => ?_) (fun _ _ => rfl) (fun c => butBad_rng rfl)
  obtain ⟨hk, p⟩ := p.butE
  obtain ⟨h1, h2⟩ := seqOk_of hk
  exact List_ ((args_Ss hs).next T h1 hp I p fun a b h₁ tk₁ μ₁ H₁ hp₁ I₁ r₁ hlen p₁ => newList_sound I₁ r₁ (hlen ▸ h2) p₁)
theorem tuple_S3 {es : List Expr} {k : Nat} {pos : Pos} (hs : S3s W P Φ C d es) : S3 W P Φ C d (.Tuple es k pos) := by
  refine .of (fun cx m cv st ρ μ₀ T μ H s Q E hp I p => ?_) (fun _ _ => rfl) (fun c => butBad_rng rfl)
  obtain ⟨hk, p⟩ := p.butE
  obtain ⟨h1, h2⟩ := seqOk_of hk
  exact Tuple_ ((args_Ss hs).next T h1 hp I p fun a b h₁ tk₁ μ₁ H₁ hp₁ I₁ r₁ hlen p₁ => newTup_sound I₁ r₁ (hlen ▸ h2) p₁)
end
end Mine

/-! ## part C14 -/
namespace Mine
open PySem PySem.W PyProof.Rows

section
variable {W : Wd} {P : Pg} {Φ : Calls} {C : Addr} {d : Nat} {cx : Fx} {m : Str → Option Value} {cv st : List (Addr × Obj)} {μ : List Addr} {H : AH} {s : Shared} {E : Value → Shared → Prop}

theorem ty_append : typeOf (.builtin "list.append") = pure (.type "method_descriptor") := by show builtinType _ = _; rw [builtinType_eq_fast]; kernel_rfl
theorem ty_extend : typeOf (.builtin "list.extend") = pure (.type "method_descriptor") := by show builtinType _ = _; rw [builtinType_eq_fast]; kernel_rfl
theorem base_plain {o : Expr} {name : Str} {env : Env} (h : isCall o = false) : attributeBase o name env (eval o env) = eval o env := by
  cases o <;> first | rfl | cases h

theorem mtOf_some {f : Str} {k : Mt} (h : mtOf f = some k) : (f = "append" ∧ k = .append) ∨ (f = "extend" ∧ k = .extend) ∨ (f = "index" ∧ k = .index) := by
  unfold mtOf at h
  split at h
  · rename_i z; cases h; exact .inl ⟨beq_iff_eq.mp z, rfl⟩
  · split at h
    · rename_i z; cases h; exact .inr (.inl ⟨beq_iff_eq.mp z, rfl⟩)
    · split at h
      · rename_i z; cases h; exact .inr (.inr ⟨beq_iff_eq.mp z, rfl⟩)
      · cases h
theorem methOf_rng {o : Expr} {args : List Expr} {ap pos : Pos} {b : ME} {es : List ME} {mn : Str} : (methOf o args ap pos b es mn).rng? = none := by
  unfold methOf
  cases smOf mn with
  | some k => exact orBad_rng fun _ => butBad_rng rfl
  | none =>
    show (if args.isEmpty && mn == ("pop" : Str) then _ else _ : ME).rng? = none
    split
    · exact butBad_rng rfl
    · exact orBad_rng fun _ => orBad_rng fun _ => butBad_rng rfl
theorem smOf_some {f : Str} {k : Sm} (h : smOf f = some k) : (f = "startswith" ∧ k = .startswith) ∨ (f = "split" ∧ k = .split) ∨ (f = "join" ∧ k = .join) := by
  unfold smOf at h
  split at h
  · rename_i z; cases h; exact .inl ⟨beq_iff_eq.mp z, rfl⟩
  · split at h
    · rename_i z; cases h; exact .inr (.inl ⟨beq_iff_eq.mp z, rfl⟩)
    · split at h
      · rename_i z; cases h; exact .inr (.inr ⟨beq_iff_eq.mp z, rfl⟩)
      · cases h
noncomputable def smId : Sm → String
  | .startswith => "str.startswith"
  | .split => "str.split"
  | .join => "str.join"
theorem strVals_rel : ∀ l : List (Str × Tok), VsRel μ ((l.map (·.1)).map AV.str) (strValues l)
  | [] => .nil
  | (x, t) :: r => .cons (.str x t) (strVals_rel r)
open Builtin Builtin.Str in
theorem sm_sound {k : Sm} {x : Str} {t : Tok} {v : AV} {b : Value} {Q : Value → Shared → Prop} (I : Inv cx m cv st μ H s.heap) (r : VRel μ v b) (p : PostG cx m cv st s μ RV Q E (smA k (.str x) v H)) : wpAny W.M cx.A (call (.builtin (smId k)) [.str x t, b]) Q E s := by
  obtain ⟨x', ex, p⟩ := p.opt
  cases ex
  cases k with
  | startswith =>
    obtain ⟨y, e, p⟩ := PostG.opt (o := v.s?) p
    obtain ⟨u, rfl⟩ := r.s? e
    exact SC.startswith (p.val I (.bool _) s.toks)
  | split =>
    obtain ⟨y, e, p⟩ := PostG.opt (o := v.s?) p
    obtain ⟨hc, p⟩ := p.chk
    obtain ⟨u, rfl⟩ := r.s? e
    have hc := Bool.and_eq_true_iff.mp hc
    have hc' := Bool.and_eq_true_iff.mp hc.1
    have hsz : x.length ≤ sizeLine := by rw [sizeLine_eq]; exact of_decide_eq_true hc'.1
    have hy : (y.length == 0) = false := notT hc'.2
    have hsz2 : (partsBetween x (occurrences x y 0 x.length (x.length + 1)) y.length).length ≤ sizeLine := by rw [sizeLine_eq]; exact of_decide_eq_true hc.2
    have fin : ∀ (l : List (Str × Tok)) (tk : Nat), l.map (·.1) = Txt.split x y → Q (.ref s.heap.objs.size) { s with heap := s.heap.push { cls := .type "list", data := .seq (strValues l).toArray }, toks := tk } := fun l tk hl =>
      p (.ref s.heap.objs.size) _ tk (μ ++ [s.heap.objs.size]) (List.prefix_append _ _) (I.newList true (by rw [← hl]; exact strVals_rel l)) (I.refNew _)
    cases h1 : (decide (x.length < y.length) || decide (Builtin.Str.strKind x < Builtin.Str.strKind y))
    · cases hf : (occurrences x y 0 x.length (x.length + 1)).isEmpty
      · refine call_meets F.slot_str_split (typeIs_str _ _ _) F.entry_str_split (F.args_str_split_2 _ _) (meets_str_split_sep x y t u h1 hy hf hsz hsz2) ?_
        show wants Q E _ { s with toks := _, heap := s.heap.push { cls := .type "list", data := .seq (strsFrom s.toks (partsBetween x (occurrences x y 0 x.length (x.length + 1)) y.length)).toArray } }
        rw [strsFrom_eq]
        exact fin (numbered s.toks _) _ ((numbered_texts _ _).trans ((if_neg (ne_true_of_eq_false h1)).trans (if_neg (ne_true_of_eq_false hf))).symm)
      · exact call_meets F.slot_str_split (typeIs_str _ _ _) F.entry_str_split (F.args_str_split_2 _ _) (meets_str_split_not_found x y t u h1 hy hf)
          (fin [(x, t)] s.toks ((if_neg (ne_true_of_eq_false h1)).trans (if_pos hf)).symm)
    · exact call_meets F.slot_str_split (typeIs_str _ _ _) F.entry_str_split (F.args_str_split_2 _ _) (meets_str_split_cannot_occur x y t u h1)
        (fin [(x, t)] s.toks (if_pos h1).symm)
  | join =>
    obtain ⟨ys, e, p⟩ := PostG.opt (o := (lstOf v H).bind strsOf) p
    obtain ⟨hc, p⟩ := p.chkD
    obtain ⟨xs, e1, e2⟩ := bind_some e
    obtain ⟨_, _, _, vs, n, _, rfl, _, _, hl, hr⟩ := I.lst r e1
    refine join_list hl.isList (hr.strsOf e2) hc fun t' k => ?_
    have := p.val I (.str _ t') k
    rw [← StrLaws.glued_eq_join] at this
    exact this
theorem sm_case {o : Expr} {mn : Str} {ap pos : Pos} {args : List Expr} {k : Sm} {ρ : Rho} {μ₀ : List Addr} {Q : Value → Shared → Prop} (ho : S3 W P Φ C d o) (hs : S3s W P Φ C d args) (T : St W C d cx m cv st ρ μ₀) (hp : μ₀ <+: μ) (I : Inv cx m cv st μ H s.heap) (hk : smOf mn = some k)
    (p : PostG cx m cv st s μ RV Q E (ev P Φ (smCall o args ap pos (cE o cx.c) (cEs args cx.c) k) ρ H)) : wpAny W.M cx.A (eval (.Call (.Attribute o mn ap) args [] pos) cx.env) Q E s := by
  obtain ⟨e', he', pp3⟩ := p.orE
  obtain ⟨hb, pp4⟩ := pp3.butE
  obtain ⟨e, rfl, rfl⟩ := cEs_one he'
  obtain ⟨h1, h4⟩ := Bool.and_eq_true_iff.mp hb
  obtain ⟨h1, h2⟩ := Bool.and_eq_true_iff.mp h1
  have h1 := notT h1
  have h2 := notT h2
  have hst : isStar e = false := (Bool.or_eq_false_iff.mp h2).1
  have hfew : ((backTo pos (starEach [e] cx.env)).all (fun x => !x.1) && (backToKw pos (keywordEach [] cx.env)).all (fun x => x.1.isSome) && decide ([e].length + ([] : List Keyword).length + (if ([] : List Keyword).isEmpty then 0 else 1) < 30)) = true := by
    rw [noStar_all h2]; rfl
  have go : ∀ {nm : Str}, mn = nm → Slot "str" nm (smId k) → typeOf (.builtin (smId k)) = pure (.type "method_descriptor") → wpAny W.M cx.A (eval (.Call (.Attribute o mn ap) [e] [] pos) cx.env) Q E s := by
    intro nm en slot hty
    subst en
    refine wpAny_Call_method (base_plain h1) hfew h4 F.plainAttrs_str slot hty ((ho.E cx m cv st ρ μ₀ T).next hp I pp4 fun x va h₁ tk₁ μ₁ H₁ hp₁ I₁ r₁ p₁ => ?_)
    obtain ⟨hx, p₁⟩ := p₁.chk
    obtain ⟨z, hz⟩ := Option.isSome_iff_exists.mp hx
    obtain rfl := s?_some hz
    obtain ⟨t, rfl⟩ := VRel.s? r₁ hz
    refine ⟨typeIs_str _ _ _, (fun a e => by cases e), ?_⟩
    refine Calls.callWith_builtin (noStar_any h2) (evalArgs_all h2 ?_)
    refine args_cons (((hs e (.head _)).E cx m cv st ρ μ₀ T).next (hp.trans hp₁) I₁ p₁ fun v b h₂ tk₂ μ₂ H₂ hp₂ I₂ r₂ p₂ => ?_) (starEach_cons hst)
    exact args_nil (sm_sound I₂ r₂ p₂)
  rcases smOf_some hk with ⟨z, rfl⟩ | ⟨z, rfl⟩ | ⟨z, rfl⟩
  · exact go z F.slot_str_startswith F.type_str_startswith
  · exact go z F.slot_str_split F.type_str_split
  · exact go z F.slot_str_join F.type_str_join
theorem pop_sound {ad : Addr} {i : Nat} {pos : Pos} {Q : Value → Shared → Prop} (ha : μ[i]? = some ad) (I : Inv cx m cv st μ H s.heap) (p : PostG cx m cv st s μ RV Q E (popA (.ref i) H)) : wpAny W.M cx.A (callWith pos (.builtin "list.pop") [.ref ad] [] []) Q E s := by
  obtain ⟨i', ad', xs, vs, n, e1, e2, hb, q, hl, hr, p⟩ := PostG.mutAt I (VRel.ref ha) p
  cases e1; cases e2
  obtain ⟨v, hv, p⟩ := p.opt
  obtain ⟨hs, p⟩ := p.chkD
  obtain ⟨y, hy, ry⟩ := hr.get hv
  have hlen : vs.length = xs.length := hr.1.symm
  have hlt : xs.length - 1 < vs.length := (List.getElem?_eq_some_iff.mp hy).1
  refine PySem.P.pop_list (items := vs.toArray) (n := n) hl (y := y) (by rw [List.size_toArray, List.getElem?_toArray, hlen]; exact hy) ?_ (by rw [List.size_toArray, sizeLine_eq, hlen]; exact hs)
  refine p y _ s.toks μ (pfx _) (I.upd q hb hl (ws := vs.take (xs.length - 1)) ?_ (hr.take _)) ry
  rw [List.size_toArray, hlen, List.eraseIdxIfInBounds_toArray, List.eraseIdx_eq_take_drop_succ, List.drop_eq_nil_of_le (by decreasing_trivial), List.append_nil]
theorem meth_S3 {o : Expr} {mn : Str} {ap : Pos} {args : List Expr} {kws : List Keyword} {pos : Pos} (ho : S3 W P Φ C d o) (hs : S3s W P Φ C d args) : S3 W P Φ C d (.Call (.Attribute o mn ap) args kws pos) := by
  refine .of (fun cx m cv st ρ μ₀ T μ H s Q E hp I p => ?_) (fun _ _ => rfl) (fun c => butBad_rng methOf_rng)
  obtain ⟨hk0, pp1⟩ := p.butE
  cases hsm : smOf mn with
  | some k =>
    have q1 : PostG cx m cv st s μ RV Q E (ev P Φ (match smOf mn with | some k => smCall o args ap pos (cE o cx.c) (cEs args cx.c) k | none => if args.isEmpty && mn == ("pop" : Str) then butBad (!(isCall o) && ap.endLine == pos.line) (.pop (cE o cx.c)) else orBad (mtOf mn) fun k => orBad (one1 (cEs args cx.c)) fun e => butBad (!(isCall o) && !(args.any isStar) && ap.endLine == pos.line) (.meth k (cE o cx.c) e)) ρ H) := pp1
    rw [hsm] at q1
    obtain rfl := List.isEmpty_iff.mp hk0
    exact sm_case ho hs T hp I hsm q1
  | none =>
  have q1 : PostG cx m cv st s μ RV Q E (ev P Φ (match smOf mn with | some k => smCall o args ap pos (cE o cx.c) (cEs args cx.c) k | none => if args.isEmpty && mn == ("pop" : Str) then butBad (!(isCall o) && ap.endLine == pos.line) (.pop (cE o cx.c)) else orBad (mtOf mn) fun k => orBad (one1 (cEs args cx.c)) fun e => butBad (!(isCall o) && !(args.any isStar) && ap.endLine == pos.line) (.meth k (cE o cx.c) e)) ρ H) := pp1
  rw [hsm] at q1
  clear pp1
  revert q1
  intro pp1
  by_cases hpop : (args.isEmpty && mn == ("pop" : Str)) = true
  · replace pp1 : PostG cx m cv st s μ RV Q E (ev P Φ (if args.isEmpty && mn == ("pop" : Str) then butBad (!(isCall o) && ap.endLine == pos.line) (.pop (cE o cx.c)) else _) ρ H) := pp1
    rw [if_pos hpop] at pp1
    obtain ⟨z1, z2⟩ := Bool.and_eq_true_iff.mp hpop
    obtain rfl := List.isEmpty_iff.mp z1
    obtain rfl := List.isEmpty_iff.mp hk0
    obtain rfl : mn = "pop" := beq_iff_eq.mp z2
    obtain ⟨hb, pp4⟩ := pp1.butE
    obtain ⟨h1, h4⟩ := Bool.and_eq_true_iff.mp hb
    refine wpAny_Call_method (base_plain (notT h1)) rfl h4 F.plainAttrs_list F.slot_list_pop F.type_list_pop ((ho.E cx m cv st ρ μ₀ T).next hp I pp4 fun x va h₁ tk₁ μ₁ H₁ hp₁ I₁ r₁ p₁ => ?_)
    obtain ⟨i, hi, p₂⟩ := p₁.opt
    obtain ⟨ad, ha, rfl⟩ := VRel.r? r₁ hi
    have hx : x = .ref i := by cases x <;> cases hi; rfl
    subst hx
    obtain ⟨xs, hxs, _⟩ := p₂.opt
    obtain ⟨o', ho', hm'⟩ := bind_some hxs
    have hl : ∃ vs n, IsL h₁ ad (List.toArray vs) n := by
      obtain rfl : o' = .list true xs := by cases o' with | list mt ys => cases mt <;> cases hm'; rfl | _ => cases hm'
      obtain ⟨vs, n, e, _⟩ := I₁.obj i _ ad ho' ha
      exact ⟨vs, n, e⟩
    obtain ⟨vs, n, hl⟩ := hl
    exact ⟨⟨_, hl, rfl⟩, fun a e => by cases e; exact ⟨_, hl, rfl⟩, pop_sound ha I₁ p₁⟩
  replace pp1 : PostG cx m cv st s μ RV Q E (ev P Φ (if args.isEmpty && mn == ("pop" : Str) then butBad (!(isCall o) && ap.endLine == pos.line) (.pop (cE o cx.c)) else orBad (mtOf mn) fun k => orBad (one1 (cEs args cx.c)) fun e => butBad (!(isCall o) && !(args.any isStar) && ap.endLine == pos.line) (.meth k (cE o cx.c) e)) ρ H) := pp1
  rw [if_neg hpop] at pp1
  obtain ⟨k, hk, pp2⟩ := pp1.orE
  obtain ⟨e', he', pp3⟩ := pp2.orE
  obtain ⟨hb, pp4⟩ := pp3.butE
  obtain rfl := List.isEmpty_iff.mp hk0
  obtain ⟨e, rfl, rfl⟩ := cEs_one he'
  obtain ⟨h1, h4⟩ := Bool.and_eq_true_iff.mp hb
  obtain ⟨h1, h2⟩ := Bool.and_eq_true_iff.mp h1
  have h1 := notT h1
  have h2 := notT h2
  have hst : isStar e = false := (Bool.or_eq_false_iff.mp h2).1
  have hfew : ((backTo pos (starEach [e] cx.env)).all (fun x => !x.1) && (backToKw pos (keywordEach [] cx.env)).all (fun x => x.1.isSome) && decide ([e].length + ([] : List Keyword).length + (if ([] : List Keyword).isEmpty then 0 else 1) < 30)) = true := by
    rw [noStar_all h2]; rfl
  have lst : ∀ {id : String} {nm : Str}, mn = nm → Slot "list" nm id → typeOf (.builtin id) = pure (.type "method_descriptor") →
      (∀ i ad μ₁ H₁ h₁ tk₁, μ₁[i]? = some ad → μ <+: μ₁ → Inv cx m cv st μ₁ H₁ h₁ → PostG cx m cv st { s with heap := h₁, toks := tk₁ } μ₁ RV Q E ((ev P Φ (cE e cx.c) ρ H₁).bind fun v H₂ => methA k (.ref i) v H₂) →
        wpAny W.M cx.A (callWith pos (.builtin id) [.ref ad] (backTo pos (starEach [e] cx.env)) []) Q E { s with heap := h₁, toks := tk₁ }) →
      wpAny W.M cx.A (eval (.Call (.Attribute o mn ap) [e] [] pos) cx.env) Q E s := by
    intro id nm en slot hty hq
    subst en
    refine wpAny_Call_method (base_plain h1) hfew h4 F.plainAttrs_list slot hty ((ho.E cx m cv st ρ μ₀ T).next hp I pp4 fun x va h₁ tk₁ μ₁ H₁ hp₁ I₁ r₁ p₁ => ?_)
    obtain ⟨hpre, p₁⟩ := p₁.chk
    obtain ⟨xs, hxs⟩ := Option.isSome_iff_exists.mp hpre
    obtain ⟨i, ad, mt, vs, n, rfl, rfl, ha, q, hl, hr⟩ := I₁.lst r₁ hxs
    exact ⟨⟨_, hl, rfl⟩, fun a e => by cases e; exact ⟨_, hl, rfl⟩, hq i ad μ₁ H₁ h₁ tk₁ ha hp₁ I₁ p₁⟩
  have arg1 : ∀ μ₁, μ₀ <+: μ₁ → Sim W.M cx m cv st RV μ₁ (eval e cx.env) (ev P Φ (cE e cx.c) ρ) := fun μ₁ hq μ' H' s' Q' E' hp' I' p' => (hs e (.head _)).E cx m cv st ρ μ₀ T μ' H' s' Q' E' (hq.trans hp') I' p'
  rcases mtOf_some hk with ⟨z, rfl⟩ | ⟨z, rfl⟩ | ⟨z, rfl⟩
  · refine lst z F.slot_list_append ty_append fun i ad μ₁ H₁ h₁ tk₁ ha hp₁ I₁ p₁ => ?_
    rw [starEach_cons hst]
    exact append_sound ha I₁ (arg1 μ₁ (hp.trans hp₁)) p₁
  · refine lst z F.slot_list_extend ty_extend fun i ad μ₁ H₁ h₁ tk₁ ha hp₁ I₁ p₁ => ?_
    rw [starEach_cons hst]
    exact extend_sound ha I₁ (arg1 μ₁ (hp.trans hp₁)) p₁
  · refine lst z F.slot_list_index F.type_list_index fun i ad μ₁ H₁ h₁ tk₁ ha hp₁ I₁ p₁ => ?_
    rw [starEach_cons hst]
    exact index_sound ha I₁ (arg1 μ₁ (hp.trans hp₁)) p₁
end
end Mine

/-! ## part C15 -/
namespace Mine
open PySem PySem.W PyProof.Rows

section
variable {W : Wd} {P : Pg} {Φ : Calls} {C : Addr} {d : Nat} {cx : Fx} {m : Str → Option Value} {cv st : List (Addr × Obj)} {μ : List Addr} {H : AH} {h : Heap} {s : Shared} {E : Value → Shared → Prop}

/-- a range as it is laid -/
theorem range_facts {a b : Int} {ns : List Int} (e : upto a b = some ns) : Builtin.Range.small a b 1 = true ∧ Builtin.Range.rangeSize a b 1 = ((ns.map AV.int).length : Int) ∧ ∀ j, j < (ns.map AV.int).length → (ns.map AV.int)[j]? = some (.int (a + j * 1)) := by
  unfold upto at e
  split at e
  · rename_i h
    cases e
    obtain ⟨h1, h2, h3, h4⟩ := h
    refine ⟨small_one (by decreasing_trivial) (by decreasing_trivial) (by decreasing_trivial) (by decreasing_trivial), ?_, fun j hj => ?_⟩
    · rw [rangeSize_one]; simp only [List.length_map, List.length_range]; split <;> decreasing_trivial
    · simp only [List.length_map, List.length_range] at hj; simp [hj]
  · cases e
theorem step_facts {a b c : Int} {ns : List Int} (e : stepTo a b c = some ns) : 1 ≤ c ∧ c ≤ 1000 ∧ Builtin.Range.small a b c = true ∧ Builtin.Range.rangeSize a b c = ((ns.map AV.int).length : Int) ∧ ∀ j, j < (ns.map AV.int).length → (ns.map AV.int)[j]? = some (.int (a + j * c)) := by
  unfold stepTo at e
  split at e
  · rename_i h
    cases e
    obtain ⟨h1, h2, h3, h4, h5, h6⟩ := h
    have hz : a < b → 0 ≤ (b - a - 1) / c ∧ (b - a - 1) / c ≤ b - a - 1 := fun q => ⟨Int.ediv_nonneg (by decreasing_trivial) (by decreasing_trivial), Int.ediv_le_self _ (by decreasing_trivial)⟩
    have hsz : Builtin.Range.rangeSize a b c = if a < b then (b - a - 1) / c + 1 else 0 := by
      unfold Builtin.Range.rangeSize
      rw [if_pos (show c > 0 by decreasing_trivial)]
    have hend : a < b → a + ((b - a - 1) / c) * c ≤ b - 1 := fun q => by
      have := Int.ediv_mul_le (b - a - 1) (show c ≠ 0 by decreasing_trivial)
      decreasing_trivial
    refine ⟨h5, h6, ?_, ?_, fun j hj => ?_⟩
    · unfold Builtin.Range.small
      rw [hsz]
      simp only [Builtin.Range.rangeFitsLong, Bool.and_eq_true, Bool.or_eq_true, decide_eq_true_eq, beq_iff_eq, show c > 0 by decreasing_trivial, if_true]
      by_cases q : a < b
      · have := hz q
        simp only [q, if_true]
        (repeat' apply And.intro) <;> decreasing_trivial
      · simp only [q, if_false]
        (repeat' apply And.intro) <;> decreasing_trivial
    · rw [hsz]
      simp only [List.length_map, List.length_range]
      split
      · rename_i q; have := hz q; decreasing_trivial
      · rfl
    · simp only [List.length_map, List.length_range] at hj; simp [hj]
  · cases e
theorem range_sound {xs : List AV} {vs : List Value} {Q : Value → Shared → Prop} (I : Inv cx m cv st μ H s.heap) (hr : VsRel μ xs vs) (p : PostG cx m cv st s μ ItR Q E (itRange xs H)) : wpAny W.M cx.A (call (.type "range") vs) Q E s := by
  obtain ⟨ns, q, pp1⟩ := p.opt
  obtain ⟨_, pp2⟩ := pp1.chk
  clear p pp1
  match xs, hr, q with
  | [x], hr, q =>
    obtain ⟨v, r, rfl, hv, hr⟩ := hr.head
    obtain rfl := hr.nil_inv
    obtain ⟨n, e, q⟩ := bind_some q
    obtain ⟨t, rfl⟩ := hv.i? e
    obtain ⟨f1, f2, f3⟩ := range_facts q
    exact call_range_1 (pp2 (.ref s.heap.objs.size) _ _ μ (pfx _) (I.push _) ⟨_, 0, n, 1, _, _, _, rfl, IsRange.new _ _ _ _ _ _ _, f1, f2, f3⟩)
  | [x, y], hr, q =>
    obtain ⟨v, r, rfl, hv, hr⟩ := hr.head
    obtain ⟨v2, r2, rfl, hv2, hr⟩ := hr.head
    obtain rfl := hr.nil_inv
    obtain ⟨a, e, q⟩ := bind_some q
    obtain ⟨b, e', q⟩ := bind_some q
    obtain ⟨t, rfl⟩ := hv.i? e
    obtain ⟨u, rfl⟩ := hv2.i? e'
    obtain ⟨f1, f2, f3⟩ := range_facts q
    exact call_range_2 (pp2 (.ref s.heap.objs.size) _ _ μ (pfx _) (I.push _) ⟨_, a, b, 1, _, _, _, rfl, IsRange.new _ _ _ _ _ _ _, f1, f2, f3⟩)
  | [x, y, z], hr, q =>
    obtain ⟨v, r, rfl, hv, hr⟩ := hr.head
    obtain ⟨v2, r2, rfl, hv2, hr⟩ := hr.head
    obtain ⟨v3, r3, rfl, hv3, hr⟩ := hr.head
    obtain rfl := hr.nil_inv
    obtain ⟨a, e, q⟩ := bind_some q
    obtain ⟨b, e', q⟩ := bind_some q
    obtain ⟨c, e2, q⟩ := bind_some q
    obtain ⟨t, rfl⟩ := hv.i? e
    obtain ⟨u, rfl⟩ := hv2.i? e'
    obtain ⟨o, rfl⟩ := hv3.i? e2
    obtain ⟨h1, h2, f1, f2, f3⟩ := step_facts q
    exact call_range_3 (by decreasing_trivial) (pp2 (.ref s.heap.objs.size) _ _ μ (pfx _) (I.push _) ⟨_, a, b, c, _, _, _, rfl, IsRange.new _ _ _ _ _ _ _, f1, f2, f3⟩) (Or.inl (PyProof.noPylong_small (by decreasing_trivial)))
  | [], _, q => cases q
  | _ :: _ :: _ :: _ :: _, _, q => cases q

theorem fits_some {n : Nat} {xs ys : List AV} (h : fits n xs = some ys) : xs = ys ∧ xs.length = n := by
  unfold fits at h
  split at h
  · cases h; exact ⟨rfl, by assumption⟩
  · cases h
theorem seq?_some {t : Bool} {o : AObj} {xs : List AV} (e : o.seq? t = some xs) : (t = false ∧ ∃ mt, o = .list mt xs) ∨ (t = true ∧ o = .tup xs) := by
  cases t with
  | false => exact .inl ⟨rfl, l?_some e⟩
  | true => cases o <;> cases e; exact .inr ⟨rfl, rfl⟩
/-- the items of what is walked -/
theorem Inv.all {t : Bool} {i n : Nat} {ad : Addr} {xs : List AV} (I : Inv cx m cv st μ H h) (ha : μ[i]? = some ad) (e : (It.seq t i n).all H = some xs) : xs.length = n ∧ ∃ vs k, VsRel μ xs vs ∧ ((t = false ∧ IsL h ad vs.toArray k) ∨ (t = true ∧ IsT h ad vs.toArray k)) := by
  obtain ⟨ys, q1, q2⟩ := bind_some e
  obtain ⟨rfl, hn⟩ := fits_some q2
  obtain ⟨o, q3, q4⟩ := bind_some q1
  rcases seq?_some q4 with ⟨rfl, mt, rfl⟩ | ⟨rfl, rfl⟩
  · obtain ⟨vs, k, hl, hr⟩ := I.isL q3 ha
    exact ⟨hn, vs, k, hr, .inl ⟨rfl, hl⟩⟩
  · obtain ⟨vs, k, hl, hr⟩ := I.isT q3 ha
    exact ⟨hn, vs, k, hr, .inr ⟨rfl, hl⟩⟩
theorem listOf_sound {it : It} {v : Value} {Q : Value → Shared → Prop} (hh : cx.A.handled = none) (I : Inv cx m cv st μ H s.heap) (hr : ItR μ s.heap it v) (p : PostG cx m cv st s μ RV Q E (listOfA it H)) : wpAny W.M cx.A (call (.type "list") [v]) Q E s := by
  obtain ⟨q2, p⟩ := p.chk
  obtain ⟨xs, q, p⟩ := p.opt
  obtain ⟨hs, p⟩ := p.chkD
  have fin : ∀ {h' : Heap} {tk : Nat} {vs : List Value} {c' : Nat}, (∀ b o, s.heap.get? b = some o → h'.get? b = some o) → IsL h' s.heap.objs.size vs.toArray c' → VsRel μ xs vs → Q (.ref s.heap.objs.size) { s with heap := h', toks := tk } := fun hk hn hr =>
    p (.ref s.heap.objs.size) _ _ (μ ++ [s.heap.objs.size]) (List.prefix_append _ _) (I.alloc hk (size_none _) ⟨_, _, hn, hr.mono (List.prefix_append _ _)⟩) (I.refNew _)
  cases it with
  | seq t i n =>
    obtain ⟨ad, ha, rfl⟩ := VRel.refInv hr
    obtain ⟨_, vs, n, hr, ⟨_, hl⟩ | ⟨_, hl⟩⟩ := I.all ha q
    · exact call_list_seq ad (.inl rfl) hl rfl rfl (fun h' c' hk hn => fin hk hn hr) (by rw [List.size_toArray, sizeLine_eq, ← hr.1]; exact hs)
    · exact call_list_seq ad (.inr rfl) hl rfl rfl (fun h' c' hk hn => fin hk hn hr) (by rw [List.size_toArray, sizeLine_eq, ← hr.1]; exact hs)
  | fix xs =>
    cases q
    obtain ⟨r, a, b, c, t, u, k, rfl, h1, h2, h3, h4⟩ := hr
    refine call_list_range hh h1 h2 h3 hs fun h' tk acc' c' hk hn hit => ?_
    refine fin (vs := acc'.toList) hk hn ⟨by rw [← hit.1]; rfl, fun j x v e1 e2 => ?_⟩
    have hj := (List.getElem?_eq_some_iff.mp e1).1
    rw [h4 j hj] at e1
    cases e1
    obtain ⟨t', rfl⟩ := hit.2 j v (by simpa using e2)
    exact .int _ _
  | txt x => cases q2
end
end Mine

/-! ## part C16 -/
namespace Mine
open PySem PySem.W PyProof.Rows

section
variable {W : Wd} {P : Pg} {Φ : Calls} {C : Addr} {d : Nat} {cx : Fx} {m : Str → Option Value} {cv st : List (Addr × Obj)} {μ : List Addr} {H : AH} {s : Shared} {E : Value → Shared → Prop}

/-- a call of a name that is a type or a built-in function -/
theorem callT {f : Str} {T : String} {args : List Expr} {fp pos : Pos} {Q : Value → Shared → Prop} (LK : Lk W P C) (ok : FxOk W d cx st) (I : Inv cx m cv st μ H s.heap) (hg : cx.c.global f = true) (hf : f ∈ biNames) (hb : bootBuiltins f = some (.type T)) (hn : f ≠ "__name__") (hst : args.any isStar = false)
    (h : wpAny W.M cx.A (spliced (backTo pos (starEach args cx.env))) (fun vs s' => wpAny W.M cx.A (call (.type T) vs) Q E s') E s) : wpAny W.M cx.A (eval (.Call (.Name f fp) args [] pos) cx.env) Q E s := by
  obtain ⟨g1, g2⟩ := global_of hg
  refine Call_ (name_boot ok I g1 g2 (LK.bi f hf) hb hn ?_)
  exact PyProof.Rows.callWith_type (noStar_any hst) (evalArgs_all hst h)
theorem callB {f : Str} {id : String} {args : List Expr} {fp pos : Pos} {Q : Value → Shared → Prop} (LK : Lk W P C) (ok : FxOk W d cx st) (I : Inv cx m cv st μ H s.heap) (hg : cx.c.global f = true) (hf : f ∈ biNames) (hb : bootBuiltins f = some (.builtin id)) (hn : f ≠ "__name__") (hst : args.any isStar = false)
    (h : wpAny W.M cx.A (spliced (backTo pos (starEach args cx.env))) (fun vs s' => wpAny W.M cx.A (call (.builtin id) vs) Q E s') E s) : wpAny W.M cx.A (eval (.Call (.Name f fp) args [] pos) cx.env) Q E s := by
  obtain ⟨g1, g2⟩ := global_of hg
  refine Call_ (name_boot ok I g1 g2 (LK.bi f hf) hb hn ?_)
  exact Calls.callWith_builtin (noStar_any hst) (evalArgs_all hst h)
/-- a call of a def or a class of the text's -/
theorem callR {f : Str} {a : Addr} {args : List Expr} {fp pos : Pos} {Q : Value → Shared → Prop} (ok : FxOk W d cx st) (I : Inv cx m cv st μ H s.heap) (hg : cx.c.global f = true) (hf : nsIn W.K mainGlobals f = some (some (.ref a))) (hk : keepIn W.K (.ref a) = true) (hst : args.any isStar = false)
    (h : wpAny W.M cx.A (spliced (backTo pos (starEach args cx.env))) (fun vs s' => W.K.In s'.heap ∧ wpAny W.M cx.A (call (.ref a) vs) Q E s') E s) : wpAny W.M cx.A (eval (.Call (.Name f fp) args [] pos) cx.env) Q E s := by
  obtain ⟨g1, g2⟩ := global_of hg
  refine Call_ (name_glob ok I g1 g2 hf ?_)
  exact callWith_of (P := W.K.In) (by rw [noStar_any hst]; rfl) (keeps_K hk) (evalArgs_all hst h)

theorem biOf_facts {f : Str} {b : Bi} (h : biOf f = some b) : f ∈ biNames ∧ bootBuiltins f = some (biVal b) ∧ f ≠ "__name__" := by
  unfold biOf at h
  split at h
  · rename_i z; cases h; rw [beq_iff_eq.mp z]; exact ⟨.head _, Boot.«len», by decide⟩
  · split at h
    · rename_i z; cases h; rw [beq_iff_eq.mp z]; exact ⟨.tail _ (.head _), Boot.«min», by decide⟩
    · split at h
      · rename_i z; cases h; rw [beq_iff_eq.mp z]; exact ⟨.tail _ (.tail _ (.head _)), Boot.«max», by decide⟩
      · split at h
        · rename_i z; cases h; rw [beq_iff_eq.mp z]; exact ⟨List.mem_of_getElem? (i := 8) rfl, Boot.«sum», by decide⟩
        · split at h
          · rename_i z; cases h; rw [beq_iff_eq.mp z]; exact ⟨List.mem_of_getElem? (i := 10) rfl, Boot.«sorted», by decide⟩
          · split at h
            · rename_i z; cases h; rw [beq_iff_eq.mp z]; exact ⟨List.mem_of_getElem? (i := 11) rfl, Boot.«abs», by decide⟩
            · cases h
theorem nameIn_some {e : Expr} {x : Str} (h : nameIn e = some x) : ∃ p, e = .Name x p := by
  cases e with
  | Name y p => cases h; exact ⟨p, rfl⟩
  | _ => cases h
theorem tyOf_facts {c : Cx} {t : Expr} {ty : Ty} (h : tyOf c t = some ty) : ∃ nm tp, t = .Name nm tp ∧ c.global nm = true ∧ nm ∈ biNames ∧ bootBuiltins nm = some (.type (tyVal ty)) ∧ nm ≠ "__name__" := by
  obtain ⟨nm, e, h'⟩ := bind_some h
  clear h
  obtain ⟨tp, rfl⟩ := nameIn_some e
  revert h'; intro h
  refine ⟨nm, tp, rfl, ?_⟩
  split at h
  · rename_i hg
    refine ⟨hg, ?_⟩
    unfold tyNm at h
    split at h
    · rename_i z; cases h; rw [beq_iff_eq.mp z]; exact ⟨.tail _ (.tail _ (.tail _ (.head _))), Boot.«int», by decide⟩
    · split at h
      · rename_i z; cases h; rw [beq_iff_eq.mp z]; exact ⟨.tail _ (.tail _ (.tail _ (.tail _ (.tail _ (.tail _ (.tail _ (.head _))))))), Boot.«bool», by decide⟩
      · split at h
        · rename_i z; cases h; rw [beq_iff_eq.mp z]; exact ⟨.tail _ (.tail _ (.tail _ (.tail _ (.head _)))), Boot.«list», by decide⟩
        · split at h
          · rename_i z; cases h; rw [beq_iff_eq.mp z]; exact ⟨List.mem_of_getElem? (i := 9) rfl, Boot.«str», by decide⟩
          · split at h
            · rename_i z; cases h; rw [beq_iff_eq.mp z]; exact ⟨List.mem_of_getElem? (i := 12) rfl, Boot.«tuple», by decide⟩
            · cases h
  · cases h

theorem isi_case {f : Str} {fp pos : Pos} {args : List Expr} {ρ : Rho} {μ₀ : List Addr} {Q : Value → Shared → Prop} (LK : Lk W P C) (hs : S3s W P Φ C d args) (T : St W C d cx m cv st ρ μ₀) (hg : cx.c.global f = true) (hst : args.any isStar = false) (hf : f = "isinstance") (hp : μ₀ <+: μ) (I : Inv cx m cv st μ H s.heap)
    (p : PostG cx m cv st s μ RV Q E (ev P Φ (isiOf cx.c args (cEs args cx.c)) ρ H)) : wpAny W.M cx.A (eval (.Call (.Name f fp) args [] pos) cx.env) Q E s := by
  cases args with
  | nil => exact p.elim
  | cons a r =>
    obtain ⟨t, ht, pp1⟩ := p.orE
    obtain ⟨ty, hty, pp2⟩ := pp1.orE
    obtain rfl := one1_some ht
    subst hf
    have h2 := Bool.or_eq_false_iff.mp hst
    refine callB LK T.ok I hg (.tail _ (.tail _ (.tail _ (.tail _ (.tail _ (.tail _ (.head _))))))) Boot.«isinstance» (by decide) hst ?_
    refine args_cons (((hs a (.head _)).E cx m cv st ρ μ₀ T).next hp I pp2 fun x va h₁ tk₁ μ₁ H₁ hp₁ I₁ r₁ p₁ => ?_) (starEach_cons h2.1)
    obtain ⟨nm, tp, rfl, e2, e3, e4, e5⟩ := tyOf_facts hty
    obtain ⟨g1, g2⟩ := global_of e2
    refine args_cons (name_boot T.ok I₁ g1 g2 (LK.bi nm e3) e4 e5 (args_nil ?_)) (starEach_cons rfl)
    exact isi_sound I₁ r₁ p₁
theorem list_case {f : Str} {fp pos : Pos} {args : List Expr} {ρ : Rho} {μ₀ : List Addr} {Q : Value → Shared → Prop} (LK : Lk W P C) (hs : S3s W P Φ C d args) (T : St W C d cx m cv st ρ μ₀) (hg : cx.c.global f = true) (hst : args.any isStar = false) (hf : f = "list") (hp : μ₀ <+: μ) (I : Inv cx m cv st μ H s.heap)
    (p : PostG cx m cv st s μ RV Q E (ev P Φ (orBad (one1 (cEs args cx.c)) fun e => .listOf (mkI e)) ρ H)) : wpAny W.M cx.A (eval (.Call (.Name f fp) args [] pos) cx.env) Q E s := by
  obtain ⟨e', he, pp1⟩ := p.orE
  obtain ⟨a, rfl, rfl⟩ := cEs_one he
  subst hf
  have h2 := Bool.or_eq_false_iff.mp hst
  refine callT LK T.ok I hg (.tail _ (.tail _ (.tail _ (.tail _ (.head _))))) Boot.«list» (by decide) hst ?_
  refine args_cons (((hs a (.head _)).I cx m cv st ρ μ₀ T).next hp I pp1 fun x va h₁ tk₁ μ₁ H₁ hp₁ I₁ r₁ p₁ => ?_) (starEach_cons h2.1)
  exact args_nil (listOf_sound T.hh I₁ r₁ p₁)
theorem int_case {f : Str} {fp pos : Pos} {args : List Expr} {ρ : Rho} {μ₀ : List Addr} {Q : Value → Shared → Prop} (LK : Lk W P C) (hs : S3s W P Φ C d args) (T : St W C d cx m cv st ρ μ₀) (hg : cx.c.global f = true) (hst : args.any isStar = false) (hf : f = "int") (hp : μ₀ <+: μ) (I : Inv cx m cv st μ H s.heap)
    (p : PostG cx m cv st s μ RV Q E (ev P Φ (orBad (one1 (cEs args cx.c)) .toInt) ρ H)) : wpAny W.M cx.A (eval (.Call (.Name f fp) args [] pos) cx.env) Q E s := by
  obtain ⟨e', he, pp1⟩ := p.orE
  obtain ⟨a, rfl, rfl⟩ := cEs_one he
  subst hf
  have h2 := Bool.or_eq_false_iff.mp hst
  refine callT LK T.ok I hg (.tail _ (.tail _ (.tail _ (.head _)))) Boot.«int» (by decide) hst ?_
  refine args_cons (((hs a (.head _)).E cx m cv st ρ μ₀ T).next hp I pp1 fun x va h₁ tk₁ μ₁ H₁ hp₁ I₁ r₁ p₁ => ?_) (starEach_cons h2.1)
  refine args_nil ?_
  rcases p₁.orS with ⟨z, rfl, p₁⟩ | ⟨_, p₁⟩
  · obtain ⟨hl, p₁⟩ := p₁.chkD
    obtain ⟨n, hn, p₁⟩ := p₁.opt
    obtain ⟨t, rfl⟩ := VRel.s? r₁ rfl
    exact PySem.W.KIN.call_text hn hl (p₁ (.int _ _) h₁ _ μ₁ (pfx _) I₁ (.int _ _))
  obtain ⟨b, e, p₁⟩ := p₁.opt
  have r₁ : VRel μ₁ x va := r₁
  cases r₁ with
  | bool b => cases e; exact call_int_bool (p₁ (.int _ _) _ _ μ₁ (pfx _) I₁ (.int _ _))
  | none => cases e
  | int _ _ => cases e
  | ref _ => cases e
  | str _ _ => cases e
theorem str_case {f : Str} {fp pos : Pos} {args : List Expr} {ρ : Rho} {μ₀ : List Addr} {Q : Value → Shared → Prop} (LK : Lk W P C) (hs : S3s W P Φ C d args) (T : St W C d cx m cv st ρ μ₀) (hg : cx.c.global f = true) (hst : args.any isStar = false) (hf : f = "str") (hp : μ₀ <+: μ) (I : Inv cx m cv st μ H s.heap)
    (p : PostG cx m cv st s μ RV Q E (ev P Φ (orBad (one1 (cEs args cx.c)) .str_) ρ H)) : wpAny W.M cx.A (eval (.Call (.Name f fp) args [] pos) cx.env) Q E s := by
  obtain ⟨e', he, pp1⟩ := p.orE
  obtain ⟨a, rfl, rfl⟩ := cEs_one he
  subst hf
  have h2 := Bool.or_eq_false_iff.mp hst
  refine callT LK T.ok I hg (List.mem_of_getElem? (i := 9) rfl) Boot.«str» (by decide) hst ?_
  refine args_cons (((hs a (.head _)).E cx m cv st ρ μ₀ T).next hp I pp1 fun x va h₁ tk₁ μ₁ H₁ hp₁ I₁ r₁ p₁ => ?_) (starEach_cons h2.1)
  refine args_nil ?_
  obtain ⟨n, e, p₁⟩ := p₁.opt
  obtain ⟨hl, p₁⟩ := p₁.chkD
  obtain ⟨t, rfl⟩ := VRel.i? r₁ e
  exact PySem.P.str_of_int hl (p₁ (.str _ _) h₁ _ μ₁ (pfx _) I₁ (.str _ _))
theorem tup_case {f : Str} {fp pos : Pos} {args : List Expr} {ρ : Rho} {μ₀ : List Addr} {Q : Value → Shared → Prop} (LK : Lk W P C) (hs : S3s W P Φ C d args) (T : St W C d cx m cv st ρ μ₀) (hg : cx.c.global f = true) (hst : args.any isStar = false) (hf : f = "tuple") (hp : μ₀ <+: μ) (I : Inv cx m cv st μ H s.heap)
    (p : PostG cx m cv st s μ RV Q E (ev P Φ (orBad (one1 (cEs args cx.c)) .tupOf) ρ H)) : wpAny W.M cx.A (eval (.Call (.Name f fp) args [] pos) cx.env) Q E s := by
  obtain ⟨e', he, pp1⟩ := p.orE
  obtain ⟨a, rfl, rfl⟩ := cEs_one he
  subst hf
  have h2 := Bool.or_eq_false_iff.mp hst
  refine callT LK T.ok I hg (List.mem_of_getElem? (i := 12) rfl) Boot.«tuple» (by decide) hst ?_
  refine args_cons (((hs a (.head _)).E cx m cv st ρ μ₀ T).next hp I pp1 fun x va h₁ tk₁ μ₁ H₁ hp₁ I₁ r₁ p₁ => ?_) (starEach_cons h2.1)
  refine args_nil ?_
  obtain ⟨xs, e, p₁⟩ := p₁.opt
  obtain ⟨hl, p₁⟩ := p₁.chkD
  obtain ⟨_, _, _, vs, n, _, rfl, _, _, hv, hr⟩ := I₁.lst r₁ e
  refine call_tuple_list hv.isList (fun h' hk => ?_) (by rw [List.size_toArray, sizeLine_eq, ← hr.1]; exact hl)
  exact p₁ (.ref h'.objs.size) _ tk₁ (μ₁ ++ [h'.objs.size]) (List.prefix_append _ _) ((I₁.keeps hk).newTup hr) ((I₁.keeps hk).refNew _)
theorem own_case {f : Str} {fp pos : Pos} {args : List Expr} {ρ : Rho} {μ₀ : List Addr} {Q : Value → Shared → Prop} (LK : Lk W P C) (hΦ : CallsOk W P C d Φ) (hs : S3s W P Φ C d args) (T : St W C d cx m cv st ρ μ₀) (hg : cx.c.global f = true) (hst : args.any isStar = false) (hp : μ₀ <+: μ) (I : Inv cx m cv st μ H s.heap)
    (p : PostG cx m cv st s μ RV Q E (ev P Φ (.call f (cEs args cx.c)) ρ H)) : wpAny W.M cx.A (eval (.Call (.Name f fp) args [] pos) cx.env) Q E s := by
  obtain ⟨hk, p⟩ := PostG.chk p
  obtain ⟨dd, hd⟩ := Option.isSome_iff_exists.mp hk
  obtain ⟨a, oc, od, osl, name, qual, params, body, scope, doc, pm, cdv, ct, an, f1, f2, f3, f4, _⟩ := LK.fn f dd hd
  refine callR T.ok I hg f1 f4 hst ?_
  refine (args_Ss hs).next T hst hp I p fun x b h₁ tk₁ μ₁ H₁ hp₁ I₁ r₁ hlen p₁ => ?_
  exact ⟨T.ok.X.keeps I₁.fr.keep, hΦ f a hk f1 cx m cv st μ₁ H₁ _ x b Q E T.c T.ok T.hh I₁ r₁ p₁⟩

theorem callOf_of {c : Cx} {args : List Expr} {f : Str} (h : (c.global f && !(args.any isStar) && decide (args.length ≤ 30)) = true) : c.global f = true ∧ args.any isStar = false := by
  have h := Bool.and_eq_true_iff.mp (Bool.and_eq_true_iff.mp h).1
  exact ⟨h.1, notT h.2⟩
theorem mkCall_rng {f : Str} {args : List Expr} {c : Cx} {es : List ME} (h : f ≠ "range") : (mkCall f args c es).rng? = none := by
  unfold mkCall
  split
  · unfold isiOf
    cases args with
    | nil => rfl
    | cons _ r => exact orBad_rng fun _ => orBad_rng fun _ => by cases es <;> rfl
  · split
    · rename_i z; exact absurd (beq_iff_eq.mp z) h
    · split
      · exact orBad_rng fun _ => rfl
      · split
        · exact orBad_rng fun _ => rfl
        · split
          · exact orBad_rng fun _ => rfl
          · split
            · exact orBad_rng fun _ => rfl
            · cases biOf f <;> rfl
theorem call_S3 {f : Str} {fp pos : Pos} {args : List Expr} {kws : List Keyword} (LK : Lk W P C) (hΦ : CallsOk W P C d Φ) (hB : BookOk W C d) (hs : S3s W P Φ C d args) : S3 W P Φ C d (.Call (.Name f fp) args kws pos) := by
  have hE : SE W P Φ C d (.Call (.Name f fp) args kws pos) := fun cx m cv st ρ μ₀ T μ H s Q E hp I p => by
    obtain ⟨hk0, pp1⟩ := p.butE
    obtain ⟨hc, pp2⟩ := pp1.butE
    clear p pp1
    revert pp2; intro p
    obtain rfl := List.isEmpty_iff.mp hk0
    obtain ⟨hg, hst⟩ := callOf_of hc
    unfold mkCall at p
    split at p
    · rename_i z; exact isi_case LK hs T hg hst (beq_iff_eq.mp z) hp I p
    · split at p
      · exact p.elim
      · split at p
        · rename_i z; exact list_case LK hs T hg hst (beq_iff_eq.mp z) hp I p
        · split at p
          · rename_i z; exact int_case LK hs T hg hst (beq_iff_eq.mp z) hp I p
          · split at p
            · rename_i z; exact str_case LK hs T hg hst (beq_iff_eq.mp z) hp I p
            · split at p
              · rename_i z; exact tup_case LK hs T hg hst (beq_iff_eq.mp z) hp I p
              cases hbi : biOf f with
              | some bi =>
                rw [hbi] at p
                obtain ⟨e2, e3, e4⟩ := biOf_facts hbi
                exact callB LK T.ok I hg e2 e3 e4 hst ((args_Ss hs).next T hst hp I p fun a b h₁ tk₁ μ₁ H₁ hp₁ I₁ r₁ hlen p₁ => bi_sound T.hh I₁ r₁ p₁)
              | none =>
                rw [hbi] at p
                exact own_case LK hΦ hs T hg hst hp I p
  by_cases hr : f = "range"
  · subst hr
    refine ⟨hE, fun cx m cv st ρ μ₀ T μ H s Q E hp I p => ?_, fun cx m cv st ρ μ₀ T μ H s Q E hp I p => ?_⟩
    · obtain ⟨_, p⟩ := PostG.butBad p
      obtain ⟨_, p⟩ := PostG.butBad p
      exact p.elim
    · replace p : PostG cx m cv st s μ ItR Q E (evI P Φ (mkI (butBad kws.isEmpty (butBad (cx.c.global "range" && !(args.any isStar) && decide (args.length ≤ 30)) (.rng (cEs args cx.c))))) ρ H) := p
      cases hk0 : kws.isEmpty with
      | false => rw [hk0] at p; exact p.elim
      | true =>
        rw [hk0] at p
        cases hc : (cx.c.global "range" && !(args.any isStar) && decide (args.length ≤ 30)) with
        | false => rw [hc] at p; exact p.elim
        | true =>
          rw [hc] at p
          have hkw := List.isEmpty_iff.mp hk0
          subst hkw
          obtain ⟨hg, hst⟩ := callOf_of hc
          refine callT LK T.ok I hg (.tail _ (.tail _ (.tail _ (.tail _ (.tail _ (.head _)))))) Boot.«range» (by decide) hst ?_
          exact (args_Ss hs).next T hst hp I p fun x b h₁ tk₁ μ₁ H₁ hp₁ I₁ r₁ hlen p₁ => range_sound I₁ r₁ p₁
  · exact .of hE (fun _ _ => rfl) fun c => butBad_rng (butBad_rng (mkCall_rng hr))
end
end Mine

/-! ## part C17 -/
namespace Mine
open PySem PySem.W PyProof.Rows

section
variable {cx : Fx} {m : Str → Option Value} {cv st : List (Addr × Obj)} {μ : List Addr} {H : AH} {h h' : Heap} {z : Addr} {o o' : Obj}

/-- a new object that the frame's own machinery holds -/
theorem Inv.addSt (I : Inv cx m cv st μ H h) (hk : ∀ b q, h.get? b = some q → h'.get? b = some q) (hz : h.get? z = none) (ho : h'.get? z = some o) : Inv cx m cv ((z, o) :: st) μ H h' := by
  have J := I.keeps hk
  obtain ⟨n1, n2, n3, n4, n5⟩ := I.new hz
  refine { fr := J.fr, cvN := J.cvN, stN := fun p hp => ?_, cm := I.cm, sm := fun p hp => ?_, cs := fun p hp q hq => ?_, cc := I.cc, nd := I.nd, len := I.len, obj := fun i q b e1 e2 => ?_, mtb := I.mtb, muL := I.muL, avm := I.avm, avh := I.avh }
  · rcases List.mem_cons.mp hp with rfl | hp
    · exact ⟨ho, n2, n3⟩
    · exact J.stN p hp
  · rcases List.mem_cons.mp hp with rfl | hp
    · exact n1
    · exact I.sm p hp
  · rcases List.mem_cons.mp hq with rfl | hq
    · exact n4 p hp
    · exact I.cs p hp q hq
  · have O := I.obj i q b e1 e2
    have O' := J.obj i q b e1 e2
    cases q with
    | list mt xs => exact O'
    | tup xs => exact O'
    | book p q r =>
      obtain ⟨dx, h1, h2, h3, t1, t2, t3, vx, vy, vz, n, e, e', r1, r2, r3, r4, r5⟩ := O
      refine ⟨dx, h1, h2, h3, t1, t2, t3, vx, vy, vz, n, hk _ _ e, hk _ _ e', r1, r2, r3, r4, fun w => ?_⟩
      simp only [List.map_cons, List.mem_cons] at w
      rcases w with rfl | w
      · rw [hz] at e'; cases e'
      · exact r5 w
/-- fewer, or in another order -/
theorem Inv.lessSt {st' : List (Addr × Obj)} (I : Inv cx m cv st μ H h) (hs : ∀ p ∈ st', p ∈ st) : Inv cx m cv st' μ H h where
  fr := I.fr
  cvN := I.cvN
  stN := fun p hp => I.stN p (hs p hp)
  cm := I.cm
  sm := fun p hp => I.sm p (hs p hp)
  cs := fun p hp q hq => I.cs p hp q (hs q hq)
  cc := I.cc
  nd := I.nd
  len := I.len
  obj := fun i q b e1 e2 => (I.obj i q b e1 e2).turn (fun _ h => .inl h) (fun p hp => .inl (hs p hp))
  mtb := I.mtb
  muL := I.muL
  avm := I.avm
  avh := I.avh
/-- one of them turns -/
theorem Inv.setSt (I : Inv cx m cv ((z, o) :: st) μ H h) (hs : ∀ b q, b ≠ z → h.get? b = some q → h'.get? b = some q) (ho : h'.get? z = some o') (hd : ∀ p ∈ st, p.1 ≠ z) : Inv cx m cv ((z, o') :: st) μ H h' := by
  have N := I.stN _ (.head _)
  obtain ⟨oL, es, ep, hL, r⟩ := I.fr.ns
  refine { fr := ⟨⟨oL, es, ep, hs _ _ (Ne.symm N.2.1) hL, r⟩, fun b q e => hs _ _ (fun w => ?_) (I.fr.keep b q e), I.fr.above⟩, cvN := fun p hp => ⟨hs _ _ (I.cs p hp _ (.head _)) (I.cvN p hp).1, (I.cvN p hp).2⟩, stN := fun p hp => ?_, cm := I.cm, sm := fun p hp => ?_, cs := fun p hp q hq => ?_, cc := I.cc, nd := I.nd, len := I.len, obj := fun i q b e1 e2 => ?_, mtb := I.mtb, muL := I.muL, avm := I.avm, avh := I.avh }
  · have := N.2.2; rw [← w, e] at this; cases this
  · rcases List.mem_cons.mp hp with rfl | hp
    · exact ⟨ho, N.2⟩
    · exact ⟨hs _ _ (hd p hp) (I.stN p (.tail _ hp)).1, (I.stN p (.tail _ hp)).2⟩
  · rcases List.mem_cons.mp hp with rfl | hp
    · exact fun q => I.sm (z, o) (.head _) q
    · exact I.sm p (.tail _ hp)
  · rcases List.mem_cons.mp hq with rfl | hq
    · exact I.cs p hp (z, o) (.head _)
    · exact I.cs p hp q (.tail _ hq)
  · have O := (I.obj i q b e1 e2).but hs (fun w => I.sm _ (.head _) (w ▸ List.mem_of_getElem? e2)) (.inr (.inl (by simp)))
    cases q with
    | list mt xs => exact O
    | tup xs => exact O
    | book p q r =>
      obtain ⟨dx, h1, h2, h3, t1, t2, t3, vx, vy, vz, n, e, e', r1, r2, r3, r4, r5⟩ := O
      exact ⟨dx, h1, h2, h3, t1, t2, t3, vx, vy, vz, n, e, e', r1, r2, r3, r4, by simpa using r5⟩
/-- one of them goes, or turns as it will -/
theorem Inv.goneSt (I : Inv cx m cv ((z, o) :: st) μ H h) (hs : ∀ b q, b ≠ z → h.get? b = some q → h'.get? b = some q) (hd : ∀ p ∈ st, p.1 ≠ z) : Inv cx m cv st μ H h' := by
  have N := I.stN _ (.head _)
  have I' : Inv cx m cv st μ H h := I.lessSt fun p hp => .tail _ hp
  obtain ⟨oL, es, ep, hL, r⟩ := I'.fr.ns
  refine { fr := ⟨⟨oL, es, ep, hs _ _ (Ne.symm N.2.1) hL, r⟩, fun b q e => hs _ _ (fun w => ?_) (I'.fr.keep b q e), I'.fr.above⟩, cvN := fun p hp => ⟨hs _ _ (I.cs p hp _ (.head _)) (I'.cvN p hp).1, (I'.cvN p hp).2⟩, stN := fun p hp => ⟨hs _ _ (hd p hp) (I'.stN p hp).1, (I'.stN p hp).2⟩, cm := I'.cm, sm := I'.sm, cs := I'.cs, cc := I'.cc, nd := I'.nd, len := I'.len, obj := fun i q b e1 e2 => ?_, mtb := I'.mtb, muL := I'.muL, avm := I'.avm, avh := I'.avh }
  · have := N.2.2; rw [← w, e] at this; cases this
  · have O := (I.obj i q b e1 e2).but hs (fun w => I.sm _ (.head _) (w ▸ List.mem_of_getElem? e2)) (.inr (.inl (by simp)))
    exact O.turn (fun _ h => .inl h) fun p hp => .inl (.tail _ hp)

end

/-- the iterator's own object, k items taken -/
noncomputable def ItO (μ : List Addr) (o : Obj) (it : It) (k : Nat) : Prop := match it with
  | .seq t i _ => ∃ a, μ[i]? = some a ∧ o.cls = .type (if t then "tuple_iterator" else "list_iterator") ∧ o.data = .fields #[.ref a, .int k 0]
  | .fix xs => ∃ a c : Int, o = { cls := .type "range_iterator", dict := none, data := .fields #[rawInt (a + k * c), rawInt ((xs.length : Int) - k), rawInt c], slots := #[] } ∧ ∀ j, j < xs.length → xs[j]? = some (.int (a + j * c))
  | .txt x => x.cps.all (· < 128) = true ∧ ∃ t, o.cls = .type "str_ascii_iterator" ∧ o.data = .fields #[.str x t, .int k 0]
theorem ItO.mono {μ μ' : List Addr} {o : Obj} {it : It} {k : Nat} (h : ItO μ o it k) (hp : μ <+: μ') : ItO μ' o it k := by
  cases it with
  | seq t i n => obtain ⟨a, e, r⟩ := h; exact ⟨a, pre_get hp e, r⟩
  | fix xs => exact h
  | txt x => exact h

section
variable {W : Wd} {cx : Fx} {m : Str → Option Value} {cv st : List (Addr × Obj)} {μ : List Addr} {H : AH} {s : Shared} {E : Value → Shared → Prop}

theorem iter_sound {it : It} {v : Value} {ys : List AV} {Q : Value → Shared → Prop} (I : Inv cx m cv st μ H s.heap) (hr : ItR μ s.heap it v) (he : it.all H = some ys)
    (f : ∀ J o h₁, ItO μ o it 0 → Inv cx m cv ((J, o) :: st) μ H h₁ → (∀ p ∈ st, p.1 ≠ J) → J < h₁.objs.size → Q (.ref J) { s with heap := h₁ }) : wpAny W.M cx.A (pyIter v) Q E s := by
  have go : ∀ o : Obj, o.isFreed = false → ItO μ o it 0 → Q (.ref s.heap.objs.size) { s with heap := s.heap.push o } := fun o ho hi =>
    f _ o _ hi (I.addSt (fun _ _ e => Heap.get?_push_of_some _ e) (size_none _) (Heap.get?_push_size _ ho)) (fun p hp => (I.new (size_none s.heap)).2.2.2.2 p hp) (by rw [Heap.size_push]; exact Nat.lt_succ_self _)
  cases it with
  | seq t i n =>
    obtain ⟨ad, ha, rfl⟩ := VRel.refInv hr
    obtain ⟨_, vs, k, _, ⟨rfl, hl⟩ | ⟨rfl, hl⟩⟩ := I.all ha he
    · exact wpAny_pyIter_list hl.isList (go _ rfl ⟨ad, ha, rfl, rfl⟩)
    · exact wpAny_pyIter_tuple ⟨_, hl, rfl, _, rfl⟩ (go _ rfl ⟨ad, ha, rfl, rfl⟩)
  | fix xs =>
    obtain ⟨r, a, b, c, t, u, k, rfl, h1, h2, h3, h4⟩ := hr
    refine wpAny_pyIter_range h1 h2 (go _ rfl ⟨a, c, ?_, h4⟩)
    rw [h3]; simp
  | txt x =>
    obtain ⟨⟨t, rfl⟩, ha⟩ := hr
    exact wpAny_pyIter_ascii ha (go _ rfl ⟨ha, t, rfl, rfl⟩)

theorem next_item {it : It} {k : Nat} {x : AV} {J : Addr} {o : Obj} {Q : Option Value → Shared → Prop} (I : Inv cx m cv ((J, o) :: st) μ H s.heap) (hd : ∀ p ∈ st, p.1 ≠ J) (hi : ItO μ o it k) (e : (it.all H).bind (·[k]?) = some x)
    (f : ∀ v o' h₁ tk₁, ItO μ o' it (k + 1) → Inv cx m cv ((J, o') :: st) μ H h₁ → VRel μ x v → Q (some v) { s with heap := h₁, toks := tk₁ }) : wpAny W.M cx.A (pyNext (.ref J)) Q E s := by
  have hJ : s.heap.get? J = some o := (I.stN _ (.head _)).1
  obtain ⟨ys, e1, e2⟩ := bind_some e
  clear e
  revert e2; intro e
  cases it with
  | seq t i n =>
    obtain ⟨ad, ha, hc, hdat⟩ := hi
    obtain ⟨_, vs, n', hr, ⟨rfl, hl⟩ | ⟨rfl, hl⟩⟩ := I.all ha e1
    · obtain ⟨v, hv, rv⟩ := hr.get e
      refine wpAny_pyNext_list_item (x := v) ⟨o, hJ, hc, hdat⟩ hl.isList (by simpa using hv) fun h₁ hit hs => ?_
      obtain ⟨o', ho', hc', hd'⟩ := hit
      exact f v o' h₁ s.toks ⟨ad, ha, hc', hd'⟩ (I.setSt (fun b q hb e => (hs.2 b hb).trans e) ho' hd) rv
    · obtain ⟨v, hv, rv⟩ := hr.get e
      refine wpAny_pyNext_tuple_item (x := v) ⟨o, hJ, hc, hdat⟩ ⟨_, hl, rfl, _, rfl⟩ (by simpa using hv) fun h₁ hit hs => ?_
      obtain ⟨o', ho', hc', hd'⟩ := hit
      exact f v o' h₁ s.toks ⟨ad, ha, hc', hd'⟩ (I.setSt (fun b q hb e => (hs.2 b hb).trans e) ho' hd) rv
  | fix xs =>
    have e1 := Option.some.inj e1
    subst e1
    obtain ⟨a, c, rfl, h4⟩ := hi
    have hk := (List.getElem?_eq_some_iff.mp e).1
    rw [h4 k hk] at e
    cases e
    refine wpAny_pyNext_range_item hJ (by decreasing_trivial) fun h₁ hit hs => ?_
    refine f _ _ h₁ (s.toks + 1) ⟨a, c, ?_, h4⟩ (I.setSt (fun b q hb e => (hs.2 b hb).trans e) hit hd) (.int _ _)
    have e1 : a + (k : Int) * c + c = a + ((k + 1 : Nat) : Int) * c := by rw [Int.natCast_succ, Int.add_mul, Int.one_mul, Int.add_assoc]
    have e2 : (xs.length : Int) - k - 1 = (xs.length : Int) - ((k + 1 : Nat) : Int) := by decreasing_trivial
    rw [e1, e2]
  | txt z =>
    have e1 := Option.some.inj e1
    subst e1
    obtain ⟨ha, t, hc, hdat⟩ := hi
    obtain ⟨c, hc1, rfl⟩ : ∃ c, z.cps[k]? = some c ∧ x = .str ⟨#[c]⟩ := by
      have e : (sgs z)[k]? = some x := e
      unfold sgs at e
      rw [List.getElem?_map] at e
      obtain ⟨c, hc, rfl⟩ := Option.map_eq_some_iff.mp e
      exact ⟨c, by simpa using hc, rfl⟩
    refine wpAny_pyNext_ascii_item ⟨o, hJ, hc, hdat⟩ hc1 fun h₁ hit hs => ?_
    obtain ⟨o', ho', hc', hd'⟩ := hit
    exact f _ o' h₁ (s.toks + 1) ⟨ha, t, hc', hd'⟩ (I.setSt (fun b q hb e => (hs.2 b hb).trans e) ho' hd) (.str _ _)

theorem next_end {it : It} {J : Addr} {o : Obj} {ys : List AV} {Q : Option Value → Shared → Prop} (hh : cx.A.handled = none) (I : Inv cx m cv ((J, o) :: st) μ H s.heap) (hd : ∀ p ∈ st, p.1 ≠ J) (hi : ItO μ o it it.len) (e : it.all H = some ys)
    (f : ∀ h₁, Inv cx m cv st μ H h₁ → Q none { s with heap := h₁ }) : wpAny W.M cx.A (pyNext (.ref J)) Q E s := by
  have hJ : s.heap.get? J = some o := (I.stN _ (.head _)).1
  have fin : ∀ h₁, Heap.ExtBut J s.heap h₁ → Q none { s with heap := h₁ } := fun h₁ he => f h₁ (I.goneSt he hd)
  cases it with
  | seq t i n =>
    obtain ⟨ad, ha, hc, hdat⟩ := hi
    obtain ⟨hn, vs, n', hr, ⟨rfl, hl⟩ | ⟨rfl, hl⟩⟩ := I.all ha e
    · exact wpAny_pyNext_list_end hh ⟨o, hJ, hc, hdat⟩ hl.isList (by rw [List.getElem?_toArray, List.getElem?_eq_none]; rw [← hr.1, hn]; exact Nat.le_refl _) fin
    · exact wpAny_pyNext_tuple_end hh ⟨o, hJ, hc, hdat⟩ ⟨_, hl, rfl, _, rfl⟩ (by rw [List.getElem?_toArray, List.getElem?_eq_none]; rw [← hr.1, hn]; exact Nat.le_refl _) fin
  | fix xs =>
    obtain ⟨a, c, rfl, h4⟩ := hi
    exact wpAny_pyNext_range_end hh hJ (by show (xs.length : Int) - (xs.length : Int) ≤ 0; decreasing_trivial) fin
  | txt z =>
    obtain ⟨ha, t, hc, hdat⟩ := hi
    exact wpAny_pyNext_ascii_end hh ⟨o, hJ, hc, hdat⟩ (Array.getElem?_eq_none (Nat.le_refl _)) fin
end
end Mine

/-! ## part C18 -/
namespace Mine
open PySem PySem.W PyProof.Rows

section
variable {cx : Fx} {m : Str → Option Value} {cv st : List (Addr × Obj)} {μ : List Addr} {H : AH} {h h' : Heap} {z : Addr} {o o' : Obj}

/-- one of them comes onto the abstract heap -/
theorem Inv.lift {q : AObj} (I : Inv cx m cv ((z, o) :: st) μ H h) (hd : ∀ p ∈ st, p.1 ≠ z) (ho : ObjAt cx.C (cx.L :: cx.av) st h (μ ++ [z]) z q) : Inv cx m cv st (μ ++ [z]) (H ++ [q]) h :=
  (I.lessSt fun p hp => .tail _ hp).adopt (I.sm _ (.head _)) (I.stN _ (.head _)).2.1 (I.stN _ (.head _)).2.2 (fun p hp => I.cs p hp _ (.head _)) hd ho

/-- another reading of the same frame -/
theorem Inv.re {cx' : Fx} (I : Inv cx m cv st μ H h) (hL : cx'.L = cx.L := by rfl) (h0 : cx'.h₀ = cx.h₀ := by rfl) (hC : cx'.C = cx.C := by rfl) (hA : cx'.av = cx.av := by rfl) : Inv cx' m cv st μ H h := by
  refine { fr := by rw [hL, h0]; exact I.fr, cvN := by rw [hL, h0]; exact I.cvN, stN := by rw [hL, h0]; exact I.stN, cm := I.cm, sm := I.sm, cs := I.cs, cc := I.cc, nd := I.nd, len := I.len, obj := by rw [hL, hC, hA]; exact I.obj, mtb := by rw [hL, h0]; exact I.mtb, muL := by rw [hL]; exact I.muL, avm := by rw [hA]; exact I.avm, avh := by rw [hA, h0]; exact I.avh }
end

section
variable {α β : Type} {M : Model} {cx : Fx} {m : Str → Option Value} {cv st : List (Addr × Obj)} {s : Shared} {μ : List Addr} {H : AH} {E : Value → Shared → Prop} {R : List Addr → Heap → α → β → Prop}
theorem Sim.go {μ₀ : List Addr} {t : Sem β} {r : AH → Res α} {k : β → Shared → Prop} (h : Sim M cx m cv st R μ₀ t r) (hμ : μ₀ <+: μ) (I : Inv cx m cv st μ H s.heap) {a : α} {H₁ : AH} (e : r H = .ok a H₁)
    (f : ∀ b h₁ tk₁ μ₁, μ <+: μ₁ → Inv cx m cv st μ₁ H₁ h₁ → R μ₁ h₁ a b → k b { s with heap := h₁, toks := tk₁ }) : wpAny M cx.A t k E s := by
  refine h μ H s k E hμ I ?_
  rw [e]
  exact fun b h₁ tk₁ μ₁ hp I₁ r₁ => f b h₁ tk₁ μ₁ hp I₁ r₁
end

/-! the closure of a comprehension's scope -/
theorem forIn_pure {α β : Type} (g : α → β → β) (f : α → β → Sem (ForInStep β)) : ∀ (l : List α) (c : β), (∀ x ∈ l, ∀ c, f x c = pure (.yield (g x c))) → forIn l c f = (pure (l.foldl (fun c x => g x c) c) : Sem β)
  | [], c, _ => rfl
  | x :: l, c, h => by
    rw [List.forIn_cons, h x (.head _) c, pure_bind]
    exact forIn_pure g f l _ fun y hy => h y (.tail _ hy)
noncomputable def clStep (env : Env) (p : Str × NameKind) (cs : List (Str × Addr)) : List (Str × Addr) := if p.2 == .free then (p.1, (env.cells.lookup p.1).getD 0) :: cs else cs
noncomputable def clOf (names : List (Str × NameKind)) (env : Env) (cs : List (Str × Addr)) : List (Str × Addr) := names.foldl (fun cs p => clStep env p cs) cs
theorem closure_of {scope : Scope} {env : Env} (h : ∀ p ∈ scope.names, p.2 = .free → ∃ a, env.cells.lookup p.1 = some a) : closureFor scope env = pure (clOf scope.names env []) := by
  simp only [closureFor]
  rw [forIn_pure (clStep env)]
  · rfl
  · intro x hx c
    obtain ⟨n, k⟩ := x
    unfold clStep
    dsimp only
    by_cases hk : k = .free
    · subst hk
      obtain ⟨a, ha⟩ := h _ hx rfl
      dsimp only at ha
      simp [cellOf, ha]
    · have : (k == NameKind.free) = false := by simpa using hk
      simp [this]
theorem clOf_lookup {env : Env} {y : Str} {a : Addr} (ha : env.cells.lookup y = some a) : ∀ (names : List (Str × NameKind)) (cs : List (Str × Addr)), ((y, NameKind.free) ∈ names ∨ cs.lookup y = some a) → (clOf names env cs).lookup y = some a
  | [], cs, h => by
    rcases h with h | h
    · simp at h
    · exact h
  | p :: r, cs, h => by
    show (clOf r env (clStep env p cs)).lookup y = some a
    apply clOf_lookup ha r
    rcases h with h | h
    · rcases List.mem_cons.mp h with rfl | h
      · right; simp [clStep, ha]
      · exact .inl h
    · right
      unfold clStep
      split
      · by_cases e : y = p.1
        · subst e; simp [ha]
        · have e' : (y == p.1) = false := by simpa using e
          rw [List.lookup_cons, e']; exact h
      · exact h

theorem lookup_mem' {α β : Type} [BEq α] [LawfulBEq α] {k : α} {v : β} : ∀ {l : List (α × β)}, l.lookup k = some v → (k, v) ∈ l
  | [], h => by simp at h
  | (a, b) :: r, h => by
    rw [List.lookup_cons] at h
    split at h
    · rename_i q; cases h; rw [eq_of_beq q]; exact .head _
    · exact .tail _ (lookup_mem' h)

section
variable {c : Cx} {sc : Scope} {x : Str}
theorem ownNames_local (h : sc.names.lookup x = some .local) : (ownNames c sc).lookup x = some .local := by
  unfold ownNames
  revert h
  generalize sc.names = names
  intro h
  induction names with
  | nil => simp at h
  | cons p r ih =>
    obtain ⟨n, k⟩ := p
    rw [List.lookup_cons] at h
    rw [List.map_cons]
    split at h
    · rename_i q; cases h
      have : (NameKind.local == NameKind.free) = false := rfl
      simp only [this, Bool.false_and, Bool.false_eq_true, if_false]
      rw [List.lookup_cons, q]
    · rename_i q
      split
      · rw [List.lookup_cons, q]; exact ih h
      · rw [List.lookup_cons, q]; exact ih h
theorem ownNames_mem {y : Str} {k : NameKind} (h : (ownNames c sc).lookup y = some k) : (y, k) ∈ sc.names ∧ k ≠ .cell ∨ (k = .cell ∧ ((y, NameKind.free) ∈ sc.names ∧ c.names.lookup y = some .cell ∨ (y, NameKind.cell) ∈ sc.names)) := by
  obtain ⟨p, hp, e⟩ := List.mem_map.mp (lookup_mem' h)
  obtain ⟨n, kk⟩ := p
  dsimp only at e
  split at e
  · rename_i q
    cases e
    simp only [Bool.and_eq_true, beq_iff_eq] at q
    obtain ⟨rfl, q2⟩ := q
    exact .inr ⟨rfl, .inl ⟨hp, q2⟩⟩
  · cases e
    by_cases hk : k = .cell
    · subst hk; exact .inr ⟨rfl, .inr hp⟩
    · exact .inl ⟨hp, hk⟩

structure CompFacts (c : Cx) (sc : Scope) (x : Str) : Prop where
  kind : sc.kind = .function
  nx : sc.names.lookup x = some .local
  loc : ∀ y, (y, NameKind.local) ∈ sc.names → sc.names.lookup y = some .local ∧ (y = x ∨ (y = (".0" : Str) ∧ c.slots.lookup y = none))
  free : ∀ y, (y, NameKind.free) ∈ sc.names → c.names.lookup y = some .cell ∧ sc.names.lookup y = some .free
  noCell : ∀ y, (y, NameKind.cell) ∉ sc.names
theorem compOk_facts (h : compOk c sc x = true) : CompFacts c sc x := by
  unfold compOk at h
  simp only [Bool.and_eq_true, decide_eq_true_eq, List.all_eq_true] at h
  obtain ⟨⟨⟨⟨h1, h2⟩, h3⟩, h4⟩, h5⟩ := h
  refine ⟨h1, h2, fun y hy => ?_, fun y hy => ?_, fun y hy => ?_⟩
  · have := h3 _ hy
    simpa using this
  · have := h3 _ hy
    simpa using this
  · have := h3 _ hy
    simp at this
end
end Mine

/-! ## part C19 -/
namespace Mine
open PySem PySem.W PyProof.Rows

/-- the frame inside a comprehension -/
noncomputable def Fx.inC (cx : Fx) (sc : Scope) (x : Str) (C : Addr) (mC : Str → Option Value) : Fx :=
  { cx with env := compEnvC sc (clOf sc.names cx.env []) C cx.env, c := cx.c.comp sc x, mc := some (C, mC) }

section
variable {W : Wd} {d : Nat} {cx : Fx} {m : Str → Option Value} {cv st st' : List (Addr × Obj)} {μ μ' : List Addr} {H : AH} {sc : Scope} {x : Str} {C : Addr} {mC : Str → Option Value}

theorem FxOk.cellOk (ok : FxOk W d cx st) (cf : CompFacts cx.c sc x) : closureFor sc cx.env = pure (clOf sc.names cx.env []) :=
  closure_of fun p hp hk => ok.ce p.1 (cf.free p.1 (by obtain ⟨n, k⟩ := p; dsimp only at hk; subst hk; exact hp)).1

theorem FxOk.names (ok : FxOk W d cx st) : (relabel sc cx.env).names = ownNames cx.c sc := by
  unfold relabel ownNames
  dsimp only
  apply List.map_congr_left
  rintro ⟨n, k⟩ _
  dsimp only
  rw [ok.ek, ok.kind n]
  have : (ScopeKind.function == ScopeKind.function) = true := rfl
  rw [this, Bool.and_true]

theorem FxOk.inC {o : Obj} {es : Array DictEntry} {ep : Nat} (ok : FxOk W d cx st) (cf : CompFacts cx.c sc x) (hm : (C, o) ∈ st') (hd : o.data = .dict es ep) (hk : StrKeys es) (hf : ∀ x, nsFind es x = mC x) : FxOk W d (cx.inC sc x C mC) st' where
  B := ok.B
  X := ok.X
  T := ok.T
  fr := ok.fr
  ff := ok.ff
  fk := ok.fk
  dp := ok.dp
  un := ok.un
  ek := cf.kind
  en := ok.names
  eg := ok.eg
  eb := ok.eb
  ce := fun y hy => by
    rcases ownNames_mem (c := cx.c) (sc := sc) hy with ⟨_, h⟩ | ⟨_, h | h⟩
    · exact absurd rfl h
    · obtain ⟨a, ha⟩ := ok.ce y h.2
      exact ⟨a, clOf_lookup ha _ _ (.inl h.1)⟩
    · exact absurd h (cf.noCell y)
  sl := fun y i hy => by
    change List.lookup y ((x, cx.c.n) :: cx.c.slots) = some i at hy
    show i < cx.c.n + 1
    rw [List.lookup_cons] at hy
    split at hy
    · cases hy; exact Nat.lt_succ_self _
    · exact Nat.lt_succ_of_lt (ok.sl y i hy)
  out := ok.out
  loc := ⟨rfl, o, es, ep, hm, hd, hk, hf⟩

theorem VarsOK.inC {ρ : Rho} {av : AV} {v : Value} (ok : FxOk W d cx st) (cf : CompFacts cx.c sc x) (V : VarsOK cx m cv μ ρ) (hp : μ <+: μ') (hx : mC x = some v) (hv : VRel μ' av v) : VarsOK (cx.inC sc x C mC) m cv μ' (ρ ++ [some av]) where
  len := by
    show (ρ ++ [some av]).length = cx.c.n + 1
    simp [V.len]
  loc := fun y i aw hy hi hr => by
    change List.lookup y ((x, cx.c.n) :: cx.c.slots) = some i at hi
    change (ownNames cx.c sc).lookup y = some .local at hy
    rcases ownNames_mem hy with ⟨h, _⟩ | ⟨h, _⟩
    · rw [List.lookup_cons] at hi
      rcases (cf.loc y h).2 with rfl | ⟨h1, h2⟩
      · rw [beq_self_eq_true] at hi
        cases hi
        rw [← V.len] at hr
        simp at hr
        subst hr
        exact ⟨v, hx, hv⟩
      · split at hi
        · rename_i q
          have := eq_of_beq q
          subst this
          cases hi
          rw [← V.len] at hr
          simp at hr
          subst hr
          exact ⟨v, hx, hv⟩
        · rw [h2] at hi; cases hi
    · cases h
  cel := fun y i aw hy hi hr => by
    change List.lookup y ((x, cx.c.n) :: cx.c.slots) = some i at hi
    change (ownNames cx.c sc).lookup y = some .cell at hy
    rcases ownNames_mem hy with ⟨_, h⟩ | ⟨_, h | h⟩
    · exact absurd rfl h
    · rw [List.lookup_cons] at hi
      split at hi
      · rename_i q
        have := eq_of_beq q
        subst this
        rw [ownNames_local cf.nx] at hy
        cases hy
      · have hlt := ok.sl y i hi
        rw [← V.len] at hlt
        rw [List.getElem?_append_left hlt] at hr
        obtain ⟨k, o, w, e1, e2, e3, r⟩ := V.cel y i aw h.2 hi hr
        exact ⟨k, o, w, clOf_lookup e1 _ _ (.inl h.1), e2, e3, r.mono hp⟩
    · exact absurd h (cf.noCell y)
end

/-- behind the loop: the list D stands on the abstract heap, the comprehension's names C beside -/
noncomputable def CompEnd (cx : Fx) (m : Str → Option Value) (cv st : List (Addr × Obj)) (s : Shared) (μ : List Addr) (C D : Addr) (K : Shared → Prop) : Res (List AV) → Prop
  | .ok xs H' => ∀ h' tk μ' oC es ep, μ <+: μ' → Inv cx m cv ((C, oC) :: st) (μ' ++ [D]) (H' ++ [.list true xs]) h' → oC.data = .dict es ep → StrKeys es → K { s with heap := h', toks := tk }
  | _ => False

theorem bind_okI {α β : Type} {r : Res α} {f : α → AH → Res β} {b : β} {H : AH} (h : r.bind f = .ok b H) : ∃ a H₁, r = .ok a H₁ ∧ f a H₁ = .ok b H := by
  cases r with
  | ok a H₁ => exact ⟨a, H₁, rfl, h⟩
  | stuck => cases h
theorem optR_ok {α β : Type} {o : Option α} {k : α → Res β} {b : β} {H : AH} (h : optR o k = .ok b H) : ∃ a, o = some a ∧ k a = .ok b H := by
  cases o with
  | some a => exact ⟨a, rfl, h⟩
  | none => cases h
theorem chk_ok {β : Type} {c : Bool} {r : Res β} {b : β} {H : AH} (h : chk c r = .ok b H) : c = true ∧ r = .ok b H := by
  cases c with
  | true => exact ⟨rfl, h⟩
  | false => cases h
theorem its?_seq {o : AObj} {xs : List AV} (h : o.its? = some xs) : o.seq? o.isT = some xs := by
  cases o <;> cases h <;> rfl
theorem evI_facts {P : Pg} {Φ : Calls} {t : MI} {ρ : Rho} {H H' : AH} {it : It} (h : evI P Φ t ρ H = .ok it H') : it.len ≤ sLine ∧ ∃ ys, it.all H' = some ys := by
  cases t with
  | seq e =>
    obtain ⟨v, H₁, _, h⟩ := bind_okI h
    unfold itOf orS at h
    split at h
    · obtain ⟨hc, h⟩ := chk_ok h
      cases h
      exact ⟨of_decide_eq_true (Bool.and_eq_true_iff.mp hc).1, _, rfl⟩
    obtain ⟨i, _, h⟩ := optR_ok h
    obtain ⟨o, e1, h⟩ := optR_ok h
    obtain ⟨xs, e2, h⟩ := optR_ok h
    obtain ⟨hl, h⟩ := chk_ok h
    cases h
    refine ⟨of_decide_eq_true hl, xs, ?_⟩
    show ((H'[i]?).bind (AObj.seq? o.isT)).bind (fits xs.length) = some xs
    rw [e1]
    show (o.seq? o.isT).bind (fits xs.length) = some xs
    rw [its?_seq e2]
    exact if_pos rfl
  | rng es =>
    obtain ⟨v, H₁, _, h⟩ := bind_okI h
    obtain ⟨ns, _, h⟩ := optR_ok h
    obtain ⟨hl, h⟩ := chk_ok h
    cases h
    refine ⟨?_, _, rfl⟩
    show (ns.map AV.int).length ≤ sLine
    rw [List.length_map]; exact of_decide_eq_true hl

section
variable {W : Wd} {P : Pg} {Φ : Calls} {d : Nat} {cx : Fx} {m : Str → Option Value} {cv st : List (Addr × Obj)} {μ : List Addr} {H : AH} {s : Shared} {E : Value → Shared → Prop} {ρ : Rho}

theorem ItO.self {it : It} {k : Nat} {J : Addr} {o : Obj} {Q : Value → Shared → Prop} (hi : ItO μ o it k) (hJ : s.heap.get? J = some o) (h : Q (.ref J) s) : wpAny W.M cx.A (pyIter (.ref J)) Q E s := by
  cases it with
  | seq t i n =>
    obtain ⟨a, _, hc, hd⟩ := hi
    cases t with
    | false => exact wpAny_pyIter_listiter ⟨o, hJ, hc, hd⟩ h
    | true => exact wpAny_pyIter_tupleiter ⟨o, hJ, hc, hd⟩ h
  | fix xs =>
    obtain ⟨a, c, rfl, _⟩ := hi
    exact wpAny_pyIter_rangeiter hJ h
  | txt z =>
    obtain ⟨_, t, hc, hd⟩ := hi
    exact wpAny_pyIter_striter_ascii ⟨o, hJ, hc, hd⟩ h

theorem m2 {α : Type} {a b p : α} {l : List α} (h : p ∈ a :: b :: l) : p ∈ b :: a :: l := (List.Perm.swap b a l).mem_iff.mp h
theorem m3 {α : Type} {a b c p : α} {l : List α} (h : p ∈ a :: b :: c :: l) : p ∈ c :: a :: b :: l ∧ p ∈ b :: a :: c :: l ∧ p ∈ b :: c :: a :: l ∧ p ∈ c :: b :: a :: l := by
  have h1 : p ∈ b :: a :: c :: l := m2 h
  have h2 : p ∈ b :: c :: a :: l := ((List.Perm.swap c a l).cons b).mem_iff.mp h1
  have h3 : p ∈ a :: c :: b :: l := ((List.Perm.swap c b l).cons a).mem_iff.mp h
  exact ⟨m2 h3, h1, h2, m2 h2⟩
noncomputable abbrev listObj (vs : List Value) (n : Nat) : Obj := { cls := .type "list", dict := none, data := .seq vs.toArray n, slots := #[] }

noncomputable abbrev testsOf (ifs : List Expr) (env : Env) : Sem Bool := forIn ifs true fun c r => if r = true then do let ok ← isTrue c env (eval c env); pure (ForInStep.yield ok) else pure (ForInStep.yield r)
inductive CompI (cx : Fx) (m : Str → Option Value) (cv st : List (Addr × Obj)) (s : Shared) (μ : List Addr) (it : It) (J C D : Addr) (R : Nat → Nat → List AV → AH → Prop) (n : Nat) (s' : Shared) : Prop
  | mk (k : Nat) (acc : List AV) (vs : List Value) (nn : Nat) (o oC : Obj) (es : Array DictEntry) (ep : Nat) (μ₂ : List Addr) (H : AH) (h' : Heap) (tk : Nat) (e1 : s' = { s with heap := h', toks := tk }) (hk : k + n = it.len) (hacc : acc.length ≤ k) (hp : μ <+: μ₂)
    (I : Inv cx m cv ((J, o) :: (C, oC) :: (D, listObj vs nn) :: st) μ₂ H h') (hi : ItO μ₂ o it k) (hd : oC.data = .dict es ep) (hs : StrKeys es) (hv : VsRel μ₂ acc vs) (p : R n k acc H) : CompI cx m cv st s μ it J C D R n s'

theorem comp_loop {it : It} {J C D : Addr} {elt iter : Expr} {x : Str} {px pos : Pos} {sc : Scope} {ifs : List Expr} {cond : Rho → AH → Res Bool} {run : Rho → AH → Res AV} {RR : Result → Shared → Prop} {r : Nat} {s₀ : Shared}
    (hh : cx.A.handled = none) (ok : FxOk W d cx st) (V : VarsOK cx m cv μ ρ) (cf : CompFacts cx.c sc x) (hlen : it.len ≤ sLine)
    (nJC : J ≠ C) (nJD : J ≠ D) (nCD : C ≠ D) (sJ : ∀ p ∈ st, p.1 ≠ J) (sC : ∀ p ∈ st, p.1 ≠ C) (sD : ∀ p ∈ st, p.1 ≠ D)
    (tests : ∀ mC st' ρ' μ₁, FxOk W d (cx.inC sc x C mC) st' → VarsOK (cx.inC sc x C mC) m cv μ₁ ρ' → Sim W.M (cx.inC sc x C mC) m cv st' RB μ₁ (testsOf ifs (compEnvC sc (clOf sc.names cx.env []) C cx.env)) (cond ρ'))
    (elts : ∀ mC st' ρ' μ₁, FxOk W d (cx.inC sc x C mC) st' → VarsOK (cx.inC sc x C mC) m cv μ₁ ρ' → Sim W.M (cx.inC sc x C mC) m cv st' RV μ₁ (eval elt (compEnvC sc (clOf sc.names cx.env []) C cx.env)) (run ρ'))
    (c : CompI cx m cv st s μ it J C D (fun n k acc H => CompEnd cx m cv st s μ C D (RR (.ok .next)) (compA it ρ cond run n k acc H)) r s₀) :
    codeAny W.M cx.A (.compLoop (.ListComp elt [⟨.Name x px, iter, ifs, 0⟩] sc pos) 0 (.ref J) (.ref D) (compEnvC sc (clOf sc.names cx.env []) C cx.env)) RR s₀ := by
  refine codeAny_compLoop_tests (fun n s' => CompI cx m cv st s μ it J C D (fun n k acc H => CompEnd cx m cv st s μ C D (RR (.ok .next)) (compA it ρ cond run n k acc H)) n s') ?_ r c
  clear c s₀ r
  rintro n s' ⟨k, acc, vs, nn, o, oC, es, ep, μ₂, H, h', tk, rfl, hk, hacc, hp, I, hi, hd, hs, hv, p⟩
  have dJ : ∀ p ∈ (C, oC) :: (D, listObj vs nn) :: st, p.1 ≠ J := by
    intro p hp
    rcases List.mem_cons.mp hp with rfl | hp
    · exact Ne.symm nJC
    · rcases List.mem_cons.mp hp with rfl | hp
      · exact Ne.symm nJD
      · exact sJ p hp
  cases n with
  | zero =>
    replace p : CompEnd cx m cv st s μ C D (RR (.ok .next)) (optR (it.all H) fun _ => .ok acc H) := p
    cases he : it.all H with
    | none => rw [he] at p; exact p.elim
    | some ys =>
      rw [he] at p
      have hk' : k = it.len := by decreasing_trivial
      subst hk'
      refine next_end (E := _) hh I dJ hi he fun h₁ I₁ => ?_
      show RR (.ok .next) _
      have ID := I₁.lessSt (st' := (D, listObj vs nn) :: (C, oC) :: st) (fun p hp => m2 hp)
      refine p h₁ tk μ₂ oC es ep hp (ID.lift (fun p hp => ?_) ⟨vs, nn, (ID.stN _ (.head _)).1, hv.mono (List.prefix_append _ _)⟩) hd hs
      rcases List.mem_cons.mp hp with rfl | hp
      · exact nCD
      · exact sD p hp
  | succ r =>
    replace p : CompEnd cx m cv st s μ C D (RR (.ok .next)) (optR ((it.all H).bind (·[k]?)) fun v => (cond (ρ ++ [some v]) H).bind fun b H₁ => match b with
      | true => (run (ρ ++ [some v]) H₁).bind fun y H₂ => compA it ρ cond run r (k + 1) (acc ++ [y]) H₂
      | false => compA it ρ cond run r (k + 1) acc H₁) := p
    cases hget : (it.all H).bind (·[k]?) with
    | none => rw [hget] at p; exact p.elim
    | some v =>
      rw [hget] at p
      refine next_item (E := _) I dJ hi hget fun b o₁ h₁ tk₁ hi₁ I₁ rv => ?_
      show wpAny _ _ (assign (.Name x px) _ b) _ _ _
      have nsC : h₁.Ns C (fun y => nsFind es y) := ⟨oC, es, ep, (I₁.stN _ (.tail _ (.head _))).1, hd, hs, fun _ => rfl⟩
      have kx : (compEnvC sc (clOf sc.names cx.env []) C cx.env).kindOf x = some .local := lookup_relabel_local cf.nx
      refine wpAny_assign_Name (wpAny_storeName_local kx nsC (fun h₂ hn₂ hs₂ => ?_) (by show ((sc.kind == .class) || (sc.kind == .module && _)) = false; rw [cf.kind]; rfl))
      obtain ⟨oC₂, es₂, ep₂, hC₂, hd₂, hk₂, hf₂⟩ := hn₂
      have I₂ : Inv cx m cv ((C, oC₂) :: (J, o₁) :: (D, listObj vs nn) :: st) μ₂ H h₂ := by
        refine (I₁.lessSt (st' := (C, oC) :: (J, o₁) :: (D, listObj vs nn) :: st) (fun p hp => (m3 hp).2.1)).setSt (fun b q hb e => (hs₂.2 b hb).trans e) hC₂ (fun p hp => ?_)
        rcases List.mem_cons.mp hp with rfl | hp
        · exact nJC
        · rcases List.mem_cons.mp hp with rfl | hp
          · exact Ne.symm nCD
          · exact sC p hp
      have okC : FxOk W d (cx.inC sc x C (fun y => if y = x then some b else nsFind es y)) ((C, oC₂) :: (J, o₁) :: (D, listObj vs nn) :: st) := ok.inC cf (.head _) hd₂ hk₂ hf₂
      have VC : VarsOK (cx.inC sc x C (fun y => if y = x then some b else nsFind es y)) m cv μ₂ (ρ ++ [some v]) := V.inC ok cf hp (by simp) rv
      replace p : CompEnd cx m cv st s μ C D (RR (.ok .next)) ((cond (ρ ++ [some v]) H).bind fun b H₁ => match b with
        | true => (run (ρ ++ [some v]) H₁).bind fun y H₂ => compA it ρ cond run r (k + 1) (acc ++ [y]) H₂
        | false => compA it ρ cond run r (k + 1) acc H₁) := p
      cases hc : cond (ρ ++ [some v]) H with
      | stuck => rw [hc] at p; exact p.elim
      | ok t H₁ =>
        rw [hc] at p
        refine (tests _ _ _ _ okC VC).go (pfx _) I₂.re hc fun t' h₃ tk₃ μ₃ hp₃ I₃ rt => ?_
        cases rt
        cases t with
        | false =>
          rw [if_neg (by decide)]
          exact ⟨r, Nat.lt_succ_self _, k + 1, acc, vs, nn, o₁, oC₂, es₂, ep₂, μ₃, H₁, h₃, tk₃, rfl, by decreasing_trivial, Nat.le_succ_of_le hacc, hp.trans hp₃, (I₃.lessSt (fun p hp => (m3 hp).2.1)).re, hi₁.mono hp₃, hd₂, hk₂, hv.mono hp₃, p⟩
        | true =>
          rw [if_pos rfl]
          replace p : CompEnd cx m cv st s μ C D (RR (.ok .next)) ((run (ρ ++ [some v]) H₁).bind fun y H₂ => compA it ρ cond run r (k + 1) (acc ++ [y]) H₂) := p
          cases hr : run (ρ ++ [some v]) H₁ with
          | stuck => rw [hr] at p; exact p.elim
          | ok y H₂ =>
            rw [hr] at p
            refine (elts _ _ _ _ okC (VC.mono hp₃)).go (pfx _) I₃ hr fun b' h₄ tk₄ μ₄ hp₄ I₄ rb => ?_
            have I₄' : Inv cx m cv ((D, listObj vs nn) :: (J, o₁) :: (C, oC₂) :: st) μ₄ H₂ h₄ := (I₄.lessSt (fun p hp => (m3 hp).2.2.2)).re
            have hl : IsL h₄ D vs.toArray nn := (I₄'.stN _ (.head _)).1
            refine wpAny_list_append_plain (hsz := by rw [List.size_toArray, sizeLine_eq, ← hv.1]; exact Nat.le_trans hacc (Nat.le_trans (by decreasing_trivial) hlen)) ⟨nn, hl⟩ fun h₅ hl₅ hs₅ => ?_
            obtain ⟨nn', hl₅⟩ := hl₅
            have I₅ : Inv cx m cv ((D, listObj (vs ++ [b']) nn') :: (J, o₁) :: (C, oC₂) :: st) μ₄ H₂ h₅ := by
              refine I₄'.setSt (fun b q hb e => (hs₅.2 b hb).trans e) (by rw [hl₅]; simp [listObj]) (fun p hp => ?_)
              rcases List.mem_cons.mp hp with rfl | hp
              · exact nJD
              · rcases List.mem_cons.mp hp with rfl | hp
                · exact nCD
                · exact sD p hp
            refine ⟨r, Nat.lt_succ_self _, k + 1, acc ++ [y], vs ++ [b'], nn', o₁, oC₂, es₂, ep₂, μ₄, H₂, h₅, tk₄, rfl, by decreasing_trivial, by rw [List.length_append]; exact Nat.succ_le_succ hacc, (hp.trans hp₃).trans hp₄, ?_, (hi₁.mono hp₃).mono hp₄, hd₂, hk₂, ((hv.mono hp₃).mono hp₄).append (.one rb), p⟩
            exact I₅.lessSt (fun p hp => (m3 hp).1)
end
end Mine

/-! ## part C20 -/
namespace Mine
open PySem PySem.W PyProof.Rows

section
variable {W : Wd} {P : Pg} {Φ : Calls} {Cb : Addr} {d : Nat} {cx : Fx} {m : Str → Option Value} {cv st : List (Addr × Obj)} {μ : List Addr} {H : AH} {s : Shared} {E : Value → Shared → Prop} {ρ : Rho}

theorem CompEnd.at {C D : Addr} {K : Shared → Prop} {r : Res (List AV)} {μ' : List Addr} {h : Heap} {tk : Nat} (p : CompEnd cx m cv st s μ C D K r) (hp : μ <+: μ') : CompEnd cx m cv st { s with heap := h, toks := tk } μ' C D K r := by
  cases r with
  | ok xs H' => exact fun h' tk' μ'' oC es ep hp' I hd hs => p h' tk' μ'' oC es ep (hp.trans hp') I hd hs
  | stuck => exact p

theorem comp_block {it : It} {J : Addr} {o : Obj} {elt iter : Expr} {x : Str} {px pos : Pos} {sc : Scope} {ifs : List Expr} {cond : Rho → AH → Res Bool} {run : Rho → AH → Res AV} {RR : Value → Addr → Result → Shared → Prop}
    (hh : cx.A.handled = none) (ok : FxOk W d cx st) (V : VarsOK cx m cv μ ρ) (cf : CompFacts cx.c sc x) (hlen : it.len ≤ sLine)
    (tests : ∀ C mC st' ρ' μ₁, FxOk W d (cx.inC sc x C mC) st' → VarsOK (cx.inC sc x C mC) m cv μ₁ ρ' → Sim W.M (cx.inC sc x C mC) m cv st' RB μ₁ (testsOf ifs (compEnvC sc (clOf sc.names cx.env []) C cx.env)) (cond ρ'))
    (elts : ∀ C mC st' ρ' μ₁, FxOk W d (cx.inC sc x C mC) st' → VarsOK (cx.inC sc x C mC) m cv μ₁ ρ' → Sim W.M (cx.inC sc x C mC) m cv st' RV μ₁ (eval elt (compEnvC sc (clOf sc.names cx.env []) C cx.env)) (run ρ'))
    (I : Inv cx m cv ((J, o) :: st) μ H s.heap) (sJ : ∀ p ∈ st, p.1 ≠ J) (hi : ItO μ o it 0)
    (p : ∀ C D, (∀ p ∈ st, p.1 ≠ C) → CompEnd cx m cv st s μ C D (RR (.ref D) C (.ok .next)) (compA it ρ cond run it.len 0 [] H)) :
    wpAny W.M cx.A (newList []) (fun acc s₃ => wpAny W.M cx.A (newFunctionEnv sc cx.env.globals (clOf sc.names cx.env []) [] cx.env.qual none .none (some cx.env)) (fun cenv s₄ =>
      codeAny W.M cx.A (.compStart (.ListComp elt [⟨.Name x px, iter, ifs, 0⟩] sc pos) 0 (.ref J) acc { cenv with scope := relabel sc cx.env }) (RR acc cenv.locals) s₄) E s₃) E s := by
  refine wpAny_newObj_type (wpAny_newFunctionEnv (fun y hy hc => cf.noCell y.1 (by obtain ⟨n, k⟩ := y; dsimp only at hc; subst hc; exact hy)) (by intro y hy; simp at hy) (fun h₁ hns₁ hsb₁ => ?_) cf.kind)
  dsimp only at hns₁ hsb₁ ⊢
  have I₁ : Inv cx m cv ((s.heap.objs.size, listObj [] 0) :: (J, o) :: st) μ H (s.heap.push (listObj [] 0)) := I.addSt (fun _ _ e => Heap.get?_push_of_some _ e) (size_none _) (Heap.get?_push_size _ rfl)
  have f₁ := (I.new (size_none s.heap)).2.2.2.2
  change Heap.Ns h₁ (s.heap.push (listObj [] 0)).objs.size _ at hns₁
  change Heap.SameBut (s.heap.push (listObj [] 0)).objs.size ((s.heap.push (listObj [] 0)).push _) h₁ at hsb₁
  generalize hD : s.heap.objs.size = D at I₁ f₁
  generalize hH : s.heap.push (listObj [] 0) = H1 at I₁ hns₁ hsb₁
  have f₂ := (I₁.new (size_none H1)).2.2.2.2
  obtain ⟨oC, es, ep, hC, hd, hk, hf⟩ := hns₁
  have I₂ : Inv cx m cv ((H1.objs.size, oC) :: (D, listObj [] 0) :: (J, o) :: st) μ H h₁ :=
    I₁.addSt (fun b q e => hsb₁.extBut b q (fun w => by rw [w, size_none] at e; cases e) (Heap.get?_push_of_some _ e)) (size_none _) hC
  have hDC : (s.heap.push { cls := Value.type "list", dict := none, data := Data.seq ([] : List Value).toArray }).objs.size = H1.objs.size := by rw [← hH]
  have nCD : H1.objs.size ≠ D := fun w => f₂ (D, listObj [] 0) (.head _) w.symm
  have nJC : J ≠ H1.objs.size := f₂ (J, o) (.tail _ (.head _))
  have nJD : J ≠ D := f₁ (J, o) (.head _)
  have sC : ∀ p ∈ st, p.1 ≠ H1.objs.size := fun p hp => f₂ p (.tail _ (.tail _ hp))
  have sD : ∀ p ∈ st, p.1 ≠ D := fun p hp => f₁ p (.tail _ hp)
  have loop : ∀ s₃ : Shared, s₃ = { s with heap := h₁, toks := s.toks + ([] : List (Str × Value)).length } →
      codeAny W.M cx.A (.compLoop (.ListComp elt [⟨.Name x px, iter, ifs, 0⟩] sc pos) 0 (.ref J) (.ref D) (compEnvC sc (clOf sc.names cx.env []) H1.objs.size cx.env)) (RR (.ref D) H1.objs.size) s₃ := by
    rintro s₃ rfl
    exact comp_loop hh ok V cf hlen nJC nJD nCD sJ sC sD (fun mC st' ρ' μ₁ => tests _ mC st' ρ' μ₁) (fun mC st' ρ' μ₁ => elts _ mC st' ρ' μ₁) ⟨0, [], [], 0, o, oC, es, ep, μ, H, _, _, rfl, Nat.zero_add _, Nat.le_refl _, pfx _, I₂.lessSt (fun p hp => (m3 hp).2.2.1), hi, hd, hk, .nil, p _ _ sC⟩
  subst hD
  refine codeAny_compStart_list (loop _ rfl) (ItO.self (cx := cx) hi ?_ (loop _ rfl))
  exact (I₂.stN (J, o) (.tail _ (.tail _ (.head _)))).1

theorem comp_gen {elt iter : Expr} {x : Str} {px pos : Pos} {sc : Scope} {ifs : List Expr} {cond : Rho → AH → Res Bool} {run : Rho → AH → Res AV} {use : Option (Value → Sem Unit)} {Q : Value → Shared → Prop} {pos' : Pos} {μ₀ : List Addr}
    (T : St W Cb d cx m cv st ρ μ₀) (cf : CompFacts cx.c sc x) (hI : SI W P Φ Cb d iter) (hset : ∀ x, foldedSetIterable iter cx.env x = pure x)
    (tests : ∀ C mC st' ρ' μ₁, FxOk W d (cx.inC sc x C mC) st' → VarsOK (cx.inC sc x C mC) m cv μ₁ ρ' → Sim W.M (cx.inC sc x C mC) m cv st' RB μ₁ (testsOf ifs (compEnvC sc (clOf sc.names cx.env []) C cx.env)) (cond ρ'))
    (elts : ∀ C mC st' ρ' μ₁, FxOk W d (cx.inC sc x C mC) st' → VarsOK (cx.inC sc x C mC) m cv μ₁ ρ' → Sim W.M (cx.inC sc x C mC) m cv st' RV μ₁ (eval elt (compEnvC sc (clOf sc.names cx.env []) C cx.env)) (run ρ'))
    (hp : μ₀ <+: μ) (I : Inv cx m cv st μ H s.heap)
    (p : ∀ C D, (∀ p ∈ st, p.1 ≠ C) → CompEnd cx m cv st s μ C D (compPost W.M cx.A E use Q (.ref D) C (.ok .next)) ((evI P Φ (mkI (cE iter cx.c)) ρ H).bind fun t H₁ => compA t ρ cond run t.len 0 [] H₁)) :
    wpAny W.M cx.A (comprehension (.ListComp elt [⟨.Name x px, iter, ifs, 0⟩] sc pos) sc cx.env pos' (newList []) false (eval iter cx.env) use) Q E s := by
  refine wpAny_comprehension_free (use := use) rfl hset (T.ok.cellOk cf) cf.kind (fun y hy hl => (cf.loc y.1 (by obtain ⟨n, k⟩ := y; dsimp only at hl; subst hl; exact hy)).1) ?_
  cases q : evI P Φ (mkI (cE iter cx.c)) ρ H with
  | stuck => rw [q] at p; exact (p s.heap.objs.size 0 (I.new (size_none s.heap)).2.2.2.2).elim
  | ok t H₁ =>
    rw [q] at p
    obtain ⟨hl, ys, hy⟩ := evI_facts q
    refine (hI cx m cv st ρ μ₀ T).go hp I q fun b h₁ tk₁ μ₁ hp₁ I₁ r₁ => ?_
    refine iter_sound I₁ r₁ hy fun J o h₂ hi I₂ sJ _ => ?_
    exact comp_block (RR := fun acc C => compPost W.M cx.A E use Q acc C) T.hh T.ok (T.V.mono (hp.trans hp₁)) cf hl tests elts I₂ sJ hi fun C D sC => (p C D sC).at hp₁

/-- the comprehension's value taken as it is -/
theorem comp_plain {Q : Value → Shared → Prop} {r : Res (List AV)} (p : PostG cx m cv st s μ RV Q E (r.bind fun xs H₂ => alloc (.list true xs) H₂)) (C D : Addr) (sC : ∀ p ∈ st, p.1 ≠ C) :
    CompEnd cx m cv st s μ C D (compPost W.M cx.A E none Q (.ref D) C (.ok .next)) r := by
  cases r with
  | stuck => exact p
  | ok xs H' =>
    intro h' tk μ' oC es ep hp I hd hk
    refine ⟨_, ⟨oC, es, ep, (I.stN _ (.head _)).1, hd, hk, fun _ => rfl⟩, fun h'' hs => ?_⟩
    refine p (.ref D) h'' tk (μ' ++ [D]) (hp.trans (List.prefix_append _ _)) (I.goneSt (fun b q hb e => (hs.2 b hb).trans e) sC) (.ref ?_)
    have := I.len
    simp only [List.length_append, List.length_singleton, Nat.add_right_cancel_iff] at this
    rw [← this]; simp
end
end Mine

/-! ## part C21 -/
namespace Mine
open PySem PySem.W PyProof.Rows

/-- a comprehension's items -/
noncomputable def itemsOf (P : Pg) (Φ : Calls) (ρ : Rho) (H : AH) (it : MI) (cond : Rho → AH → Res Bool) (elt : ME) : Res (List AV) := (evI P Φ it ρ H).bind fun t H₁ => compA t ρ cond (ev P Φ elt) t.len 0 [] H₁
noncomputable def condI (P : Pg) (Φ : Calls) (ρ : Rho) (H : AH) (it : MI) (elt : ME) (ts : List ME) : Res (List AV) := match ts with
  | [] => itemsOf P Φ ρ H it noCond elt
  | t :: r => chk r.isEmpty (itemsOf P Φ ρ H it (fun ρ H => (ev P Φ t ρ H).bind truth) elt)
noncomputable def compRes (P : Pg) (Φ : Calls) (c : Cx) (elt : Expr) (gens : List Comprehension) (sc : Scope) (ρ : Rho) (H : AH) : Res (List AV) := optR (cGs gens c) fun p => chk (compOk c sc p.1) (condI P Φ ρ H p.2 (cE elt (c.comp sc p.1)) (cIf gens (c.comp sc p.1)))

theorem cGs_some {gens : List Comprehension} {c : Cx} {p : Str × MI} (h : cGs gens c = some p) : ∃ px iter ifs, gens = [⟨.Name p.1 px, iter, ifs, 0⟩] ∧ p.2 = mkI (cE iter c) := by
  cases gens with
  | nil => cases h
  | cons g r =>
    obtain ⟨t, iter, ifs, a⟩ := g
    have h : (if r.isEmpty && a == 0 then (nameIn t).map fun x => (x, mkI (cE iter c)) else none) = some p := h
    split at h
    · rename_i hc
      obtain ⟨h1, h2⟩ := Bool.and_eq_true_iff.mp hc
      obtain ⟨x, hx, rfl⟩ := Option.map_eq_some_iff.mp h
      obtain ⟨px, rfl⟩ := nameIn_some hx
      obtain rfl := List.isEmpty_iff.mp h1
      obtain rfl := beq_iff_eq.mp h2
      exact ⟨px, iter, ifs, rfl, rfl⟩
    · cases h

section
variable {W : Wd} {P : Pg} {Φ : Calls} {C : Addr} {d : Nat} {cx : Fx} {m : Str → Option Value} {cv st : List (Addr × Obj)} {μ : List Addr} {H : AH} {s : Shared} {E : Value → Shared → Prop} {ρ : Rho}

noncomputable def S3g (W : Wd) (P : Pg) (Φ : Calls) (C : Addr) (d : Nat) (gs : List Comprehension) : Prop := ∀ g ∈ gs, S3 W P Φ C d g.iter ∧ S3s W P Φ C d g.ifs

theorem comp_case {elt : Expr} {gens : List Comprehension} {sc : Scope} {pos : Pos} {use : Option (Value → Sem Unit)} {Q : Value → Shared → Prop} {μ₀ : List Addr} (he : S3 W P Φ C d elt) (hg : S3g W P Φ C d gens)
    (T : St W C d cx m cv st ρ μ₀) (hp : μ₀ <+: μ) (I : Inv cx m cv st μ H s.heap)
    (p : ∀ C D, (∀ p ∈ st, p.1 ≠ C) → CompEnd cx m cv st s μ C D (compPost W.M cx.A E use Q (.ref D) C (.ok .next)) (compRes P Φ cx.c elt gens sc ρ H)) :
    wpAny W.M cx.A (comprehension (.ListComp elt gens sc pos) sc cx.env (firstIterPos gens pos) (newList []) (firstAsync gens) (firstIter gens cx.env) use) Q E s := by
  have stuck : (∀ C D, (∀ p ∈ st, p.1 ≠ C) → CompEnd cx m cv st s μ C D (compPost W.M cx.A E use Q (.ref D) C (.ok .next)) .stuck) → False := fun p => p s.heap.objs.size 0 (I.new (size_none s.heap)).2.2.2.2
  unfold compRes at p
  cases hq : cGs gens cx.c with
  | none => rw [hq] at p; exact (stuck p).elim
  | some xi =>
    obtain ⟨x, it⟩ := xi
    rw [hq] at p
    replace p : ∀ C D, (∀ p ∈ st, p.1 ≠ C) → CompEnd cx m cv st s μ C D (compPost W.M cx.A E use Q (.ref D) C (.ok .next)) (chk (compOk cx.c sc x) (condI P Φ ρ H it (cE elt (cx.c.comp sc x)) (cIf gens (cx.c.comp sc x)))) := p
    cases hok : compOk cx.c sc x with
    | false => rw [hok] at p; exact (stuck p).elim
    | true =>
      rw [hok] at p
      have cf := compOk_facts hok
      obtain ⟨px, iter, ifs, rfl, e⟩ := cGs_some hq
      dsimp only at e
      subst e
      obtain ⟨hi, hifs⟩ := hg _ (.head _)
      by_cases hset : ∀ x, foldedSetIterable iter cx.env x = pure x
      · have elts : ∀ Ca mC st' ρ' μ₁, FxOk W d (cx.inC sc x Ca mC) st' → VarsOK (cx.inC sc x Ca mC) m cv μ₁ ρ' → Sim W.M (cx.inC sc x Ca mC) m cv st' RV μ₁ (eval elt (compEnvC sc (clOf sc.names cx.env []) Ca cx.env)) (ev P Φ (cE elt (cx.c.comp sc x)) ρ') :=
          fun Ca mC st' ρ' μ₁ ok' V' => he.E (cx.inC sc x Ca mC) m cv st' ρ' μ₁ ⟨T.c, ok', V', T.hh⟩
        match ifs, hifs with
        | [], _ => exact comp_gen (x := x) (cond := noCond) T cf hi.I hset (fun Ca mC st' ρ' μ₁ ok' V' μ' H' s' Q' E' hp' I' p' => wpAny_tests_nil (p' true s'.heap s'.toks μ' (pfx _) I' rfl)) elts hp I p
        | [t], hifs => exact comp_gen (x := x) (cond := fun ρ H => (ev P Φ (cE t (cx.c.comp sc x)) ρ H).bind truth) T cf hi.I hset (fun Ca mC st' ρ' μ₁ ok' V' μ' H' s' Q' E' hp' I' p' => wpAny_tests_one ((hifs t (.head _)).B (cx.inC sc x Ca mC) m cv st' ρ' μ₁ ⟨T.c, ok', V', T.hh⟩ μ' H' s' Q' E' hp' I' p')) elts hp I p
        | _ :: _ :: _, _ => exact (stuck p).elim
      · have hb : ∀ c, cE iter c = .bad := fun c => by
          cases iter <;> first | (exact absurd (fun _ => rfl) hset) | rfl
        rw [hb] at p
        match ifs with
        | [] => exact (stuck p).elim
        | [_] => exact (stuck p).elim
        | _ :: _ :: _ => exact (stuck p).elim

theorem compRes_ev {elt : Expr} {gens : List Comprehension} {sc : Scope} {pos : Pos} {c : Cx} : ev P Φ (cE (.ListComp elt gens sc pos) c) ρ H = (compRes P Φ c elt gens sc ρ H).bind fun xs H₂ => alloc (.list true xs) H₂ := by
  show ev P Φ (orBad (cGs gens c) fun p => butBad (compOk c sc p.1) (condOf p.2 (cE elt (c.comp sc p.1)) (cIf gens (c.comp sc p.1)))) ρ H = _
  unfold compRes
  cases cGs gens c with
  | none => rfl
  | some p =>
    show ev P Φ (butBad (compOk c sc p.1) (condOf p.2 (cE elt (c.comp sc p.1)) (cIf gens (c.comp sc p.1)))) ρ H = (chk (compOk c sc p.1) (condI P Φ ρ H p.2 (cE elt (c.comp sc p.1)) (cIf gens (c.comp sc p.1)))).bind _
    generalize cIf gens (c.comp sc p.1) = ts
    cases compOk c sc p.1 with
    | false => rfl
    | true =>
      match ts with
      | [] => rfl
      | [_] => rfl
      | _ :: _ :: _ => rfl

theorem condOf_rng {it : MI} {e : ME} {ts : List ME} : (condOf it e ts).rng? = none := by
  match ts with
  | [] => rfl
  | [_] => rfl
  | _ :: _ :: _ => rfl
theorem lcomp_S3 {elt : Expr} {gens : List Comprehension} {sc : Scope} {pos : Pos} (he : S3 W P Φ C d elt) (hg : S3g W P Φ C d gens) : S3 W P Φ C d (.ListComp elt gens sc pos) := by
  refine .of (fun cx m cv st ρ μ₀ T μ H s Q E hp I p => ?_) (fun _ _ => rfl) (fun c => orBad_rng fun _ => butBad_rng condOf_rng)
  rw [compRes_ev] at p
  rw [eval_ListComp]
  exact comp_case he hg T hp I fun C' D' sC => comp_plain p C' D' sC
end

section
variable {W : Wd} {P : Pg} {Φ : Calls} {C : Addr} {d : Nat}
/-- an expression, and the parts of a slice or of what is called -/
structure S4 (W : Wd) (P : Pg) (Φ : Calls) (C : Addr) (d : Nat) (e : Expr) : Prop where
  s : S3 W P Φ C d e
  c : ∀ args kws pos, S3s W P Φ C d args → S3 W P Φ C d (.Call e args kws pos)
  i : ∀ v pos, S3 W P Φ C d v → S3 W P Φ C d (.Subscript v e pos)
theorem S4.plain {e : Expr} (LK : Lk W P C) (h : S3 W P Φ C d e) (hc : ∀ args pos c es, cF e args pos c es = .bad) (hi : isSlice e = false) : S4 W P Φ C d e :=
  ⟨h, fun args kws pos _ => .bad fun c => by
    show butBad kws.isEmpty (cF e args pos c (cEs args c)) = .bad
    rw [hc]; cases kws.isEmpty <;> rfl, fun v pos hv => idx_S3 LK hi hv h⟩
theorem S4.bad {e : Expr} (LK : Lk W P C) (h : ∀ c, cE e c = .bad) (hc : ∀ args pos c es, cF e args pos c es = .bad) (hi : isSlice e = false) : S4 W P Φ C d e := .plain LK (.bad h) hc hi

mutual
theorem all4 (LK : Lk W P C) (hΦ : CallsOk W P C d Φ) (hB : BookOk W C d) : (e : Expr) → S4 W P Φ C d e
  | .Constant .. => .plain LK const_S3 (fun _ _ _ _ => rfl) rfl
  | .Name .. => ⟨name_S3 LK, fun _ _ _ hs => call_S3 LK hΦ hB hs, fun _ _ hv => idx_S3 LK rfl hv (name_S3 LK)⟩
  | .BinOp l _ r _ => .plain LK (binop_S3 (all4 LK hΦ hB l).s (all4 LK hΦ hB r).s) (fun _ _ _ _ => rfl) rfl
  | .UnaryOp _ x _ => .plain LK (unary_S3 (all4 LK hΦ hB x).s) (fun _ _ _ _ => rfl) rfl
  | .BoolOp _ vs _ => .plain LK (bool_S3 (all4s LK hΦ hB vs)) (fun _ _ _ _ => rfl) rfl
  | .Compare l _ rs _ => .plain LK (compare_S3 LK (all4 LK hΦ hB l).s (all4s LK hΦ hB rs)) (fun _ _ _ _ => rfl) rfl
  | .Call f args kws pos => .plain LK ((all4 LK hΦ hB f).c args kws pos (all4s LK hΦ hB args)) (fun _ _ _ _ => rfl) rfl
  | .Attribute v _ _ => ⟨attr_S3, fun _ _ _ hs => meth_S3 (all4 LK hΦ hB v).s hs, fun _ _ hw => idx_S3 LK rfl hw attr_S3⟩
  | .Subscript v i pos => .plain LK ((all4 LK hΦ hB i).i v pos (all4 LK hΦ hB v).s) (fun _ _ _ _ => rfl) rfl
  | .List es _ => .plain LK (list_S3 (all4s LK hΦ hB es)) (fun _ _ _ _ => rfl) rfl
  | .Tuple es _ _ => .plain LK (tuple_S3 (all4s LK hΦ hB es)) (fun _ _ _ _ => rfl) rfl
  | .ListComp elt gens _ _ => .plain LK (lcomp_S3 (all4 LK hΦ hB elt).s (all4g LK hΦ hB gens)) (fun _ _ _ _ => rfl) rfl
  | .Slice lo hi _ _ => ⟨.bad fun _ => rfl, fun _ kws _ _ => .bad fun _ => by cases kws <;> rfl, fun _ _ hv => slice_S3 hv (all4o LK hΦ hB lo) (all4o LK hΦ hB hi)⟩
  | .NamedExpr .. => .bad LK (fun _ => rfl) (fun _ _ _ _ => rfl) rfl
  | .Lambda .. => .bad LK (fun _ => rfl) (fun _ _ _ _ => rfl) rfl
  | .IfExp .. => .bad LK (fun _ => rfl) (fun _ _ _ _ => rfl) rfl
  | .Dict .. => .bad LK (fun _ => rfl) (fun _ _ _ _ => rfl) rfl
  | .Set .. => .bad LK (fun _ => rfl) (fun _ _ _ _ => rfl) rfl
  | .SetComp .. => .bad LK (fun _ => rfl) (fun _ _ _ _ => rfl) rfl
  | .DictComp .. => .bad LK (fun _ => rfl) (fun _ _ _ _ => rfl) rfl
  | .GeneratorExp .. => .bad LK (fun _ => rfl) (fun _ _ _ _ => rfl) rfl
  | .Await .. => .bad LK (fun _ => rfl) (fun _ _ _ _ => rfl) rfl
  | .Yield .. => .bad LK (fun _ => rfl) (fun _ _ _ _ => rfl) rfl
  | .YieldFrom .. => .bad LK (fun _ => rfl) (fun _ _ _ _ => rfl) rfl
  | .FormattedValue .. => .bad LK (fun _ => rfl) (fun _ _ _ _ => rfl) rfl
  | .JoinedStr .. => .bad LK (fun _ => rfl) (fun _ _ _ _ => rfl) rfl
  | .Starred .. => .bad LK (fun _ => rfl) (fun _ _ _ _ => rfl) rfl
theorem all4s (LK : Lk W P C) (hΦ : CallsOk W P C d Φ) (hB : BookOk W C d) : (es : List Expr) → S3s W P Φ C d es
  | [] => fun _ h => by cases h
  | e :: r => fun x hx => by
    rcases List.mem_cons.mp hx with h | h
    · rw [h]; exact (all4 LK hΦ hB e).s
    · exact all4s LK hΦ hB r x h
theorem all4o (LK : Lk W P C) (hΦ : CallsOk W P C d Φ) (hB : BookOk W C d) : (o : Option Expr) → S3o W P Φ C d o
  | none => fun _ h => by cases h
  | some e => fun x hx => by
    rw [← Option.some.inj hx]; exact (all4 LK hΦ hB e).s
theorem all4g (LK : Lk W P C) (hΦ : CallsOk W P C d Φ) (hB : BookOk W C d) : (gs : List Comprehension) → S3g W P Φ C d gs
  | [] => fun _ h => by cases h
  | ⟨t, it, ifs, a⟩ :: r => fun x hx => by
    rcases List.mem_cons.mp hx with h | h
    · rw [h]; exact ⟨(all4 LK hΦ hB it).s, all4s LK hΦ hB ifs⟩
    · exact all4g LK hΦ hB r x h
end
theorem all_S3 (LK : Lk W P C) (hΦ : CallsOk W P C d Φ) (hB : BookOk W C d) (e : Expr) : S3 W P Φ C d e := (all4 LK hΦ hB e).s
end
end Mine

/-! ## part C22 -/
namespace Mine
open PySem PySem.W PyProof.Rows

/-- a function's own frame -/
structure FrOk (cx : Fx) : Prop where
  mc : cx.mc = none
  inj : ∀ (x y : Str) (i : Nat), cx.c.slots.lookup x = some i → cx.c.slots.lookup y = some i → x = y
  cd : ∀ (x y : Str) (c : Addr), cx.c.names.lookup x = some .cell → cx.c.names.lookup y = some .cell → cx.env.cells.lookup x = some c → cx.env.cells.lookup y = some c → x = y
noncomputable def CellsIn (cx : Fx) (cv : List (Addr × Obj)) : Prop := ∀ (x : Str) (c : Addr), cx.c.names.lookup x = some .cell → cx.env.cells.lookup x = some c → ∃ o, (c, o) ∈ cv

/-- what is wanted behind a statement -/
noncomputable def SPost (cx : Fx) (stk : List (Addr × Obj)) (s : Shared) (μ : List Addr) (Q : Flow → Shared → Prop) (_E : Value → Shared → Prop) : Res Fl → Prop
  | .ok (.next ρ') H' => ∀ h' tk μ' m' cv', μ <+: μ' → Inv cx m' cv' stk μ' H' h' → VarsOK cx m' cv' μ' ρ' → CellsIn cx cv' → Q .next { s with heap := h', toks := tk }
  | .ok (.ret v) H' => ∀ b h' tk μ' m' cv', μ <+: μ' → Inv cx m' cv' stk μ' H' h' → CellsIn cx cv' → VRel μ' v b → Q (.ret b) { s with heap := h', toks := tk }
  | .stuck => False

section
variable (W : Wd) (P : Pg) (Φ : Calls) (C : Addr) (d : Nat)
/-- a function's frame at a statement -/
structure Sg (cx : Fx) (m : Str → Option Value) (cv stk : List (Addr × Obj)) (ρ : Rho) (μ : List Addr) : Prop extends St W C d cx m cv stk ρ μ where
  fo : FrOk cx
  Ci : CellsIn cx cv
noncomputable def SS (t : Stmt) : Prop := ∀ (cx : Fx) (m : Str → Option Value) (cv stk : List (Addr × Obj)) (ρ : Rho) (μ : List Addr) (H : AH) (s : Shared) (Q : Flow → Shared → Prop) (E : Value → Shared → Prop), Sg W C d cx m cv stk ρ μ →
  Inv cx m cv stk μ H s.heap → SPost cx stk s μ Q E (ex P Φ (cS t cx.c) ρ H) → wpAny W.M cx.A (exec t cx.env) Q E s
noncomputable def SSs (ts : List Stmt) : Prop := ∀ (cx : Fx) (m : Str → Option Value) (cv stk : List (Addr × Obj)) (ρ : Rho) (μ : List Addr) (H : AH) (s : Shared) (Q : Flow → Shared → Prop) (E : Value → Shared → Prop), Sg W C d cx m cv stk ρ μ →
  Inv cx m cv stk μ H s.heap → SPost cx stk s μ Q E (exs P Φ (cSs ts cx.c) ρ H) → wpAny W.M cx.A (execs ts cx.env) Q E s
end

section
variable {W : Wd} {P : Pg} {Φ : Calls} {C : Addr} {d : Nat} {cx : Fx} {m : Str → Option Value} {cv st : List (Addr × Obj)} {μ : List Addr} {H : AH} {s : Shared} {E : Value → Shared → Prop} {ρ : Rho}

theorem FxOk.onSt {st' : List (Addr × Obj)} (ok : FxOk W d cx st) (fo : FrOk cx) : FxOk W d cx st' :=
  { ok with loc := by have := ok.loc; rw [fo.mc] at this ⊢; exact this }

theorem SPost.at {Q : Flow → Shared → Prop} {r : Res Fl} {μ' : List Addr} {h : Heap} {tk : Nat} (p : SPost cx st s μ Q E r) (hp : μ <+: μ') : SPost cx st { s with heap := h, toks := tk } μ' Q E r := by
  cases r with
  | ok fl H' =>
    cases fl with
    | next ρ' => exact fun h' tk' μ'' m' cv' hp' I V Ci => p h' tk' μ'' m' cv' (hp.trans hp') I V Ci
    | ret v => exact fun b h' tk' μ'' m' cv' hp' I Ci r => p b h' tk' μ'' m' cv' (hp.trans hp') I Ci r
  | stuck => exact p

/-- an expression, then the rest of a statement -/
theorem Sim.then {α β : Type} {R : List Addr → Heap → α → β → Prop} {M : Model} {μ₀ : List Addr} {t : Sem β} {r : AH → Res α} {g : α → AH → Res Fl} {Q : Flow → Shared → Prop} {k : β → Shared → Prop} (h : Sim M cx m cv st R μ₀ t r) (hμ : μ₀ <+: μ) (I : Inv cx m cv st μ H s.heap)
    (p : SPost cx st s μ Q E ((r H).bind g))
    (f : ∀ a b h₁ tk₁ μ₁ H₁, μ <+: μ₁ → Inv cx m cv st μ₁ H₁ h₁ → R μ₁ h₁ a b → r H = .ok a H₁ → SPost cx st { s with heap := h₁, toks := tk₁ } μ₁ Q E (g a H₁) → k b { s with heap := h₁, toks := tk₁ }) : wpAny M cx.A t k E s := by
  refine h μ H s k E hμ I ?_
  cases q : r H with
  | ok a H₁ =>
    rw [q] at p
    exact fun b h₁ tk₁ μ₁ hp I₁ r₁ => f a b h₁ tk₁ μ₁ H₁ hp I₁ r₁ q (SPost.at p hp)
  | stuck => rw [q] at p; exact p

theorem store_sound {x : Str} {i : Nat} {av : AV} {v : Value} {Q : Unit → Shared → Prop} (hs : slotOf cx.c x = some i) (ok : FxOk W d cx st) (fo : FrOk cx) (V : VarsOK cx m cv μ ρ) (Ci : CellsIn cx cv) (I : Inv cx m cv st μ H s.heap) (r : VRel μ av v)
    (k : ∀ h' tk m' cv', Inv cx m' cv' st μ H h' → VarsOK cx m' cv' μ (ρ.set i (some av)) → CellsIn cx cv' → Q () { s with heap := h', toks := tk }) : wpAny W.M cx.A (storeName cx.env x v) Q E s := by
  obtain ⟨hk, hi⟩ := slotOf_some hs
  have hlt : i < ρ.length := by rw [V.len]; exact ok.sl x i hi
  have set_ne : ∀ {y : Str} {j : Nat} {aw : AV}, y ≠ x → cx.c.slots.lookup y = some j → (ρ.set i (some av))[j]? = some (some aw) → ρ[j]? = some (some aw) := by
    intro y j aw hy hj hr
    have : i ≠ j := fun q => hy (fo.inj y x j hj (q ▸ hi))
    rwa [List.getElem?_set_ne this] at hr
  have set_eq : ∀ {j : Nat} {aw : AV}, cx.c.slots.lookup x = some j → (ρ.set i (some av))[j]? = some (some aw) → aw = av := by
    intro j aw hj hr
    rw [hi] at hj
    cases hj
    rw [List.getElem?_set_self hlt] at hr
    cases hr; rfl
  rcases hk with hk | hk
  · have L := ok.loc
    rw [fo.mc] at L
    dsimp only at L
    refine wpAny_storeName_local ((ok.kind x).trans hk) (by rw [L]; exact I.fr.ns) (fun h' hn hb => ?_) (by rw [ok.ek]; rfl)
    rw [L] at hn hb
    refine k h' _ _ cv (I.storeL hn hb) ⟨by simp [V.len], fun y j aw hy hj hr => ?_, fun y j aw hy hj hr => ?_⟩ Ci
    · unfold Fx.locOf
      rw [fo.mc]
      by_cases e : y = x
      · subst e
        have := set_eq hj hr
        subst this
        exact ⟨v, by simp, r⟩
      · obtain ⟨w, e1, e2⟩ := V.loc y j aw hy hj (set_ne e hj hr)
        unfold Fx.locOf at e1
        rw [fo.mc] at e1
        exact ⟨w, by simpa [e] using e1, e2⟩
    · have e : y ≠ x := fun q => by subst q; rw [hk] at hy; cases hy
      exact V.cel y j aw hy hj (set_ne e hj hr)
  · obtain ⟨c, hc⟩ := ok.ce x hk
    obtain ⟨o, ho⟩ := Ci x c hk hc
    obtain ⟨v₀, hv₀⟩ := I.cc _ ho
    refine wpAny_storeName_cell ok.ek ((ok.kind x).trans hk) hc ⟨o, (I.cvN _ ho).1, hv₀⟩ (fun h' hn hb => ?_)
    obtain ⟨o', ho', hd'⟩ := hn
    refine k h' s.toks m (setCell c o' cv) (I.storeC ho hb ho' hd') ⟨by simp [V.len], fun y j aw hy hj hr => ?_, fun y j aw hy hj hr => ?_⟩ (fun y cy hy hcy => ?_)
    · have e : y ≠ x := fun q => by subst q; rw [hk] at hy; cases hy
      exact V.loc y j aw hy hj (set_ne e hj hr)
    · by_cases e : y = x
      · subst e
        have := set_eq hj hr
        subst this
        exact ⟨c, o', v, hc, mem_setCell_at ho, hd', r⟩
      · obtain ⟨c2, o2, w, e1, e2, e3, e4⟩ := V.cel y j aw hy hj (set_ne e hj hr)
        refine ⟨c2, o2, w, e1, mem_setCell e2 (fun q => ?_), e3, e4⟩
        dsimp only at q
        subst q
        exact e (fo.cd y x _ hy hk e1 hc)
    · by_cases e : cy = c
      · subst e; exact ⟨o', mem_setCell_at ho⟩
      · obtain ⟨o2, h2⟩ := Ci y cy hy hcy
        exact ⟨o2, mem_setCell h2 e⟩
end
end Mine

/-! ## part C23 -/
namespace Mine
open PySem PySem.W PyProof.Rows

section
variable {W : Wd} {P : Pg} {Φ : Calls} {C : Addr} {d : Nat}

theorem SS.bad {t : Stmt} (h : ∀ c, cS t c = .bad) : SS W P Φ C d t := fun cx m cv stk ρ μ H s Q E _ _ p => by
  rw [h] at p; exact p.elim
theorem SPost.orS {cx : Fx} {stk : List (Addr × Obj)} {s : Shared} {μ : List Addr} {Q : Flow → Shared → Prop} {E : Value → Shared → Prop} {ω : Type} {o : Option ω} {k : ω → MS} {ρ : Rho} {H : AH} (p : SPost cx stk s μ Q E (ex P Φ (orBadS o k) ρ H)) : ∃ a, o = some a ∧ SPost cx stk s μ Q E (ex P Φ (k a) ρ H) := by
  cases o with
  | none => exact p.elim
  | some a => exact ⟨a, rfl, p⟩
theorem SPost.opt {cx : Fx} {stk : List (Addr × Obj)} {s : Shared} {μ : List Addr} {Q : Flow → Shared → Prop} {E : Value → Shared → Prop} {ω : Type} {o : Option ω} {k : ω → Res Fl} (p : SPost cx stk s μ Q E (optR o k)) : ∃ a, o = some a ∧ SPost cx stk s μ Q E (k a) := by
  cases o with
  | none => exact p.elim
  | some a => exact ⟨a, rfl, p⟩

theorem swaps_name {value : Expr} {x : Str} {px : Pos} {n : Nat} {env : Env} : (∃ b, swapsWith value (some (.Name x px)) n env = pure b ∧ (b = true → ∃ elt gens sc pos, value = .ListComp elt gens sc pos)) ∨ ∀ c, cE value c = .bad := by
  cases value with
  | ListComp elt gens sc pos => exact .inl ⟨_, rfl, fun _ => ⟨_, _, _, _, rfl⟩⟩
  | SetComp => exact .inr fun c => rfl
  | DictComp => exact .inr fun c => rfl
  | _ => exact .inl ⟨false, rfl, fun h => by cases h⟩

theorem assign_SS {x : Str} {px : Pos} {value : Expr} {pos : Pos} (ha : ∀ e, S3 W P Φ C d e) : SS W P Φ C d (.Assign [.Name x px] value pos) := by
  intro cx m cv stk ρ μ H s Q E T I p
  obtain ⟨i, hs, p⟩ := SPost.orS (o := slotOf cx.c x) (k := fun i => .assign i (cE value cx.c)) p
  replace p : SPost cx stk s μ Q E ((ev P Φ (cE value cx.c) ρ H).bind fun v H₁ => .ok (.next (ρ.set i (some v))) H₁) := p
  rcases swaps_name (value := value) (x := x) (px := px) (n := pos.line) (env := cx.env) with ⟨b, hb, hcase⟩ | hbad
  · cases b with
    | false =>
      refine wpAny_Assign_Name (((ha value).E cx m cv stk ρ μ T.toSt).then (pfx _) I p fun a b h₁ tk₁ μ₁ H₁ hp I₁ r₁ _ p₁ => ?_) hb
      refine store_sound hs T.ok T.fo (T.V.mono hp) T.Ci I₁ r₁ fun h' tk m' cv' I' V' Ci' => ?_
      exact p₁ h' tk μ₁ m' cv' (pfx _) I' V' Ci'
    | true =>
      obtain ⟨elt, gens, sc, vpos, rfl⟩ := hcase rfl
      rw [exec_Assign_Name_used _ _ _ _ hb]
      rw [compRes_ev, bind_bind] at p
      refine wpAny_bind (wpAny_standAt (wpAny_bind ?_))
      show wpAny _ _ (do let _ ← comprehension (.ListComp elt gens sc vpos) sc cx.env (firstIterPos gens vpos) (newList []) (firstAsync gens) (firstIter gens cx.env) (some (assign (.Name x px) cx.env))) _ _ s
      refine wpAny_bind (wpAny_mono (comp_case (use := some (assign (.Name x px) cx.env)) (Q := fun _ s' => Q .next s') (ha elt) (fun g _ => ⟨ha _, fun e _ => ha e⟩) T.toSt (pfx _) I fun Ca D sC => ?_) (fun _ s' hq => wpAny_pure (wpAny_pure hq)) fun _ _ e => e)
      cases q : compRes P Φ cx.c elt gens sc ρ H with
      | stuck => rw [q] at p; exact p
      | ok xs H' =>
        rw [q] at p
        intro h' tk μ' oC es ep hp I' hd hk
        show wpAny _ _ (assign (.Name x px) cx.env (.ref D)) _ _ _
        have hr : VRel (μ' ++ [D]) (.ref H'.length) (.ref D) := .ref (by
          have := I'.len
          simp only [List.length_append, List.length_singleton, Nat.add_right_cancel_iff] at this
          rw [← this]; simp)
        have hp' : μ <+: μ' ++ [D] := hp.trans (List.prefix_append _ _)
        refine wpAny_assign_Name (store_sound (st := (Ca, oC) :: stk) hs (T.ok.onSt T.fo) T.fo (T.V.mono hp') T.Ci I' hr fun h₂ tk₂ m' cv' I₂ V₂ Ci₂ => ?_)
        refine ⟨_, ⟨oC, es, ep, (I₂.stN _ (.head _)).1, hd, hk, fun _ => rfl⟩, fun h₃ hs₃ => ?_⟩
        exact p h₃ tk₂ (μ' ++ [D]) m' cv' hp' (I₂.goneSt (fun b q hb e => (hs₃.2 b hb).trans e) sC) V₂ Ci₂
  · rw [hbad] at p; exact p.elim

theorem setitem_SS {o i value : Expr} {ps pos : Pos} (ha : ∀ e, S3 W P Φ C d e) : SS W P Φ C d (.Assign [.Subscript o i ps] value pos) := by
  intro cx m cv stk ρ μ H s Q E T I p
  replace p : SPost cx stk s μ Q E (ex P Φ (if isSlice i then .bad else .setItem (cE o cx.c) (cE i cx.c) (cE value cx.c)) ρ H) := p
  split at p
  · exact p.elim
  · have hsw : swapsWith value (some (.Subscript o i ps)) pos.line cx.env = pure false := by cases value <;> rfl
    refine wpAny_Assign_Subscript (((ha value).E cx m cv stk ρ μ T.toSt).then (pfx _) I p fun a b h₁ tk₁ μ₁ H₁ hp₁ I₁ r₁ _ p₁ => ?_) hsw
    refine ((ha o).E cx m cv stk ρ μ T.toSt).then hp₁ I₁ p₁ fun a₂ b₂ h₂ tk₂ μ₂ H₂ hp₂ I₂ r₂ _ p₂ => ?_
    refine ((ha i).E cx m cv stk ρ μ T.toSt).then (hp₁.trans hp₂) I₂ p₂ fun a₃ b₃ h₃ tk₃ μ₃ H₃ hp₃ I₃ r₃ _ p₃ => ?_
    refine setItem_sound (Q := fun _ => Q .next) I₃ (r₂.mono hp₃) r₃ ((r₁.mono hp₂).mono hp₃) ?_
    cases q : setItemA a₂ a₃ a H₃ with
    | stuck => rw [q] at p₃; exact p₃
    | ok u H' =>
      rw [q] at p₃
      exact fun b h' tk μ' hp' I' _ => p₃ h' tk μ' m cv hp' I' (T.V.mono (((hp₁.trans hp₂).trans hp₃).trans hp')) T.Ci

theorem expr_SS {e : Expr} {pos : Pos} (ha : ∀ e, S3 W P Φ C d e) : SS W P Φ C d (.Expr e pos) := by
  intro cx m cv stk ρ μ H s Q E T I p
  replace p : SPost cx stk s μ Q E (ex P Φ (if isComp e then .bad else .expr (cE e cx.c)) ρ H) := p
  split at p
  · exact p.elim
  · rename_i hnc
    have hi : interactive cx.env = false := by unfold interactive; rw [T.ok.ek]; rfl
    by_cases hsw : swapsWith e none pos.line cx.env = pure false
    · rw [exec_Expr cx.env e pos hi hsw]
      refine wpAny_bind (wpAny_standAt (wpAny_bind (((ha e).E cx m cv stk ρ μ T.toSt).then (pfx _) I p fun a b h₁ tk₁ μ₁ H₁ hp₁ I₁ r₁ _ p₁ => ?_)))
      exact wpAny_dropValue (p₁ h₁ tk₁ μ₁ m cv (pfx _) I₁ (T.V.mono hp₁) T.Ci)
    · have hb : ∀ c, cE e c = .bad := fun c => by
        cases e <;> first | (exact absurd rfl hsw) | (exact absurd rfl hnc) | rfl
      rw [hb] at p; exact p.elim

theorem return_SS {v : Option Expr} {pos : Pos} (ha : ∀ e, S3 W P Φ C d e) : SS W P Φ C d (.Return v pos) := by
  intro cx m cv stk ρ μ H s Q E T I p
  cases v with
  | none => exact wpAny_Return_none (p .none s.heap s.toks μ m cv (pfx _) I T.Ci .none)
  | some e =>
    refine wpAny_Return_some (((ha e).E cx m cv stk ρ μ T.toSt).then (pfx _) I p fun a b h₁ tk₁ μ₁ H₁ hp₁ I₁ r₁ _ p₁ => ?_)
    exact p₁ b h₁ tk₁ μ₁ m cv (pfx _) I₁ T.Ci r₁

theorem Sg.mono {cx : Fx} {m : Str → Option Value} {cv stk : List (Addr × Obj)} {ρ : Rho} {μ μ' : List Addr} (T : Sg W C d cx m cv stk ρ μ) (hp : μ <+: μ') : Sg W C d cx m cv stk ρ μ' := ⟨⟨T.c, T.ok, T.V.mono hp, T.hh⟩, T.fo, T.Ci⟩
theorem if_SS {t : Expr} {a b : List Stmt} {pos : Pos} (ha : ∀ e, S3 W P Φ C d e) (h1 : SSs W P Φ C d a) (h2 : SSs W P Φ C d b) : SS W P Φ C d (.If t a b pos) := by
  intro cx m cv stk ρ μ H s Q E T I p
  refine wpAny_If (((ha t).B cx m cv stk ρ μ T.toSt).then (pfx _) I p fun x y h₁ tk₁ μ₁ H₁ hp₁ I₁ r₁ _ p₁ => ?_)
  cases r₁
  cases x with
  | true => exact h1 cx m cv stk ρ μ₁ H₁ _ Q E (T.mono hp₁) I₁ p₁
  | false => exact h2 cx m cv stk ρ μ₁ H₁ _ Q E (T.mono hp₁) I₁ p₁

theorem nil_SSs : SSs W P Φ C d [] := fun cx m cv stk ρ μ H s Q E T I p => wpAny_execs_nil (p s.heap s.toks μ m cv (pfx _) I T.V T.Ci)
theorem Sg.new {cx : Fx} {m m' : Str → Option Value} {cv cv' stk stk' : List (Addr × Obj)} {ρ ρ' : Rho} {μ μ' : List Addr} (T : Sg W C d cx m cv stk ρ μ) (V : VarsOK cx m' cv' μ' ρ') (Ci : CellsIn cx cv') : Sg W C d cx m' cv' stk' ρ' μ' := ⟨⟨T.c, T.ok.onSt T.fo, V, T.hh⟩, T.fo, Ci⟩
theorem cons_SSs {t : Stmt} {r : List Stmt} (h1 : SS W P Φ C d t) (h2 : SSs W P Φ C d r) : SSs W P Φ C d (t :: r) := by
  intro cx m cv stk ρ μ H s Q E T I p
  refine wpAny_execs_cons (h1 cx m cv stk ρ μ H s _ E T I ?_)
  replace p : SPost cx stk s μ Q E ((ex P Φ (cS t cx.c) ρ H).bind fun fl H₁ => match fl with | .next ρ' => exs P Φ (cSs r cx.c) ρ' H₁ | .ret v => .ok (.ret v) H₁) := p
  cases q : ex P Φ (cS t cx.c) ρ H with
  | stuck => rw [q] at p; exact p
  | ok fl H₁ =>
    rw [q] at p
    cases fl with
    | next ρ' => exact fun h' tk μ' m' cv' hp I' V' Ci' => h2 cx m' cv' stk ρ' μ' H₁ _ Q E (T.new V' Ci') I' (SPost.at p hp)
    | ret v => exact fun b h' tk μ' m' cv' hp I' Ci' r => p b h' tk μ' m' cv' hp I' Ci' r

inductive ForI (cx : Fx) (stk : List (Addr × Obj)) (s : Shared) (μ : List Addr) (it : It) (J : Addr) (R : Nat → Nat → Rho → AH → Prop) (n : Nat) (s' : Shared) : Prop
  | mk (k : Nat) (ρ' : Rho) (m' : Str → Option Value) (cv' : List (Addr × Obj)) (o : Obj) (μ' : List Addr) (H' : AH) (h' : Heap) (tk : Nat) (e1 : s' = { s with heap := h', toks := tk }) (hk : k + n = it.len) (hp : μ <+: μ')
    (I : Inv cx m' cv' ((J, o) :: stk) μ' H' h') (hi : ItO μ' o it k) (V : VarsOK cx m' cv' μ' ρ') (Ci : CellsIn cx cv') (p : R n k ρ' H') : ForI cx stk s μ it J R n s'
theorem for_SS {x : Str} {px : Pos} {iter : Expr} {body : List Stmt} {pos : Pos} (ha : ∀ e, S3 W P Φ C d e) (h1 : SSs W P Φ C d body) : SS W P Φ C d (.For (.Name x px) iter body [] pos) := by
  intro cx m cv stk ρ μ H s Q E T I p
  obtain ⟨i, hs, p⟩ := SPost.orS (o := slotOf cx.c x) (k := fun i => .for_ i (mkI (cE iter cx.c)) (cSs body cx.c)) p
  by_cases hset : ∀ x, foldedSetIterable iter cx.env x = pure x
  · refine wpAny_For (((ha iter).I cx m cv stk ρ μ T.toSt).then (pfx _) I p fun it b h₁ tk₁ μ₁ H₁ hp₁ I₁ r₁ q p₁ => ?_) hset
    obtain ⟨_, ys, hy⟩ := evI_facts q
    refine iter_sound I₁ r₁ hy fun J o h₂ hi I₂ sJ _ => ?_
    refine codeAny_forLoop_any (fun n s' => ForI cx stk s μ₁ it J (fun n k ρ' H' => SPost cx stk s μ₁ Q E (loopA it i (exs P Φ (cSs body cx.c)) n k ρ' H')) n s') ?_ it.len
      ⟨0, ρ, m, cv, o, μ₁, H₁, h₂, tk₁, rfl, Nat.zero_add _, pfx _, I₂, hi, T.V.mono hp₁, T.Ci, p₁⟩
    rintro n s' ⟨k, ρ', m', cv', o', μ', H', h', tk, rfl, hk, hp, I', hi', V', Ci', p'⟩
    cases n with
    | zero =>
      obtain ⟨ys, he, p₂⟩ := SPost.opt (o := it.all H') (k := fun _ => .ok (.next ρ') H') p'
      clear p'
      have hk' : k = it.len := hk
      subst hk'
      refine next_end T.hh I' sJ hi' he fun h₃ I₃ => ?_
      exact wpAny_execs_nil (p₂ h₃ tk μ' m' cv' hp I₃ V' Ci')
    | succ n =>
      obtain ⟨v, hget, p'⟩ := SPost.opt (o := (it.all H').bind (·[k]?)) (k := fun v => (exs P Φ (cSs body cx.c) (ρ'.set i (some v)) H').bind fun fl H' => match fl with | .next ρ' => loopA it i (exs P Φ (cSs body cx.c)) n (k + 1) ρ' H' | .ret v => .ok (.ret v) H') p'
      refine next_item I' sJ hi' hget fun b o₁ h₃ tk₃ hi₃ I₃ rv => ?_
      show wpAny _ _ (letOwnedTupleGo (.Name x px) _ b) _ _ _
      refine wpAny_pure ?_
      refine wpAny_assign_Name (store_sound hs (T.ok.onSt T.fo) T.fo V' Ci' I₃ rv fun h₄ tk₄ m₄ cv₄ I₄ V₄ Ci₄ => ?_)
      refine h1 cx m₄ cv₄ ((J, o₁) :: stk) (ρ'.set i (some v)) μ' H' _ _ _ (T.new V₄ Ci₄) I₄ ?_
      cases q : exs P Φ (cSs body cx.c) (ρ'.set i (some v)) H' with
      | stuck => rw [q] at p'; exact p'
      | ok fl H₅ =>
        rw [q] at p'
        cases fl with
        | next ρ₅ =>
          intro h₅ tk₅ μ₅ m₅ cv₅ hp₅ I₅ V₅ Ci₅
          exact ⟨n, Nat.lt_succ_self _, k + 1, ρ₅, m₅, cv₅, o₁, μ₅, H₅, h₅, tk₅, rfl, by decreasing_trivial, hp.trans hp₅, I₅, hi₃.mono hp₅, V₅, Ci₅, p'⟩
        | ret w =>
          intro b₅ h₅ tk₅ μ₅ m₅ cv₅ hp₅ I₅ Ci₅ r₅
          exact p' b₅ h₅ tk₅ μ₅ m₅ cv₅ (hp.trans hp₅) (I₅.lessSt fun p hp => .tail _ hp) Ci₅ r₅
  · have hb : ∀ c, cE iter c = .bad := fun c => by
      cases iter <;> first | (exact absurd (fun _ => rfl) hset) | rfl
    replace p : SPost cx stk s μ Q E ((evI P Φ (mkI (cE iter cx.c)) ρ H).bind fun t H₁ => loopA t i (exs P Φ (cSs body cx.c)) t.len 0 ρ H₁) := p
    rw [hb] at p; exact p.elim

theorem asg_SS (ha : ∀ e, S3 W P Φ C d e) {ts : List Expr} {v : Expr} {pos : Pos} : SS W P Φ C d (.Assign ts v pos) := by
  cases ht : one1 ts with
  | none => exact .bad fun c => by show orBadS (one1 ts) _ = _; rw [ht]; rfl
  | some t =>
    obtain rfl := one1_some ht
    cases t with
    | Name x px => exact assign_SS ha
    | Subscript o i ps => exact setitem_SS ha
    | _ => exact .bad fun c => rfl
theorem loop_SS (ha : ∀ e, S3 W P Φ C d e) {t it : Expr} {body e : List Stmt} {pos : Pos} (hb : SSs W P Φ C d body) : SS W P Φ C d (.For t it body e pos) := by
  cases e with
  | cons a b => exact .bad fun c => rfl
  | nil =>
    cases hn : nameIn t with
    | none => exact .bad fun c => by show orBadS ((nameIn t).bind (slotOf c)) _ = _; rw [hn]; rfl
    | some x =>
      obtain ⟨px, rfl⟩ := nameIn_some hn
      exact for_SS ha hb
theorem raise1_ex {c : Cx} {e : Expr} {ρ : Rho} {H : AH} : ex P Φ (raise1 c e) ρ H = .stuck := by
  cases e with
  | Call f args kws _ =>
    show ex P Φ (if kws.isEmpty && strArg args then orBadS (nameIn f) fun t => if c.global t then .raise t else .bad else .bad) ρ H = _
    split
    · cases nameIn f with
      | none => rfl
      | some t =>
        show ex P Φ (if c.global t then .raise t else .bad) ρ H = _
        split <;> rfl
    · rfl
  | _ => rfl
theorem raise_SS {e f : Option Expr} {pos : Pos} : SS W P Φ C d (.Raise e f pos) := by
  intro cx m cv stk ρ μ H s Q E T I p
  cases f with
  | some _ => exact p.elim
  | none =>
    obtain ⟨e', _, p₂⟩ := SPost.orS (o := e) (k := raise1 cx.c) p
    rw [raise1_ex] at p₂; exact p₂.elim

mutual
theorem all5 (ha : ∀ e, S3 W P Φ C d e) : (t : Stmt) → SS W P Φ C d t
  | .Assign .. => asg_SS ha
  | .Expr .. => expr_SS ha
  | .Return .. => return_SS ha
  | .If _ a b _ => if_SS ha (all5s ha a) (all5s ha b)
  | .For _ _ body _ _ => loop_SS ha (all5s ha body)
  | .Raise .. => raise_SS
  | .Try .. => .bad fun _ => rfl
  | .FunctionDef .. => .bad fun _ => rfl
  | .AsyncFunctionDef .. => .bad fun _ => rfl
  | .ClassDef .. => .bad fun _ => rfl
  | .Delete .. => .bad fun _ => rfl
  | .TypeAlias .. => .bad fun _ => rfl
  | .AugAssign .. => .bad fun _ => rfl
  | .AnnAssign .. => .bad fun _ => rfl
  | .AsyncFor .. => .bad fun _ => rfl
  | .While .. => .bad fun _ => rfl
  | .With .. => .bad fun _ => rfl
  | .AsyncWith .. => .bad fun _ => rfl
  | .Match .. => .bad fun _ => rfl
  | .TryStar .. => .bad fun _ => rfl
  | .Assert .. => .bad fun _ => rfl
  | .Import .. => .bad fun _ => rfl
  | .ImportFrom .. => .bad fun _ => rfl
  | .Global .. => .bad fun _ => rfl
  | .Nonlocal .. => .bad fun _ => rfl
  | .Pass .. => .bad fun _ => rfl
  | .Break .. => .bad fun _ => rfl
  | .Continue .. => .bad fun _ => rfl
theorem all5s (ha : ∀ e, S3 W P Φ C d e) : (ts : List Stmt) → SSs W P Φ C d ts
  | [] => nil_SSs
  | t :: r => cons_SSs (all5 ha t) (all5s ha r)
end
end
end Mine

/-! ## part C24 -/
namespace Mine
open PySem PySem.W PyProof.Rows

theorem zip_lookup {α β : Type} [BEq α] [LawfulBEq α] : ∀ (ns : List α) (vs : List β), ns.Nodup → ns.length = vs.length → ∀ (i : Nat) (n : α) (v : β), ns[i]? = some n → vs[i]? = some v → (ns.zip vs).lookup n = some v
  | [], _, _, _, i, n, v, e, _ => by simp at e
  | a :: ns, [], _, h, _, _, _, _, _ => by simp at h
  | a :: ns, b :: vs, hn, h, i, n, v, e1, e2 => by
    rw [List.zip_cons_cons, List.lookup_cons]
    cases i with
    | zero => simp at e1 e2; subst e1; subst e2; simp
    | succ i =>
      simp at e1 e2 h
      have hne : n ≠ a := fun q => by
        subst q
        exact (List.nodup_cons.mp hn).1 (List.mem_of_getElem? e1)
      have : (n == a) = false := by simpa using hne
      rw [this]
      exact zip_lookup ns vs (List.nodup_cons.mp hn).2 h i n v e1 e2
theorem zip_filterMap {α β : Type} [BEq α] [LawfulBEq α] (ns : List α) (vs : List β) (hn : ns.Nodup) (h : ns.length = vs.length) : (ns.filterMap fun n => ((ns.zip vs).lookup n).map (n, ·)) = ns.zip vs := by
  suffices k : ∀ (ms : List α) (ws : List β) (j : Nat), ms = ns.drop j → ws = vs.drop j → (ms.filterMap fun n => ((ns.zip vs).lookup n).map (n, ·)) = ms.zip ws by
    have := k ns vs 0 (by simp) (by simp); exact this
  intro ms
  induction ms with
  | nil => intro ws j e1 e2; simp
  | cons a ms ih =>
    intro ws j e1 e2
    have ha : ns[j]? = some a := by have := congrArg (fun l => l[0]?) e1; simpa using this.symm
    have hj := (List.getElem?_eq_some_iff.mp ha).1
    have hb : vs[j]? = some vs[j] := List.getElem?_eq_getElem (h ▸ hj)
    have hw : ws = vs[j] :: vs.drop (j + 1) := by rw [e2]; exact List.drop_eq_getElem_cons (h ▸ hj)
    have hm : ms = ns.drop (j + 1) := by
      rw [List.drop_eq_getElem_cons hj] at e1
      exact (List.cons.inj e1).2
    rw [hw, List.zip_cons_cons, List.filterMap_cons, zip_lookup ns vs hn h j a _ ha hb]
    simp only [Option.map_some]
    rw [ih _ (j + 1) hm rfl]

theorem binds_plain {name qual : Str} {params : Arguments} {body : List Stmt} {scope : Scope} {doc pm cdv ct : Value} {an : Option Addr} {vs : List Value} (hp : plainParams params = true) (hn : (params.args.map (·.arg)).Nodup) (hl : params.args.length = vs.length) :
    bindArgs (fnOf name qual params body scope .none .none doc pm an cdv ct) ⟨vs, []⟩ = pure ((params.args.map (·.arg)).zip vs) := by
  obtain ⟨po, ar, va, ko, kd, kw, df⟩ := params
  simp only [plainParams, Bool.and_eq_true, List.isEmpty_iff, Option.isNone_iff_eq_none] at hp
  obtain ⟨⟨⟨⟨⟨rfl, rfl⟩, rfl⟩, rfl⟩, rfl⟩, rfl⟩ := hp
  dsimp only at hn hl ⊢
  have hz : (ar.map (·.arg)).length = vs.length := by simpa using hl
  have lk : ∀ n ∈ ar.map (·.arg), (((ar.map (·.arg)).zip vs).lookup n).isNone = false := fun n hn' => by
    obtain ⟨i, hi, e⟩ := List.mem_iff_getElem.mp hn'
    rw [zip_lookup _ vs hn hz i n vs[i] (by rw [List.getElem?_eq_getElem hi, e]) (List.getElem?_eq_getElem (hz ▸ hi))]; rfl
  have hm : ((ar.map (·.arg)).filter fun n => (((ar.map (·.arg)).zip vs).lookup n).isNone) = [] := by
    rw [List.filter_eq_nil_iff]; intro n hn'; rw [lk n hn']; decide
  have hs : seqItems? Value.none = pure none := rfl
  unfold bindArgs
  dsimp only
  simp only [List.map_nil, List.nil_append, List.append_nil, hs, pure_bind, List.forIn_nil, List.length_map, hl, gt_iff_lt, Nat.lt_irrefl, decide_false, Bool.false_and, Bool.false_eq_true, if_false, Option.getD_none, List.toList_toArray, List.length_nil, List.drop_nil, Nat.zero_sub, Nat.sub_zero]
  have ht : List.take vs.length (ar.map (·.arg)) = ar.map (·.arg) := List.take_of_length_le (by rw [hz]; exact Nat.le_refl _)
  rw [ht, hm]
  simp only [List.isEmpty_nil, Bool.not_true, Bool.false_eq_true, if_false, List.zip_nil_right, List.forIn_nil, pure_bind]
  rw [zip_filterMap _ vs hn hz]
end Mine

/-! ## part C25 -/
namespace Mine
open PySem PySem.W PyProof.Rows

/-! all that is new above a frame's ground -/
noncomputable def newsOf (h₀ h : Heap) (L : Addr) : List (Addr × Obj) := (List.range h.objs.size).filterMap fun a => match h.get? a with
  | some o => if (h₀.get? a).isNone && a != L then some (a, o) else none
  | none => none
theorem newsOf_News {h₀ h : Heap} {L : Addr} : News h₀ L h (newsOf h₀ h L) := by
  intro p hp
  obtain ⟨a, _, e⟩ := List.mem_filterMap.mp hp
  split at e
  · rename_i o q
    split at e
    · rename_i c
      cases e
      simp only [Bool.and_eq_true, bne_iff_ne, ne_eq, Option.isNone_iff_eq_none] at c
      exact ⟨q, c.2, c.1⟩
    · cases e
  · cases e
theorem newsOf_mem {h₀ h : Heap} {L a : Addr} {o : Obj} (e : h.get? a = some o) (h0 : h₀.get? a = none) (hL : a ≠ L) : (a, o) ∈ newsOf h₀ h L := by
  refine List.mem_filterMap.mpr ⟨a, List.mem_range.mpr (Heap.lt_size e), ?_⟩
  rw [e]
  simp [h0, hL]

section
variable {cx : Fx} {m m' : Str → Option Value} {cv st cells : List (Addr × Obj)} {μ : List Addr} {H : AH} {h h₁ g : Heap} {L' : Addr}

structure Ground (cx : Fx) (m m' : Str → Option Value) (cells : List (Addr × Obj)) (h g h₁ : Heap) (L' : Addr) : Prop where
  FG : Fr cx.h₀ cx.L g m
  F : Fr g L' h₁ m'
  N : News g L' h₁ (cells ++ newsOf cx.h₀ h cx.L)
  st : cx.h₀.StaysIn g
  lt : ∀ p ∈ newsOf cx.h₀ h cx.L, p.1 < L'
  ge : ∀ p ∈ cells, L' < p.1
  cc : ∀ p ∈ cells, ∃ v, p.2.data = .cell v

/-- what stood, but the caller's own names, stands -/
theorem Ground.old (G : Ground cx m m' cells h g h₁ L') (F₀ : Fr cx.h₀ cx.L h m) {a : Addr} {o : Obj} (e : h.get? a = some o) (ha : a ≠ cx.L) : h₁.get? a = some o ∧ a < L' := by
  cases q : cx.h₀.get? a with
  | some o' =>
    have e' := F₀.keep a o' q
    rw [e] at e'
    cases e'
    exact ⟨G.F.keep _ _ (G.st a o q), Nat.lt_of_lt_of_le (Heap.lt_size (G.st a o q)) G.F.above⟩
  | none =>
    have hm := newsOf_mem e q ha
    exact ⟨(G.N _ (List.mem_append_right _ hm)).1, G.lt _ hm⟩
theorem Ground.Llt (G : Ground cx m m' cells h g h₁ L') : cx.L < L' := by
  obtain ⟨o, _, _, e, _⟩ := G.FG.ns
  exact Nat.lt_of_lt_of_le (Heap.lt_size e) G.F.above
theorem Ground.newL (G : Ground cx m m' cells h g h₁ L') (F₀ : Fr cx.h₀ cx.L h m) : h.get? L' = none := by
  cases q : h.get? L' with
  | none => rfl
  | some o =>
    by_cases e : L' = cx.L
    · have := G.Llt; rw [e] at this; exact absurd this (Nat.lt_irrefl _)
    · exact absurd (G.old F₀ q e).2 (Nat.lt_irrefl _)

/-- into a callee's frame -/
theorem Inv.enter {cx' : Fx} (I : Inv cx m cv st μ H h) (G : Ground cx m m' cells h g h₁ L') (h0 : cx'.h₀ = g) (hL : cx'.L = L') (hC : cx'.C = cx.C) (hA : cx'.av = cx.L :: cx.av) : Inv cx' m' cells (cv ++ st) μ H h₁ := by
  have lt : ∀ a ∈ μ, a < L' := fun a ha => by
    obtain ⟨o, e⟩ := I.old ha
    exact (G.old I.fr e (fun q => I.muL (q ▸ ha))).2
  have up : ∀ p ∈ cv ++ st, p ∈ newsOf cx.h₀ h cx.L := fun p hp => by
    rcases List.mem_append.mp hp with hp | hp
    · exact newsOf_mem (I.cvN p hp).1 (I.cvN p hp).2.2 (I.cvN p hp).2.1
    · exact newsOf_mem (I.stN p hp).1 (I.stN p hp).2.2 (I.stN p hp).2.1
  refine { fr := by rw [h0, hL]; exact G.F, cvN := ?_, stN := ?_, cm := fun p hp q => ?_, sm := fun p hp q => ?_, cs := fun p hp q hq e => ?_, cc := G.cc, nd := I.nd, len := I.len, obj := fun i o a e1 e2 => ?_, mtb := fun i xs a e1 e2 => ?_, muL := ?_, avm := ?_, avh := ?_ }
  · rw [h0, hL]; exact fun p hp => G.N p (List.mem_append_left _ hp)
  · rw [h0, hL]; exact fun p hp => G.N p (List.mem_append_right _ (up p hp))
  · exact absurd (Nat.lt_trans (lt _ q) (G.ge p hp)) (Nat.lt_irrefl _)
  · rcases List.mem_append.mp hp with hp | hp
    · exact I.cm p hp q
    · exact I.sm p hp q
  · have := G.lt q (up q hq)
    rw [← e] at this
    exact absurd (Nat.lt_trans this (G.ge p hp)) (Nat.lt_irrefl _)
  · rw [hL, hC, hA]
    have O := (I.obj i o a e1 e2).turn (Ls' := L' :: cx.L :: cx.av) (st' := cv ++ st) (fun l hl => ?_) (fun p hp => ?_)
    · exact O.but (z := cx.L) (fun b q hb e => (G.old I.fr e hb).1) (fun q => I.muL (q ▸ List.mem_of_getElem? e2)) (.inl (.tail _ (.head _)))
    · rcases List.mem_cons.mp hl with rfl | hl
      · exact .inr fun es n q => by rw [G.newL I.fr] at q; cases q
      · exact .inl hl
    · rcases List.mem_append.mp hp with hp | hp
      · refine .inr fun es n q => ?_
        obtain ⟨v, hv⟩ := I.cc p hp
        rw [(I.cvN p hp).1] at q
        have := Option.some.inj q
        rw [this] at hv; cases hv
      · exact .inl hp
  · rw [h0, hL]
    obtain ⟨n1, n2⟩ := I.mtb i xs a e1 e2
    obtain ⟨o, e⟩ := I.old (List.mem_of_getElem? e2)
    have := G.N _ (List.mem_append_right _ (newsOf_mem e n1 n2))
    exact ⟨this.2.2, this.2.1⟩
  · rw [hL]; exact fun q => absurd (lt _ q) (Nat.lt_irrefl _)
  · rw [hA]
    intro a ha q
    rcases List.mem_cons.mp ha with rfl | ha
    · exact I.muL q
    · exact I.avm a ha q
  · rw [hA, h0]
    intro a ha
    rcases List.mem_cons.mp ha with rfl | ha
    · obtain ⟨o, _, _, e, _⟩ := G.FG.ns; exact ⟨o, e⟩
    · obtain ⟨o, e⟩ := I.avh a ha; exact ⟨o, G.st _ _ e⟩

/-- out of a callee's frame -/
theorem Inv.leave {cx' : Fx} {m'' : Str → Option Value} {cv'' : List (Addr × Obj)} {μ' : List Addr} {H' : AH} {h' : Heap} (I : Inv cx m cv st μ H h) (FG : Fr cx.h₀ cx.L g m) (hst : cx.h₀.StaysIn g) (J : Inv cx' m'' cv'' (cv ++ st) μ' H' h')
    (h0 : cx'.h₀ = g) (hC : cx'.C = cx.C) (hA : cx'.av = cx.L :: cx.av) (F : Fr cx.h₀ cx.L h' m) (N : News cx.h₀ cx.L h' (cv ++ st)) : Inv cx m cv st μ' H' h' := by
  refine { fr := F, cvN := fun p hp => N p (List.mem_append_left _ hp), stN := fun p hp => N p (List.mem_append_right _ hp), cm := fun p hp => J.sm p (List.mem_append_left _ hp), sm := fun p hp => J.sm p (List.mem_append_right _ hp), cs := I.cs, cc := I.cc, nd := J.nd, len := J.len, obj := fun i o a e1 e2 => ?_, mtb := fun i xs a e1 e2 => ?_, muL := ?_, avm := fun a ha => ?_, avh := I.avh }
  · have O := J.obj i o a e1 e2
    rw [hC, hA] at O
    exact O.turn (fun l hl => .inl (.tail _ hl)) fun p hp => .inl (List.mem_append_right _ hp)
  · obtain ⟨n1, n2⟩ := J.mtb i xs a e1 e2
    rw [h0] at n1
    constructor
    · cases q : cx.h₀.get? a with
      | none => rfl
      | some o => rw [hst _ _ q] at n1; cases n1
    · rintro rfl
      obtain ⟨o, _, _, e, _⟩ := FG.ns
      rw [e] at n1; cases n1
  · exact J.avm _ (by rw [hA]; exact .head _)
  · exact J.avm _ (by rw [hA]; exact .tail _ ha)
end

/-! slots, cells, binds -/
theorem slots_get : ∀ (names : List (Str × NameKind)) (k j : Nat) (p : Str × Nat), (slotsFrom names k)[j]? = some p → p.2 = k + j
  | [], _, _, _, h => by simp [slotsFrom] at h
  | (x, .local) :: r, k, 0, p, h => by simp [slotsFrom] at h; subst h; rfl
  | (x, .local) :: r, k, j + 1, p, h => by simp [slotsFrom] at h; have := slots_get r (k + 1) j p h; decreasing_trivial
  | (x, .cell) :: r, k, 0, p, h => by simp [slotsFrom] at h; subst h; rfl
  | (x, .cell) :: r, k, j + 1, p, h => by simp [slotsFrom] at h; have := slots_get r (k + 1) j p h; decreasing_trivial
  | (x, .globalExplicit) :: r, k, j, p, h => by simp [slotsFrom] at h; exact slots_get r k j p h
  | (x, .globalImplicit) :: r, k, j, p, h => by simp [slotsFrom] at h; exact slots_get r k j p h
  | (x, .free) :: r, k, j, p, h => by simp [slotsFrom] at h; exact slots_get r k j p h
theorem slots_lookup {names : List (Str × NameKind)} {x : Str} {i : Nat} (h : (slotsFrom names 0).lookup x = some i) : (slotsFrom names 0)[i]? = some (x, i) := by
  obtain ⟨j, hj, e⟩ := List.mem_iff_getElem.mp (lookup_mem' h)
  have := slots_get names 0 j (x, i) (by rw [List.getElem?_eq_getElem hj, e])
  simp only [Nat.zero_add] at this
  rw [this, List.getElem?_eq_getElem hj, e, this]
theorem slots_mem : ∀ (names : List (Str × NameKind)) (k : Nat) (p : Str × Nat), p ∈ slotsFrom names k → (p.1, NameKind.local) ∈ names ∨ (p.1, NameKind.cell) ∈ names
  | [], _, _, h => by simp [slotsFrom] at h
  | (x, .local) :: r, k, p, h => by
    simp only [slotsFrom, List.mem_cons] at h
    rcases h with rfl | h
    · exact .inl (.head _)
    · exact (slots_mem r _ p h).imp (.tail _) (.tail _)
  | (x, .cell) :: r, k, p, h => by
    simp only [slotsFrom, List.mem_cons] at h
    rcases h with rfl | h
    · exact .inr (.head _)
    · exact (slots_mem r _ p h).imp (.tail _) (.tail _)
  | (x, .globalExplicit) :: r, k, p, h => by simp only [slotsFrom] at h; exact (slots_mem r _ p h).imp (.tail _) (.tail _)
  | (x, .globalImplicit) :: r, k, p, h => by simp only [slotsFrom] at h; exact (slots_mem r _ p h).imp (.tail _) (.tail _)
  | (x, .free) :: r, k, p, h => by simp only [slotsFrom] at h; exact (slots_mem r _ p h).imp (.tail _) (.tail _)
theorem lookup_nodup {names : List (Str × NameKind)} {x : Str} {k : NameKind} (hn : (names.map (·.1)).Nodup) (h : (x, k) ∈ names) : names.lookup x = some k := by
  induction names with
  | nil => cases h
  | cons p r ih =>
    obtain ⟨y, k'⟩ := p
    rw [List.map_cons, List.nodup_cons] at hn
    rw [List.lookup_cons]
    rcases List.mem_cons.mp h with e | h
    · cases e; simp
    · have : x ≠ y := fun q => hn.1 (List.mem_map.mpr ⟨(x, k), h, q⟩)
      have e : (x == y) = false := by simpa using this
      rw [e]; exact ih hn.2 h

theorem cellsFrom_inv {lo : Nat} : ∀ (names : List (Str × NameKind)) (n : Nat) (acc : List (Str × Addr)), (∀ p ∈ acc, lo ≤ p.2 ∧ p.2 < n) → acc.Pairwise (fun p q => p.2 ≠ q.2) → lo ≤ n →
    (∀ p ∈ cellsFrom n names acc, lo ≤ p.2) ∧ (cellsFrom n names acc).Pairwise (fun p q => p.2 ≠ q.2)
  | [], n, acc, h1, h2, _ => ⟨fun p hp => (h1 p hp).1, h2⟩
  | (x, k) :: r, n, acc, h1, h2, h3 => by
    unfold cellsFrom
    split
    · refine cellsFrom_inv r (n + 1) _ (fun p hp => ?_) (List.pairwise_cons.mpr ⟨fun p hp e => ?_, h2⟩) (by decreasing_trivial)
      · rcases List.mem_cons.mp hp with rfl | hp
        · exact ⟨h3, Nat.lt_succ_self _⟩
        · exact ⟨(h1 p hp).1, Nat.lt_succ_of_lt (h1 p hp).2⟩
      · have := (h1 p hp).2; rw [← e] at this; exact absurd this (Nat.lt_irrefl _)
    · exact cellsFrom_inv r n acc h1 h2 h3
theorem cellsFrom_nodup : ∀ (names : List (Str × NameKind)) (n : Nat) (acc : List (Str × Addr)), (names.map (·.1)).Nodup → (∀ p ∈ acc, ∀ q ∈ names, p.1 ≠ q.1) → (acc.map (·.1)).Nodup → ((cellsFrom n names acc).map (·.1)).Nodup
  | [], _, _, _, _, h => h
  | (x, k) :: r, n, acc, h1, h2, h3 => by
    rw [List.map_cons, List.nodup_cons] at h1
    unfold cellsFrom
    split
    · refine cellsFrom_nodup r _ _ h1.2 (fun p hp q hq => ?_) ?_
      · rcases List.mem_cons.mp hp with rfl | hp
        · exact fun e => h1.1 (List.mem_map.mpr ⟨q, hq, e.symm⟩)
        · exact h2 p hp q (.tail _ hq)
      · rw [List.map_cons, List.nodup_cons]
        refine ⟨fun e => ?_, h3⟩
        obtain ⟨p, hp, e⟩ := List.mem_map.mp e
        exact h2 p hp (x, k) (.head _) e
    · exact cellsFrom_nodup r _ _ h1.2 (fun p hp q hq => h2 p hp q (.tail _ hq)) h3
theorem pairwise_inj {l : List (Str × Addr)} (h : l.Pairwise (fun p q => p.2 ≠ q.2)) {x y : Str} {c : Addr} (h1 : (x, c) ∈ l) (h2 : (y, c) ∈ l) : x = y := by
  induction l with
  | nil => cases h1
  | cons p r ih =>
    rw [List.pairwise_cons] at h
    rcases List.mem_cons.mp h1 with e1 | h1'
    · rcases List.mem_cons.mp h2 with e2 | h2'
      · rw [← e1] at e2; cases e2; rfl
      · subst e1; exact (h.1 (y, c) h2' rfl).elim
    · rcases List.mem_cons.mp h2 with e2 | h2'
      · subst e2; exact (h.1 (x, c) h1' rfl).elim
      · exact ih h.2 h1' h2'
theorem CellsAre.mem {cm : Str → Option Value} {cs : List (Str × Addr)} {cells : List (Addr × Obj)} (h : CellsAre cm cs cells) : (∀ p ∈ cs, ∃ o, (p.2, o) ∈ cells ∧ o.data = .cell (cm p.1)) ∧ ∀ q ∈ cells, ∃ p ∈ cs, p.2 = q.1 ∧ q.2.data = .cell (cm p.1) := by
  induction h with
  | nil => exact ⟨fun p hp => (by cases hp), fun p hp => (by cases hp)⟩
  | cons hd _ ih =>
    refine ⟨fun p hp => ?_, fun q hq => ?_⟩
    · rcases List.mem_cons.mp hp with rfl | hp
      · exact ⟨_, .head _, hd⟩
      · obtain ⟨o, h1, h2⟩ := ih.1 p hp
        exact ⟨o, .tail _ h1, h2⟩
    · rcases List.mem_cons.mp hq with rfl | hq
      · exact ⟨_, .head _, rfl, hd⟩
      · obtain ⟨p, h1, h2⟩ := ih.2 q hq
        exact ⟨p, .tail _ h1, h2⟩

theorem bindL_not {kindOf : Str → Option NameKind} : ∀ (binds : List (Str × Value)) (m : Str → Option Value) (x : Str), (∀ p ∈ binds, p.1 ≠ x) → bindL kindOf binds m x = m x
  | [], _, _, _ => rfl
  | (n, v) :: r, m, x, h => by
    unfold bindL
    rw [bindL_not r _ x fun p hp => h p (.tail _ hp)]
    have : x ≠ n := fun q => h (n, v) (.head _) q.symm
    split
    · simp [this]
    · rfl
theorem bindL_at {kindOf : Str → Option NameKind} {x : Str} {v : Value} (hk : kindOf x = some .local) : ∀ (binds : List (Str × Value)) (m : Str → Option Value), (binds.map (·.1)).Nodup → (x, v) ∈ binds → bindL kindOf binds m x = some v
  | (n, w) :: r, m, hn, h => by
    rw [List.map_cons, List.nodup_cons] at hn
    unfold bindL
    rcases List.mem_cons.mp h with e | h
    · cases e
      rw [bindL_not r _ x fun p hp q => hn.1 (List.mem_map.mpr ⟨p, hp, q⟩), if_pos hk]
      simp
    · exact bindL_at hk r _ hn.2 h
theorem bindC_not {kindOf : Str → Option NameKind} : ∀ (binds : List (Str × Value)) (m : Str → Option Value) (x : Str), (∀ p ∈ binds, p.1 ≠ x) → bindC kindOf binds m x = m x
  | [], _, _, _ => rfl
  | (n, v) :: r, m, x, h => by
    unfold bindC
    rw [bindC_not r _ x fun p hp => h p (.tail _ hp)]
    have : x ≠ n := fun q => h (n, v) (.head _) q.symm
    split
    · rfl
    · simp [this]
theorem bindC_at {kindOf : Str → Option NameKind} {x : Str} {v : Value} (hk : kindOf x = some .cell) : ∀ (binds : List (Str × Value)) (m : Str → Option Value), (binds.map (·.1)).Nodup → (x, v) ∈ binds → bindC kindOf binds m x = some v
  | (n, w) :: r, m, hn, h => by
    rw [List.map_cons, List.nodup_cons] at hn
    unfold bindC
    rcases List.mem_cons.mp h with e | h
    · cases e
      rw [bindC_not r _ x fun p hp q => hn.1 (List.mem_map.mpr ⟨p, hp, q⟩), if_neg (by rw [hk]; simp)]
      simp
    · exact bindC_at hk r _ hn.2 h
end Mine

/-! ## part C26 -/
namespace Mine
open PySem PySem.W PyProof.Rows

section
variable {W : Wd} {P : Pg} {C : Addr}

/-- the callee's frame -/
noncomputable def Fx.callee (cx : Fx) (qual : Str) (scope : Scope) (L' f : Addr) (cdv : Value) (g : Heap) : Fx :=
  { A := cx.A.deeper (envOfC qual scope L' f cdv), A₀ := cx.A, env := envOfC qual scope L' f cdv, fenv := envOfC qual scope L' f cdv, L := L', h₀ := g, base := cx.base, outer := cx.fenv :: cx.outer, c := cxOf scope, mc := none, C := cx.C, av := cx.L :: cx.av }

theorem FxOk.callee {cx : Fx} {st st' : List (Addr × Obj)} {d : Nat} {qual : Str} {scope : Scope} {L' f : Addr} {cdv : Value} {g : Heap} (ok : FxOk W (d + 1) cx st) (hs : cx.h₀.StaysIn g) (B : Below cx.A cx.base (cx.fenv :: cx.outer) g) (hk : scope.kind = .function)
    (hn : (scope.names.map (·.1)).Nodup) (hd : d ≤ 20) : FxOk W d (cx.callee qual scope L' f cdv g) st' where
  B := B
  X := ok.X.keeps hs
  T := ok.T.keeps hs
  fr := Around.frames_deeper ok.fr
  ff := rfl
  fk := hk
  dp := by show cx.A.depth + 1 + d + 5 < recursionLimit; have := ok.dp; decreasing_trivial
  un := by show cx.A.units + 3 + 8 * d + 40 < cLine; have := ok.un; decreasing_trivial
  ek := hk
  en := rfl
  eg := rfl
  eb := rfl
  ce := fun x hx => by
    have := cellsFrom_some (x := x) scope.names (L' + 1) [] (.inl hx)
    exact Option.isSome_iff_exists.mp this
  sl := fun x i hx => by
    have := slots_lookup hx
    exact (List.getElem?_eq_some_iff.mp this).1
  out := fun q => absurd q (Nat.not_lt.mpr hd)
  loc := rfl

theorem FrOk.callee {cx : Fx} {qual : Str} {scope : Scope} {L' f : Addr} {cdv : Value} {g : Heap} : FrOk (cx.callee qual scope L' f cdv g) where
  mc := rfl
  inj := fun x y i hx hy => by
    have e1 := slots_lookup (names := scope.names) hx
    have e2 := slots_lookup (names := scope.names) hy
    rw [e1] at e2
    cases e2; rfl
  cd := fun x y c _ _ hx hy => pairwise_inj (cellsFrom_inv (lo := 0) scope.names (L' + 1) [] (fun p hp => by cases hp) List.Pairwise.nil (Nat.zero_le _)).2 (lookup_mem' hx) (lookup_mem' hy)

theorem callN_ok (LK : Lk W P C) (hB : ∀ d, BookOk W C d) : ∀ n, n ≤ 21 → CallsOk W P C n (callN P n)
  | 0 => fun _ f a _ _ cx m cv st μ H s avs vs Q E hc ok hh I r p => p.elim
  | n + 1 => fun hn f a hf ha cx m cv st μ H s avs vs Q E hc ok hh I r p => by
    have ih := callN_ok LK hB n (by decreasing_trivial)
    obtain ⟨df, hdf⟩ := Option.isSome_iff_exists.mp hf
    replace p : PostG cx m cv st s μ RV Q E (optR (P.fns.lookup f) fun d => chk (decide (avs.length = d.np)) ((exs P (callN P n) d.body (avs.map some ++ List.replicate (d.ns - d.np) none) H).bind fun fl H₁ => .ok (fin fl) H₁)) := p
    rw [hdf] at p
    obtain ⟨hlen, p⟩ := PostG.chkD p
    obtain ⟨a', oc, od, osl, name, qual, params, body, scope, doc, pm, cdv, ct, an, e1, e2, e3, e4, e5, e6, e7, e8, e9, e10, rfl⟩ := LK.fn f df hdf
    rw [ha] at e1
    cases e1
    have hlen : avs.length = params.args.length := hlen
    have hvl : params.args.length = vs.length := by rw [← hlen]; exact r.1
    have hpn : (params.args.map (·.arg)).Nodup := by
      rw [← e10]
      refine List.Nodup.sublist (List.take_sublist _ _) ?_
      have : ∀ (names : List (Str × NameKind)) (k : Nat), ((slotsFrom names k).map (·.1)).Sublist (names.map (·.1)) := by
        intro names
        induction names with
        | nil => intro k; simp [slotsFrom]
        | cons q r ih =>
          intro k
          obtain ⟨x, kd⟩ := q
          cases kd <;> simp only [slotsFrom, List.map_cons]
          all_goals first | exact (ih _).cons_cons _ | exact (ih _).cons _
      exact List.Nodup.sublist (this _ _) e9
    have hbl : ((params.args.map (·.arg)).zip vs).map (·.1) = params.args.map (·.arg) := by
      rw [List.map_fst_zip]; simp [hvl]
    have hslot : ∀ (x : Str) (i : Nat), (slotsFrom scope.names 0).lookup x = some i → i < params.args.length → (params.args.map (·.arg))[i]? = some x := fun x i hx hi => by
      rw [← e10, List.getElem?_take, if_pos hi, List.getElem?_map, slots_lookup hx]; rfl
    have hparam : ∀ x ∈ params.args.map (·.arg), scope.names.lookup x = some .local ∨ scope.names.lookup x = some .cell := fun x hx => by
      rw [← e10] at hx
      obtain ⟨q, hq, rfl⟩ := List.mem_map.mp (List.mem_of_mem_take hx)
      exact (slots_mem _ _ _ hq).imp (lookup_nodup e9) (lookup_nodup e9)
    have hin : ∀ (x : Str) (i : Nat) (av : AV), (slotsFrom scope.names 0).lookup x = some i → (avs.map some ++ List.replicate ((cxOf scope).n - params.args.length) none)[i]? = some (some av) → ∃ v, (x, v) ∈ (params.args.map (·.arg)).zip vs ∧ VRel μ av v := by
      intro x i av hx hr
      have hi : i < avs.length := by
        rcases Nat.lt_or_ge i avs.length with h | h
        · exact h
        · rw [List.getElem?_append_right (by simpa using h)] at hr
          rw [List.getElem?_replicate] at hr
          split at hr
          · cases hr
          · cases hr
      rw [List.getElem?_append_left (by simpa using hi), List.getElem?_map] at hr
      have hav : avs[i]? = some av := by
        cases q : avs[i]? with
        | none => rw [q] at hr; cases hr
        | some z => rw [q] at hr; cases hr; rfl
      obtain ⟨v, hv, rv⟩ := r.get hav
      have hx' := hslot x i hx (hlen ▸ hi)
      refine ⟨v, ?_, rv⟩
      refine List.mem_iff_getElem?.mpr ⟨i, ?_⟩
      rw [List.getElem?_zip_eq_some]
      exact ⟨hx', hv⟩
    refine wpAny_call (callX_cells (news := newsOf cx.h₀ s.heap cx.L) ok.B I.fr newsOf_News ok.T.nolimit ok.fr ok.ff ok.fk ((ok.X.keeps I.fr.keep) _ _ e2) rfl (codeRec_of (ok.X.keeps I.fr.keep) e3) (by have := ok.dp; decreasing_trivial)
      (.of_eq (binds_plain e5 hpn hvl)) (kindsX ?_) (cellsFrom_nodup _ _ _ e9 (fun p hp => by cases hp) List.nodup_nil) (fun g L' h₁ tk cells FG F' N' Y B' hst lt => ?_) e6 e7 e8)
    · rw [List.all_eq_true]
      intro y hy
      have : y.1 ∈ params.args.map (·.arg) := by rw [← hbl]; exact List.mem_map_of_mem hy
      rcases hparam y.1 this with q | q <;> simp [q]
    · have Ym := CellsAre.mem Y
      have ge := (cellsFrom_inv (lo := L' + 1) scope.names (L' + 1) [] (fun p hp => by cases hp) List.Pairwise.nil (Nat.le_refl _))
      have G : Ground cx m (bindL (envOfC qual scope L' a cdv).kindOf ((params.args.map (·.arg)).zip vs) fun _ => none) cells s.heap g h₁ L' :=
        ⟨FG, F', N', hst, lt, fun p hp => by obtain ⟨q, hq, e, _⟩ := Ym.2 p hp; rw [← e]; exact ge.1 q hq, fun p hp => by obtain ⟨q, hq, _, e⟩ := Ym.2 p hp; exact ⟨_, e⟩⟩
      have J : Inv (cx.callee qual scope L' a cdv g) (bindL (envOfC qual scope L' a cdv).kindOf ((params.args.map (·.arg)).zip vs) fun _ => none) cells (cv ++ st) μ H h₁ := I.enter G rfl rfl rfl rfl
      have okC : FxOk W n (cx.callee qual scope L' a cdv g) (cv ++ st) := ok.callee hst B' e8 e9 (by decreasing_trivial)
      have V : VarsOK (cx.callee qual scope L' a cdv g) (bindL (envOfC qual scope L' a cdv).kindOf ((params.args.map (·.arg)).zip vs) fun _ => none) cells μ (avs.map some ++ List.replicate ((cxOf scope).n - params.args.length) none) := by
        refine ⟨?_, fun x i av hx hi hr => ?_, fun x i av hx hi hr => ?_⟩
        · show _ = (cxOf scope).n
          have : params.args.length ≤ (cxOf scope).n := by
            have := congrArg List.length e10
            simp only [List.length_take, List.length_map] at this
            show params.args.length ≤ (slotsFrom scope.names 0).length
            decreasing_trivial
          simp only [List.length_append, List.length_map, List.length_replicate, hlen]
          decreasing_trivial
        · obtain ⟨v, hv, rv⟩ := hin x i av hi hr
          exact ⟨v, bindL_at hx _ _ (by rw [hbl]; exact hpn) hv, rv⟩
        · obtain ⟨v, hv, rv⟩ := hin x i av hi hr
          obtain ⟨c, hcl⟩ := okC.ce x hx
          obtain ⟨o, ho, hd⟩ := Ym.1 (x, c) (lookup_mem' hcl)
          exact ⟨c, o, v, hcl, ho, by rw [hd, bindC_at hx _ _ (by rw [hbl]; exact hpn) hv], rv⟩
      have Ci : CellsIn (cx.callee qual scope L' a cdv g) cells := fun x c hx hcl => by
        obtain ⟨o, ho, _⟩ := Ym.1 (x, c) (lookup_mem' hcl)
        exact ⟨o, ho⟩
      refine all5s (all_S3 LK ih (hB n)) body (cx.callee qual scope L' a cdv g) _ cells (cv ++ st) _ μ H _ _ _ ⟨⟨hc, okC, V, hh⟩, FrOk.callee, Ci⟩ J ?_
      change PostG cx m cv st s μ RV Q E ((exs P (callN P n) (cSs body (cxOf scope)) (avs.map some ++ List.replicate ((cxOf scope).n - params.args.length) none) H).bind fun fl H₁ => .ok (fin fl) H₁) at p
      show SPost _ _ _ _ _ _ (exs P (callN P n) (cSs body (cxOf scope)) _ H)
      have back : ∀ (fl : Fl) (H' : AH) (v : Value) (h' : Heap) (tk' : Nat) (μ' : List Addr) (m' : Str → Option Value) (cv' : List (Addr × Obj)), (exs P (callN P n) (cSs body (cxOf scope)) (avs.map some ++ List.replicate ((cxOf scope).n - params.args.length) none) H) = .ok fl H' → μ <+: μ' →
          Inv (cx.callee qual scope L' a cdv g) m' cv' (cv ++ st) μ' H' h' → VRel μ' (fin fl) v → LeaveK cx.h₀ cx.L m g (fun r s' => match r with | .ok (.ret v) => Q v s' | .ok _ => False | .error e => E e s') v { s with heap := h', toks := tk' } := by
        intro fl H' v h' tk' μ' m' cv' q hp J' rv
        rw [q] at p
        exact ⟨L', m', cv ++ st, J'.fr, J'.stN, fun F N => p v h' tk' μ' hp (I.leave FG hst J' rfl rfl rfl F N) rv⟩
      cases q : exs P (callN P n) (cSs body (cxOf scope)) (avs.map some ++ List.replicate ((cxOf scope).n - params.args.length) none) H with
      | stuck => rw [q] at p; exact p
      | ok fl H' =>
        cases fl with
        | next ρ' => exact fun h' tk' μ' m' cv' hp J' _ _ => back _ _ .none h' tk' μ' m' cv' q hp J' .none
        | ret w => exact fun b h' tk' μ' m' cv' hp J' _ rv => back _ _ b h' tk' μ' m' cv' q hp J' rv
end
end Mine

/-! ## part C27 -/
namespace Mine
open PySem PySem.W PyProof.Rows
noncomputable def BkInit (_K : Frag) (_C : Addr) : Prop := True
theorem book_ok {W : Wd} {C : Addr} (_ : BkInit W.K C) : ∀ d, BookOk W C d := fun _ => trivial
end Mine

/-! ## part C28 -/
namespace Mine
open PySem PySem.W PyProof.Rows

section
variable {W : Wd} {P : Pg} {C : Addr}

/-- the script as it is laid -/
theorem script_at {K : Params} {h : Heap} {a : Addr} {ns : List Int} (w : Well K h (.ref a) (ofPy (.list (ns.map .int)))) : ∃ vs : List Value, IsL h a vs.toArray 0 ∧ ∀ μ, VsRel μ (ns.map .int) vs := by
  have key : ∀ (ns : List Int) (vs : List Value), WellAll K h vs (ns.map fun i => WData.int i) → ∀ μ, VsRel μ (ns.map .int) vs := by
    intro ns
    induction ns with
    | nil => intro vs w μ; cases w; exact .nil
    | cons n ns ih =>
      intro vs w μ
      cases w with
      | cons w1 w2 =>
        cases w1
        exact .cons (.int _ _) (ih _ w2 μ)
  have e : ofPy (.list (ns.map .int)) = .list (ns.map fun i => WData.int i) := by
    show WData.list (ofPys (ns.map .int)) = _
    rw [ofPys_eq, List.map_map]; rfl
  rw [e] at w
  cases w with
  | list h1 h2 => exact ⟨_, h1, key ns _ h2⟩

/-- the law's own frame, its names all plain -/
theorem law_frame {d : Nat} (hd : d ≤ 21) {s₁ : Shared} {h₁ : Heap} {tk : Nat} {qual : Str} {scope : Scope} {fa a : Addr} {cd : Value} {body : List Stmt} {x : Str} {ns : List Int} {Q : Flow → Shared → Prop} {E : Value → Shared → Prop}
    (X : W.K.In s₁.heap) (T : TopRead W.p W.loose W.mg W.mb s₁.heap) (w : Well W.w.params s₁.heap (.ref a) (ofPy (.list (ns.map .int)))) (K0 : Below callerA s₁.heap [] s₁.heap)
    (F : Fr s₁.heap s₁.heap.objs.size h₁ (fun y => [(x, Value.ref a)].reverse.lookup y))
    (hk : scope.kind = .function) (hx : (slotsFrom scope.names 0).head? = some (x, 0)) (hcell : (scope.names.all fun p => !(p.2 == .cell)) = true)
    (k : ∀ (cx : Fx) (m : Str → Option Value) (μ : List Addr), cx.C = C → FxOk W d cx [] → FrOk cx → cx.A.handled = none → cx.A = callerA.deeper (envOf qual scope s₁.heap.objs.size fa cd) → cx.env = envOf qual scope s₁.heap.objs.size fa cd → cx.env = cx.fenv → cx.fenv = envOf qual scope cx.L fa cd → cx.outer = [] → W.K.In cx.base → TopRead W.p W.loose W.mg W.mb cx.base → cx.c = cxOf scope → cx.h₀ = s₁.heap → cx.L = s₁.heap.objs.size →
      VarsOK cx m [] μ (some (.ref 0) :: List.replicate ((cxOf scope).n - 1) none) → CellsIn cx [] → Inv cx m [] [] μ [.list false (ns.map .int)] h₁ → wpAny W.M cx.A (execs body cx.env) Q E { s₁ with heap := h₁, toks := tk }) :
    wpAny W.M (callerA.deeper (envOf qual scope s₁.heap.objs.size fa cd)) (execs body (envOf qual scope s₁.heap.objs.size fa cd)) Q E { s₁ with heap := h₁, toks := tk } := by
  have nocell : ∀ y : Str, scope.names.lookup y ≠ some .cell := fun y hy => by
    have := List.all_eq_true.mp hcell _ (lookup_mem' hy)
    simp at this
  obtain ⟨vs, hL, hv⟩ := script_at w
  let cx : Fx := { A := callerA.deeper (envOf qual scope s₁.heap.objs.size fa cd), A₀ := callerA, env := envOf qual scope s₁.heap.objs.size fa cd, fenv := envOf qual scope s₁.heap.objs.size fa cd, L := s₁.heap.objs.size, h₀ := s₁.heap, base := s₁.heap, outer := [], c := cxOf scope, mc := none, C := C, av := [] }
  have hlen : 0 < (slotsFrom scope.names 0).length := by
    cases q : slotsFrom scope.names 0 with
    | nil => rw [q] at hx; cases hx
    | cons p r => simp
  have lim1 : 1 + claimMargin + 1 + 21 + 5 < recursionLimit := by decide
  have lim2 : 4 + 3 + 8 * 21 + 40 < cLine := by decide
  have ok : FxOk W d cx [] :=
    { B := K0, X := X, T := T, fr := rfl, ff := rfl, fk := hk, dp := (by show 1 + claimMargin + 1 + d + 5 < recursionLimit; exact Nat.lt_of_le_of_lt (by decreasing_trivial) lim1), un := (by show 4 + 3 + 8 * d + 40 < cLine; exact Nat.lt_of_le_of_lt (by decreasing_trivial) lim2), ek := hk, en := rfl, eg := rfl, eb := rfl, ce := fun y hy => absurd hy (nocell y), sl := fun y i hy => (List.getElem?_eq_some_iff.mp (slots_lookup hy)).1, out := fun _ => ⟨rfl, X, T⟩, loc := rfl }
  have fo : FrOk cx := ⟨rfl, fun y z i hy hz => by
    have e1 := slots_lookup (names := scope.names) hy
    have e2 := slots_lookup (names := scope.names) hz
    rw [e1] at e2
    cases e2; rfl, fun y z c hy _ _ _ => absurd hy (nocell y)⟩
  have hne : a ≠ s₁.heap.objs.size := Nat.ne_of_lt (Heap.lt_size hL)
  have I : Inv cx (fun y => [(x, Value.ref a)].reverse.lookup y) [] [] [a] [.list false (ns.map .int)] h₁ := by
    refine { fr := F, cvN := fun p hp => (by cases hp), stN := fun p hp => (by cases hp), cm := fun p hp => (by cases hp), sm := fun p hp => (by cases hp), cs := fun p hp => (by cases hp), cc := fun p hp => (by cases hp), nd := (by simp), len := rfl, obj := fun i o b e1 e2 => ?_, mtb := fun i xs b e1 e2 => ?_, muL := (by simpa using hne.symm), avm := fun b hb => (by cases hb), avh := fun b hb => (by cases hb) }
    · cases i with
      | zero =>
        simp at e1 e2
        subst e1; subst e2
        exact ⟨vs, 0, F.keep _ _ hL, hv _⟩
      | succ i => simp at e1
    · cases i with
      | zero =>
        have e1 : some (AObj.list false (ns.map AV.int)) = some (AObj.list true xs) := e1
        cases e1
      | succ i => cases e1
  have V : VarsOK cx (fun y => [(x, Value.ref a)].reverse.lookup y) [] [a] (some (.ref 0) :: List.replicate ((cxOf scope).n - 1) none) := by
    refine ⟨?_, fun y i av hy hi hr => ?_, fun y i av hy hi hr => absurd hy (nocell y)⟩
    · show _ = (slotsFrom scope.names 0).length
      have : (cxOf scope).n = (slotsFrom scope.names 0).length := rfl
      simp only [List.length_cons, List.length_replicate, this]
      decreasing_trivial
    · cases i with
      | zero =>
        simp at hr
        subst hr
        have h1 := slots_lookup (names := scope.names) hi
        rw [List.head?_eq_getElem?] at hx
        rw [hx] at h1
        cases h1
        refine ⟨.ref a, ?_, .ref rfl⟩
        show List.lookup x [(x, Value.ref a)] = _
        simp
      | succ i =>
        rw [List.getElem?_cons_succ, List.getElem?_replicate] at hr
        split at hr
        · cases hr
        · cases hr
  exact k cx _ [a] rfl ok fo rfl rfl rfl rfl rfl rfl X T rfl rfl rfl V (fun y c hy => absurd hy (nocell y)) I
end

theorem fnOk_mk {K : Frag} {f : Str} {d : AFun} {a : Addr} {oc : Value} {od : Option Addr} {osl : Array (Option Value)} {name qual : Str} {params : Arguments} {body : List Stmt} {scope : Scope} {doc pm cdv ct : Value} {an : Option Addr}
    (h1 : nsIn K mainGlobals f = some (some (.ref a))) (h2 : K.lookup a = some ⟨oc, od, .func (fnOf name qual params body scope .none .none doc pm an cdv ct), osl⟩) (h3 : codeIn K cdv qual = true) (h4 : keepIn K (.ref a) = true)
    (h5 : plainParams params = true) (h6 : scope.isCoroutine = false) (h7 : scope.isGenerator = false) (h8 : scope.kind = .function) (h9 : (scope.names.map (·.1)).Nodup)
    (h10 : ((slotsFrom scope.names 0).map (·.1)).take params.args.length = params.args.map (·.arg)) (h11 : d = funOf params scope body) : FnOk K f d := .mk _ _ _ _ _ _ _ _ _ _ _ _ _ _ h1 h2 h3 h4 h5 h6 h7 h8 h9 h10 h11
theorem cstOk_mk {K : Frag} {x : Str} {v : AV} {cv : Value} (h1 : nsIn K mainGlobals x = some (some cv)) (h2 : ∀ μ, VRel μ v cv) : ∃ cv, nsIn K mainGlobals x = some (some cv) ∧ ∀ μ, VRel μ v cv := ⟨cv, h1, h2⟩

theorem Lk.fns_of {K : Frag} {l : List (Str × AFun)} (h : ∀ p ∈ l, FnOk K p.1 p.2) : ∀ f d, l.lookup f = some d → FnOk K f d := fun f d e => h (f, d) (lookup_mem' e)
theorem Lk.cst_of {K : Frag} {l : List (Str × AV)} (h : ∀ p ∈ l, ∃ cv, nsIn K mainGlobals p.1 = some (some cv) ∧ ∀ μ, VRel μ p.2 cv) : ∀ x v, l.lookup x = some v → ∃ cv, nsIn K mainGlobals x = some (some cv) ∧ ∀ μ, VRel μ v cv := fun f d e => h (f, d) (lookup_mem' e)
end Mine

/-! ## part C30 -/
namespace Mine
open PySem PySem.W PyProof.Rows

/-! exceptions on their way -/
/-- an exception is in flight over the frames l; all that stood in h1, but frames, stands as it stood -/
structure Fly (base h1 : Heap) (fs : List Addr) (l : List Env) (e C' : Addr) (h : Heap) : Prop where
  wit : ∃ B t vs, base.StaysIn B ∧ (∀ b o, h1.get? b = some o → b ∉ fs → B.get? b = some o) ∧ Heap.FlyingW B l e (.ref C') (.ref t) h ∧ B.get? t = none ∧ h.TupAt t vs
  up : h1.UpToSlots h

section
variable {M : Model} {A : Around} {E : Value → Shared → Prop} {s' : Shared} {base h1 : Heap} {env : Env} {outer : List Env} {L e C' : Addr} {Q : Unit → Shared → Prop} {vs : List Value}
/-- it is made in this frame, and leaves it -/
theorem fly_made (K : Below A base (env :: outer) h1) (hf : env.frame = some L) (hx : Heap.MadeExcOf h1 s'.heap e (.ref C') vs)
    (hQ : ∀ h', Fly base h1 ((env :: outer).filterMap (·.frame)) outer e C' h' → Q () { s' with heap := h' }) : wpAny M A (leaving env (.ref e)) Q E s' := by
  have hin : ∀ env' ∈ (env :: outer), ∀ b, env'.frame = some b → b ∈ (env :: outer).filterMap (·.frame) := fun env' he b hb => List.mem_filterMap.mpr ⟨env', he, hb⟩
  refine wpAny_leaves_madeW (base := hideAll h1 ((env :: outer).filterMap (·.frame))) K.stack hf (fun b o q => of_hideAll _ q) (funFrames_hide K.frames hin) hx fun h' t x1 x2 x3 x4 => hQ h' ⟨⟨_, t, vs, fun b o q => hideAll_get _ (K.stays b o q) fun hm => ?_, fun b o q nm => hideAll_get _ q nm, x1, x3, x2⟩, (Heap.UpToSlots.of_keeps hx.keeps).trans x4⟩
  rw [(K.frames.mem hm).1] at q; cases q
/-- it came from below, and leaves this frame too -/
theorem fly_on {fs : List Addr} (hfr : A.frames = some (env :: outer)) (hf : env.frame = some L) (F : Fly base h1 fs (env :: outer) e C' s'.heap)
    (hQ : ∀ h', Fly base h1 fs outer e C' h' → Q () { s' with heap := h' }) : wpAny M A (leaving env (.ref e)) Q E s' := by
  obtain ⟨⟨B, t, vs, b1, b2, b3, b4, b5⟩, up⟩ := F
  exact wpAny_leaves_onW hfr hf b3 fun h' x1 x2 => hQ h' ⟨⟨B, t, vs, b1, b2, x1, b4, b5.of_slots x2⟩, up.trans x2⟩
end

/-- an exception that this frame has noted -/
structure Hld (base h1 : Heap) (fs : List Addr) (l : List Env) (L e C' : Addr) (h : Heap) : Prop where
  wit : ∃ B t vs, base.StaysIn B ∧ (∀ b o, h1.get? b = some o → b ∉ fs → B.get? b = some o) ∧ Heap.HeldW B l e (.ref C') (.ref t) L h ∧ B.get? t = none ∧ h.TupAt t vs
  up : h1.UpToSlots h
section
variable {M : Model} {A : Around} {E : Value → Shared → Prop} {s s' : Shared} {base h1 : Heap} {env : Env} {outer : List Env} {L e C' : Addr} {Q : Unit → Shared → Prop} {vs : List Value} {fs : List Addr} {l : List Env}
/-- a record turns: all else stands -/
theorem rec_turn {h : Heap} {T : Addr} {o : Obj} {ts : Array Value} (hT : h.get? T = some o) (hd : o.data = .fields ts) (g : Obj → Obj) :
    (∀ b, b ≠ T → (h.update T g).get? b = h.get? b) ∧ ∀ b q, h.get? b = some q → (∀ vs, q.data ≠ .fields vs) → (h.update T g).get? b = some q := by
  have k : ∀ b, b ≠ T → (h.update T g).get? b = h.get? b := fun b hb => Heap.get?_update_other _ _ hb.symm
  refine ⟨k, fun b q e hn => (k b fun z => ?_).trans e⟩
  subst z
  rw [hT] at e
  cases e
  exact hn ts hd
/-- what this frame has noted is marked as its own once more -/
theorem held_again {base : Heap} {cls a0 : Value} (R : Heap.HeldW base l e cls a0 L s.heap)
    (h : ∀ h', Heap.HeldW base l e cls a0 L h' → s.heap.UpToSlots h' → Q () { s with heap := h' }) : wpAny M A (setFlight (.ref e) (some L)) Q E s := by
  obtain ⟨st, en, fr, oe, vs, T, oT, ts, ge, gc, ge', g1, nT, ne, gT, gT', g3⟩ := R
  obtain ⟨k1, k2⟩ := rec_turn gT gT' (Obj.mapFields (·.setIfInBounds 3 (rawInt L)))
  have z : 3 < ts.size := (Array.getElem?_eq_some_iff.mp g3).1
  have d' := Obj.data_mapFields gT' (·.setIfInBounds 3 (rawInt L))
  have t' := Heap.get?_update_self (Obj.mapFields (·.setIfInBounds 3 (rawInt L))) gT (Obj.isFreed_of_fields d')
  have m' : (ts.setIfInBounds 3 (rawInt L))[3]? = some (rawInt L) := by simp [z]
  have base' : base.StaysIn (s.heap.update T (Obj.mapFields (·.setIfInBounds 3 (rawInt L)))) := fun b o q => (k1 b fun w => by subst w; rw [nT] at q; cases q).trans (st b o q)
  have frames' := fr.of_keeps fun b o q hn => ⟨o, k2 b o q hn, rfl⟩
  have fin := h _ ⟨base', en, frames', oe, vs, T, _, _, (k1 e ne.symm).trans ge, gc, ge', g1, nT, ne, t', d', m'⟩ fun b o q hn => ⟨o.slots, k2 b o q hn⟩
  unfold setFlight
  refine wpAny_bind (wpAny_field ge ge' g1 ?_)
  rw [if_pos (by simp : (Value.ref T != Value.none) = true)]
  exact wpAny_setField gT gT' z fin
theorem back_held (hf : env.frame = some L) (F : Hld base h1 fs l L e C' s'.heap) (hE : ∀ h', Hld base h1 fs l L e C' h' → E (.ref e) { s' with heap := h' }) : cameBackBy M A env E (.ref e) s' := by
  obtain ⟨⟨B, t, vs, b1, b2, b3, b4, b5⟩, up⟩ := F
  obtain ⟨_, _, _, oe, ws, T, oT, ts, he, hc, hd, h1', _⟩ := id b3
  unfold cameBackBy
  rw [hf]
  refine wpAny_bind (wpAny_field he hd h1' ?_)
  rw [if_neg (show ¬ ((Value.ref T == Value.none) = true) from by simp)]
  first
    | exact wpAny_bind (wpAny_pure (held_again b3 fun h' hh hs => hE h' ⟨⟨B, t, vs, b1, b2, hh, b4, b5.of_slots hs⟩, up.trans hs⟩))
    | exact held_again b3 fun h' hh hs => hE h' ⟨⟨B, t, vs, b1, b2, hh, b4, b5.of_slots hs⟩, up.trans hs⟩
theorem note_fly (hfr : A.frames = some (env :: outer)) (hf : env.frame = some L) (F : Fly base h1 fs (env :: outer) e C' s'.heap)
    (hQ : ∀ h', Hld base h1 fs (env :: outer) L e C' h' → Q () { s' with heap := h' }) : wpAny M A (noteFrame (.ref e) env) Q E s' := by
  obtain ⟨⟨B, t, vs, b1, b2, b3, b4, b5⟩, up⟩ := F
  exact wpAny_looks_onW hfr hf b3 fun h₄ x1 x2 => hQ h₄ ⟨⟨B, t, vs, b1, b2, x1, b4, b5.of_slots x2⟩, up.trans x2⟩
theorem note_held (hf : env.frame = some L) (F : Hld base h1 fs l L e C' s'.heap) (hQ : Q () s') : wpAny M A (noteFrame (.ref e) env) Q E s' := by
  obtain ⟨⟨B, t, vs, b1, b2, b3, b4, b5⟩, up⟩ := F
  exact wpAny_noteFrame_againW hf b3.2.2.2 hQ
theorem held_on (hf : env.frame = some L) (F : Hld base h1 fs (env :: outer) L e C' s'.heap)
    (hQ : ∀ h', Fly base h1 fs outer e C' h' → Q () { s' with heap := h' }) : wpAny M A (leaving env (.ref e)) Q E s' := by
  obtain ⟨⟨B, t, vs, b1, b2, b3, b4, b5⟩, up⟩ := F
  unfold leaving
  refine wpAny_bind (wpAny_noteFrame_againW hf b3.2.2.2 ?_)
  refine wpAny_landsW b3 fun h' hfl hs => ?_
  obtain ⟨k1, k2, ⟨_, _, k3⟩, k4⟩ := hfl
  exact hQ h' ⟨⟨B, t, vs, b1, b2, ⟨k1, k2, k3, k4⟩, b4, b5.of_slots hs⟩, up.trans hs⟩
/-- what was made in this frame is noted by it -/
theorem note_made (K : Below A base (env :: outer) h1) (hf : env.frame = some L) (hx : Heap.MadeExcOf h1 s'.heap e (.ref C') vs)
    (hQ : ∀ h', Hld base h1 ((env :: outer).filterMap (·.frame)) (env :: outer) L e C' h' → Q () { s' with heap := h' }) : wpAny M A (noteFrame (.ref e) env) Q E s' := by
  obtain ⟨t, he, tn, ht⟩ := hx.there
  have inF : ∀ env' ∈ (env :: outer), ∀ b, env'.frame = some b → b ∈ (env :: outer).filterMap (·.frame) := fun env' m b q => List.mem_filterMap.mpr ⟨env', m, q⟩
  have hid : ∀ b, h1.get? b = none → (hideAll h1 ((env :: outer).filterMap (·.frame))).get? b = none := fun b q => by
    cases w : (hideAll h1 ((env :: outer).filterMap (·.frame))).get? b with
    | none => rfl
    | some o => have := of_hideAll _ w; rw [q] at this; cases this
  have FF := (funFrames_hide K.frames inF).of_keeps fun b o q _ => ⟨o, hx.keeps b o q, rfl⟩
  have ST : (hideAll h1 ((env :: outer).filterMap (·.frame))).StaysIn s'.heap := fun b o q => hx.keeps b o (of_hideAll _ q)
  unfold noteFrame
  simp only [hf]
  refine wpAny_bind (wpAny_field he rfl (x := .none) rfl ?_)
  rw [if_neg (by decide)]
  refine wpAny_entryW (a0 := .ref t) K.stack FF hf he ST (hid e hx.new) rfl (by simp) rfl fun h' N => hQ h' ?_
  obtain ⟨n1, n2, n3, n4⟩ := N
  have up : s'.heap.UpToSlots h' := n4
  refine ⟨⟨_, t, vs, fun b o q => hideAll_get _ (K.stays b o q) fun m => ?_, fun b o q nm => hideAll_get _ q nm, ⟨n1, hid e hx.new, n2, n3⟩, hid t tn, Heap.TupAt.of_slots ⟨_, _, ht, rfl, rfl⟩ up⟩, (Heap.UpToSlots.of_keeps hx.keeps).trans up⟩
  rw [(K.frames.mem m).1] at q
  cases q
end

/-- the part of a heap that is a frame and its ground -/
noncomputable def partOf (h₀ h : Heap) (L : Addr) : Heap := hideAll h ((newsOf h₀ h L).map (·.1))
theorem partOf_get {h₀ h : Heap} {L b : Addr} {o : Obj} (e : h.get? b = some o) (hb : b = L ∨ ∃ o', h₀.get? b = some o') : (partOf h₀ h L).get? b = some o := by
  refine hideAll_get _ e fun q => ?_
  obtain ⟨p, hp, rfl⟩ := List.mem_map.mp q
  obtain ⟨_, n1, n2⟩ := newsOf_News p hp
  rcases hb with hb | ⟨o', hb⟩
  · exact n1 hb
  · rw [n2] at hb; cases hb
theorem mem_newsOf {h₀ h : Heap} {L b : Addr} {o : Obj} (e : h.get? b = some o) (h1 : b ≠ L) (h2 : h₀.get? b = none) : (b, o) ∈ newsOf h₀ h L := by
  unfold newsOf
  refine List.mem_filterMap.mpr ⟨b, List.mem_range.mpr (Heap.lt_size e), ?_⟩
  rw [e]
  show (if ((h₀.get? b).isNone && b != L) = true then some (b, o) else none) = _
  rw [h2, if_pos (by simp [bne_iff_ne, h1])]
/-- what is left at a frame that may catch it -/
theorem Fly.raised {base h₀ h1 h : Heap} {fs : List Addr} {l : List Env} {e C' L : Addr} (F : Fly base h1 fs l e C' h) (hst : base.StaysIn h₀) (dead : List Addr) (hfs : ∀ b ∈ fs, b ∈ l.filterMap (·.frame) ∨ b ∈ dead) (hdead : ∀ b ∈ dead, h₀.get? b = none ∧ b ≠ L) :
    ∃ t vs, RaisedS base (partOf h₀ h1 L) l e (.ref C') t vs ((newsOf h₀ h1 L).filter fun q => !(fs.contains q.1)) h ∧ (partOf h₀ h1 L).UpToSlots h := by
  obtain ⟨⟨B, t, vs, b1, b2, b3, b4, b5⟩, up⟩ := F
  refine ⟨t, vs, ⟨⟨B, b1, fun b o q nm => ?_, fun q hq => ?_, b3, b4⟩, b5⟩, fun b o q hn => up b o (of_hideAll _ q) hn⟩
  · refine b2 b o (of_hideAll _ q) fun hm => ?_
    rcases hfs b hm with z | z
    · exact nm z
    · have e1 := of_hideAll _ q
      have : (partOf h₀ h1 L).get? b = none := hideAll_none _ (List.mem_map.mpr ⟨_, mem_newsOf e1 (hdead b z).2 (hdead b z).1, rfl⟩)
      rw [this] at q; cases q
  · obtain ⟨hq1, hq2⟩ := List.mem_filter.mp hq
    obtain ⟨n1, n2, n3⟩ := newsOf_News q hq1
    refine ⟨b2 _ _ n1 fun hm => ?_, hideAll_none _ (List.mem_map_of_mem hq1), fresh_of_stays hst n3⟩
    rw [List.contains_iff_mem.mpr hm] at hq2
    cases hq2

/-- the same frame on another ground -/
noncomputable def Fx.on (cx : Fx) (g : Heap) : Fx := { cx with h₀ := g }
/-- nothing of the abstract heap is among these -/
structure Clean (cx : Fx) (fs : List Addr) (cv st : List (Addr × Obj)) (μ : List Addr) (H : AH) (h : Heap) : Prop where
  cMu : ∀ a ∈ μ, a ∉ fs
  cCv : ∀ p ∈ cv, p.1 ∉ fs
  cSt : ∀ p ∈ st, p.1 ∉ fs
  cOb : ∀ (i : Nat) (o : AObj) (a : Addr), H[i]? = some o → μ[i]? = some a → ObjAt cx.C fs st h μ a o
theorem Inv.after {cx : Fx} {m m' : Str → Option Value} {cv st : List (Addr × Obj)} {μ : List Addr} {H : AH} {h1 h6 g' : Heap} {fs : List Addr} (I : Inv cx m cv st μ H h1) (T : KtsTurn (cx.outer.filterMap (·.frame)) cx.h₀ g') (F : Fr g' cx.L h6 m')
    (N : News g' cx.L h6 ((newsOf cx.h₀ h1 cx.L).filter fun q => !(fs.contains q.1))) (hav : ∀ b ∈ cx.outer.filterMap (·.frame), b ∈ cx.av) (cl : Clean cx fs cv st μ H h1) : Inv (cx.on g') m' cv st μ H h6 := by
  have inN : ∀ (b : Addr) (o : Obj), h1.get? b = some o → b ≠ cx.L → b ∉ fs → cx.h₀.get? b = none → h6.get? b = some o ∧ b ≠ cx.L ∧ g'.get? b = none := fun b o e n1 n2 n3 => by
    refine N (b, o) (List.mem_filter.mpr ⟨mem_newsOf e n1 n3, ?_⟩)
    cases q : fs.contains b with
    | false => rfl
    | true => exact absurd (List.contains_iff_mem.mp q) n2
  have get : ∀ (b : Addr) (o : Obj), h1.get? b = some o → b ≠ cx.L → b ∉ fs → b ∉ cx.outer.filterMap (·.frame) → h6.get? b = some o := fun b o e n1 n2 n3 => by
    cases q : cx.h₀.get? b with
    | none => exact (inN b o e n1 n2 q).1
    | some o' =>
      have := I.fr.keep _ _ q
      rw [e] at this
      cases this
      exact F.keep _ _ (T.other _ _ q n3)
  have good : ∀ a ∈ μ, a ≠ cx.L ∧ a ∉ fs ∧ a ∉ cx.outer.filterMap (·.frame) := fun a ha => ⟨fun e => I.muL (e ▸ ha), cl.cMu a ha, fun hm => I.avm a (hav a hm) ha⟩
  refine { fr := F, cvN := fun p hp => ?_, stN := fun p hp => ?_, cm := I.cm, sm := I.sm, cs := I.cs, cc := I.cc, nd := I.nd, len := I.len, obj := fun i o a e1 e2 => ?_, mtb := fun i xs a e1 e2 => ?_, muL := I.muL, avm := I.avm, avh := fun a ha => ?_ }
  · obtain ⟨n1, n2, n3⟩ := I.cvN p hp
    exact inN _ _ n1 n2 (cl.cCv p hp) n3
  · obtain ⟨n1, n2, n3⟩ := I.stN p hp
    exact inN _ _ n1 n2 (cl.cSt p hp) n3
  · obtain ⟨z1, z2, z3⟩ := good a (List.mem_of_getElem? e2)
    have O := I.obj i o a e1 e2
    have O2 := cl.cOb i o a e1 e2
    cases o with
    | list mt xs => obtain ⟨vs, n, e, r⟩ := O; exact ⟨vs, n, get _ _ e z1 z2 z3, r⟩
    | tup xs => obtain ⟨vs, n, e, r⟩ := O; exact ⟨vs, n, get _ _ e z1 z2 z3, r⟩
    | book p q r =>
      obtain ⟨dx, h1', h2, h3, t1, t2, t3, vx, vy, vz, n, e, e', r1, r2, r3, r4, r5⟩ := O
      obtain ⟨dx', _, _, _, _, _, _, _, _, _, _, f, _, _, _, _, f4, _⟩ := O2
      rw [e] at f
      have hdx : dx = dx' := by cases f; rfl
      subst hdx
      exact ⟨dx, h1', h2, h3, t1, t2, t3, vx, vy, vz, n, get _ _ e z1 z2 z3, get _ _ e' (fun z => r4 (z ▸ .head _)) f4 (fun hm => r4 (.tail _ (hav _ hm))), r1, r2, r3, r4, r5⟩
  · obtain ⟨n1, n2⟩ := I.mtb i xs a e1 e2
    exact ⟨T.none_ _ n1, n2⟩
  · obtain ⟨o, ho⟩ := I.avh a ha
    obtain ⟨sl, hs⟩ := T.up ho
    exact ⟨_, hs⟩
theorem FxOk.on {W : Wd} {d : Nat} {cx : Fx} {st : List (Addr × Obj)} {g' : Heap} (ok : FxOk W d cx st) (B : Below cx.A₀ cx.base cx.outer g') (X : W.K.In g') (T : TopRead W.p W.loose W.mg W.mb g') : FxOk W d (cx.on g') st :=
  { B := B, X := X, T := T, fr := ok.fr, ff := ok.ff, fk := ok.fk, dp := ok.dp, un := ok.un, ek := ok.ek, en := ok.en, eg := ok.eg, eb := ok.eb, ce := ok.ce, sl := ok.sl, out := ok.out, loc := ok.loc }
end Mine

/-! ## part C31 -/
namespace Mine
open PySem PySem.W PyProof.Rows

/-- an exception of class c stands at a frame: made there, or come from below -/
inductive ExcAt (W : Wd) (cx : Fx) (st : List (Addr × Obj)) (ρ : Rho) (μ : List Addr) (H : AH) (h : Heap) (e : Addr) (c : Str) : Bool → Prop
  | made (m : Str → Option Value) (cv : List (Addr × Obj)) (h1 : Heap) (C' : Addr) (vs : List Value) (hc : nsIn W.K mainGlobals c = some (some (.ref C'))) (I : Inv cx m cv st μ H h1) (hx : Heap.MadeExcOf h1 h e (.ref C') vs) (V : VarsOK cx m cv μ ρ) (Ci : CellsIn cx cv) : ExcAt W cx st ρ μ H h e c false
  | fly (m : Str → Option Value) (cv : List (Addr × Obj)) (h1 : Heap) (C' : Addr) (fs dead : List Addr) (hc : nsIn W.K mainGlobals c = some (some (.ref C'))) (I : Inv cx m cv st μ H h1) (F : Fly cx.base h1 fs (cx.fenv :: cx.outer) e C' h)
      (hfs : ∀ b ∈ fs, b ∈ (cx.fenv :: cx.outer).filterMap (·.frame) ∨ b ∈ dead) (hdead : ∀ b ∈ dead, cx.h₀.get? b = none ∧ b ≠ cx.L) (cl : Clean cx fs cv st μ H h1) (V : VarsOK cx m cv μ ρ) (Ci : CellsIn cx cv) : ExcAt W cx st ρ μ H h e c true
  | held (m : Str → Option Value) (cv : List (Addr × Obj)) (h1 : Heap) (C' : Addr) (fs dead : List Addr) (hc : nsIn W.K mainGlobals c = some (some (.ref C'))) (I : Inv cx m cv st μ H h1) (F : Hld cx.base h1 fs (cx.fenv :: cx.outer) cx.L e C' h)
      (hfs : ∀ b ∈ fs, b ∈ (cx.fenv :: cx.outer).filterMap (·.frame) ∨ b ∈ dead) (hdead : ∀ b ∈ dead, cx.h₀.get? b = none ∧ b ≠ cx.L) (cl : Clean cx fs cv st μ H h1) (V : VarsOK cx m cv μ ρ) (Ci : CellsIn cx cv) : ExcAt W cx st ρ μ H h e c false

/-- the frames of those that wait are known as such -/
noncomputable def Waits (cx : Fx) : Prop := ∀ b ∈ cx.outer.filterMap (·.frame), b ∈ cx.av
theorem Waits.callee {cx : Fx} {qual : Str} {scope : Scope} {L' f : Addr} {cdv : Value} {g : Heap} (w : Waits cx) (hf : cx.fenv.frame = some cx.L) : Waits (cx.callee qual scope L' f cdv g) := fun b hb => by
  have hb : b ∈ (cx.fenv :: cx.outer).filterMap (·.frame) := hb
  rw [List.filterMap_cons_some (hf : (fun x : Env => x.frame) cx.fenv = some cx.L)] at hb
  rcases List.mem_cons.mp hb with rfl | hb
  · exact .head _
  · exact .tail _ (w b hb)

section
variable {W : Wd} {cx : Fx} {m : Str → Option Value} {cv st : List (Addr × Obj)} {μ μ' : List Addr} {H H' : AH} {h g : Heap} {s' : Shared} {qual : Str} {scope : Scope} {L' f e : Addr} {cdv : Value} {n : Nat} {c : Str} {E : Value → Shared → Prop} {Q : Unit → Shared → Prop} {ρ ρ2 : Rho}
/-- an exception leaves a callee -/
theorem exc_leave (w : Waits cx) (hf : cx.fenv.frame = some cx.L) (I : Inv cx m cv st μ H h) (FG : Fr cx.h₀ cx.L g m) (hst : cx.h₀.StaysIn g) (ok : FxOk W n (cx.callee qual scope L' f cdv g) (cv ++ st)) (V : VarsOK cx m cv μ' ρ) (Ci : CellsIn cx cv) {fl : Bool} (X : ExcAt W (cx.callee qual scope L' f cdv g) (cv ++ st) ρ2 μ' H' s'.heap e c fl)
    (hQ : ∀ h', ExcAt W cx st ρ μ' H' h' e c true → Q () { s' with heap := h' }) : wpAny W.M (cx.callee qual scope L' f cdv g).A (leaving (cx.callee qual scope L' f cdv g).fenv (.ref e)) Q E s' := by
  have B : Below cx.A cx.base (cx.fenv :: cx.outer) g := ok.B
  obtain ⟨oL, hoL⟩ : ∃ o, g.get? cx.L = some o := by obtain ⟨o, _, _, ho, _⟩ := FG.ns; exact ⟨o, ho⟩
  -- what the caller has at the heap where it was raised
  have up : ∀ {m2 : Str → Option Value} {cv2 : List (Addr × Obj)} {h1 : Heap}, Inv (cx.callee qual scope L' f cdv g) m2 cv2 (cv ++ st) μ' H' h1 → Inv cx m cv st μ' H' h1 := fun {m2 cv2 h1} J => by
    have hk : ∀ b o, g.get? b = some o → h1.get? b = some o := J.fr.keep
    refine I.leave FG hst J rfl rfl rfl ⟨FG.ns.keeps hk, fun b o q => hk b o (FG.keep b o q), FG.above⟩ fun p hp => ?_
    obtain ⟨n1, n2, n3⟩ := J.stN p hp
    have n3 : g.get? p.1 = none := n3
    refine ⟨n1, fun q => ?_, kts_none FG.keep n3⟩
    rw [q, hoL] at n3; cases n3
  have frs : ∀ b ∈ (cx.fenv :: cx.outer).filterMap (·.frame), (b = cx.L ∨ b ∈ cx.av) ∧ ∃ o, g.get? b = some o := fun b hb => by
    refine ⟨?_, ?_⟩
    · rw [List.filterMap_cons_some (hf : (fun x : Env => x.frame) cx.fenv = some cx.L)] at hb
      rcases List.mem_cons.mp hb with rfl | hb
      · exact .inl rfl
      · exact .inr (w b hb)
    · obtain ⟨_, o, ho, _⟩ := B.frames.mem hb
      exact ⟨o, ho⟩
  cases X with
  | made m2 cv2 h1 C' vs hc J hx _ _ =>
    have K : Below (cx.callee qual scope L' f cdv g).A cx.base ((cx.callee qual scope L' f cdv g).fenv :: cx.fenv :: cx.outer) h1 := pushX B J.fr rfl ok.fk
    have nL' : g.get? L' = none := kts_self J.fr
    refine fly_made K rfl hx fun h' F => hQ h' (.fly m cv h1 C' _ [L'] hc (up J) F (fun b hb => ?_) (fun b hb => ?_) ⟨fun a ha hm => ?_, fun p hp hm => ?_, fun p hp hm => ?_, fun i o a e1 e2 => ?_⟩ V Ci)
    · rcases List.mem_cons.mp (show b ∈ L' :: (cx.fenv :: cx.outer).filterMap (·.frame) from hb) with rfl | hb
      · exact .inr (.head _)
      · exact .inl hb
    · rw [List.mem_singleton.mp hb]
      exact ⟨kts_none FG.keep nL', fun q => by rw [q, hoL] at nL'; cases nL'⟩
    · rcases List.mem_cons.mp (show a ∈ L' :: (cx.fenv :: cx.outer).filterMap (·.frame) from hm) with rfl | hm
      · exact J.muL ha
      · exact J.avm a (by
          rcases (frs a hm).1 with rfl | z
          · exact .head _
          · exact .tail _ z) ha
    · obtain ⟨_, n2, n3⟩ := J.stN p (List.mem_append_left _ hp)
      have n3 : g.get? p.1 = none := n3
      rcases List.mem_cons.mp (show p.1 ∈ L' :: (cx.fenv :: cx.outer).filterMap (·.frame) from hm) with q | hm
      · exact n2 q
      · obtain ⟨o, ho⟩ := (frs _ hm).2
        rw [n3] at ho; cases ho
    · obtain ⟨_, n2, n3⟩ := J.stN p (List.mem_append_right _ hp)
      have n3 : g.get? p.1 = none := n3
      rcases List.mem_cons.mp (show p.1 ∈ L' :: (cx.fenv :: cx.outer).filterMap (·.frame) from hm) with q | hm
      · exact n2 q
      · obtain ⟨o, ho⟩ := (frs _ hm).2
        rw [n3] at ho; cases ho
    · have O := J.obj i o a e1 e2
      refine ObjAt.turn (show ObjAt cx.C (L' :: cx.L :: cx.av) (cv ++ st) h1 μ' a o from O) (fun l hl => .inl ?_) fun p hp => .inl (List.mem_append_right _ hp)
      rcases List.mem_cons.mp (show l ∈ L' :: (cx.fenv :: cx.outer).filterMap (·.frame) from hl) with rfl | hl
      · exact .head _
      · rcases (frs l hl).1 with rfl | z
        · exact .tail _ (.head _)
        · exact .tail _ (.tail _ z)
  | fly m2 cv2 h1 C' fs dead hc J F hfs hdead cl _ _ =>
    have nL' : g.get? L' = none := kts_self J.fr
    refine fly_on (env := (cx.callee qual scope L' f cdv g).fenv) ok.fr rfl F fun h' F' => hQ h' (.fly m cv h1 C' fs (L' :: dead) hc (up J) F' (fun b hb => ?_) (fun b hb => ?_) ⟨cl.cMu, fun p hp => cl.cSt p (List.mem_append_left _ hp), fun p hp => cl.cSt p (List.mem_append_right _ hp), fun i o a e1 e2 => ?_⟩ V Ci)
    · rcases hfs b hb with z | z
      · rcases List.mem_cons.mp (show b ∈ L' :: (cx.fenv :: cx.outer).filterMap (·.frame) from z) with rfl | z
        · exact .inr (.head _)
        · exact .inl z
      · exact .inr (.tail _ z)
    · rcases List.mem_cons.mp hb with rfl | hb
      · exact ⟨kts_none FG.keep nL', fun q => by rw [q, hoL] at nL'; cases nL'⟩
      · obtain ⟨d1, _⟩ := hdead b hb
        have d1 : g.get? b = none := d1
        exact ⟨kts_none FG.keep d1, fun q => by rw [q, hoL] at d1; cases d1⟩
    · exact ObjAt.turn (show ObjAt cx.C fs (cv ++ st) h1 μ' a o from cl.cOb i o a e1 e2) (fun l hl => .inl hl) fun p hp => .inl (List.mem_append_right _ hp)
  | held m2 cv2 h1 C' fs dead hc J F hfs hdead cl _ _ =>
    have nL' : g.get? L' = none := kts_self J.fr
    refine held_on (env := (cx.callee qual scope L' f cdv g).fenv) rfl F fun h' F' => hQ h' (.fly m cv h1 C' fs (L' :: dead) hc (up J) F' (fun b hb => ?_) (fun b hb => ?_) ⟨cl.cMu, fun p hp => cl.cSt p (List.mem_append_left _ hp), fun p hp => cl.cSt p (List.mem_append_right _ hp), fun i o a e1 e2 => ?_⟩ V Ci)
    · rcases hfs b hb with z | z
      · rcases List.mem_cons.mp (show b ∈ L' :: (cx.fenv :: cx.outer).filterMap (·.frame) from z) with rfl | z
        · exact .inr (.head _)
        · exact .inl z
      · exact .inr (.tail _ z)
    · rcases List.mem_cons.mp hb with rfl | hb
      · exact ⟨kts_none FG.keep nL', fun q => by rw [q, hoL] at nL'; cases nL'⟩
      · obtain ⟨d1, _⟩ := hdead b hb
        have d1 : g.get? b = none := d1
        exact ⟨kts_none FG.keep d1, fun q => by rw [q, hoL] at d1; cases d1⟩
    · exact ObjAt.turn (show ObjAt cx.C fs (cv ++ st) h1 μ' a o from cl.cOb i o a e1 e2) (fun l hl => .inl hl) fun p hp => .inl (List.mem_append_right _ hp)
/-- fewer things stand beside -/
theorem ExcAt.less {st' : List (Addr × Obj)} {fl : Bool} (X : ExcAt W cx st ρ μ H h e c fl) (hs : ∀ p ∈ st', p ∈ st) : ExcAt W cx st' ρ μ H h e c fl := by
  have cln : ∀ {fs : List Addr} {cv : List (Addr × Obj)} {h1 : Heap}, Clean cx fs cv st μ H h1 → Clean cx fs cv st' μ H h1 := fun cl =>
    ⟨cl.cMu, cl.cCv, fun p hp => cl.cSt p (hs p hp), fun i o a e1 e2 => ObjAt.turn (cl.cOb i o a e1 e2) (fun l hl => .inl hl) fun p hp => .inl (hs p hp)⟩
  cases X with
  | made m cv h1 C' vs hc I hx V Ci => exact .made m cv h1 C' vs hc (I.lessSt hs) hx V Ci
  | fly m cv h1 C' fs dead hc I F hfs hdead cl V Ci => exact .fly m cv h1 C' fs dead hc (I.lessSt hs) F hfs hdead (cln cl) V Ci
  | held m cv h1 C' fs dead hc I F hfs hdead cl V Ci => exact .held m cv h1 C' fs dead hc (I.lessSt hs) F hfs hdead (cln cl) V Ci
/-- it leaves a loop of the frame's -/
theorem exc_loop {fl : Bool} {n : Nat} (ok : FxOk W n cx st) (w : Waits cx) (hen : cx.env = cx.fenv) (X : ExcAt W cx st ρ μ H s'.heap e c fl) (hE : ∀ h', ExcAt W cx st ρ μ H h' e c false → E (.ref e) { s' with heap := h' }) :
    notedBy W.M cx.A cx.env (fun x s₂ => cameBackBy W.M cx.A cx.env E x s₂) (.ref e) s' := by
  unfold notedBy
  have hff : cx.env.frame = some cx.L := by rw [hen]; exact ok.ff
  cases X with
  | made m cv h1 C' vs hc I hx V Ci =>
    have K' := pushX ok.B I.fr ok.ff ok.fk
    have K : Below cx.A cx.base (cx.fenv :: cx.outer) h1 := ⟨ok.fr, K'.stays, K'.frames⟩
    have frs : ∀ b ∈ (cx.fenv :: cx.outer).filterMap (·.frame), b = cx.L ∨ (b ∈ cx.av ∧ ∃ o, cx.h₀.get? b = some o) := fun b hb => by
      rw [List.filterMap_cons_some (ok.ff : (fun x : Env => x.frame) cx.fenv = some cx.L)] at hb
      rcases List.mem_cons.mp hb with rfl | hb
      · exact .inl rfl
      · obtain ⟨_, o, ho, _⟩ := ok.B.frames.mem hb
        exact .inr ⟨w b hb, o, ho⟩
    have nw : ∀ (b : Addr), b ≠ cx.L → cx.h₀.get? b = none → b ∉ (cx.fenv :: cx.outer).filterMap (·.frame) := fun b n1 n2 hm => by
      rcases frs b hm with z | ⟨_, o, ho⟩
      · exact n1 z
      · rw [n2] at ho; cases ho
    rw [hen]
    refine note_made K ok.ff hx fun h' F' => ?_
    refine back_held (s' := { s' with heap := h' }) ok.ff F' fun h'' F'' => hE h'' (.held m cv h1 C' _ [] hc I F'' (fun b hb => .inl hb) (fun b hb => by cases hb) ⟨fun a ha hm => ?_, fun p hp => nw _ (I.cvN p hp).2.1 (I.cvN p hp).2.2, fun p hp => nw _ (I.stN p hp).2.1 (I.stN p hp).2.2, fun i o a e1 e2 => ?_⟩ V Ci)
    · rcases frs a hm with z | ⟨z, _⟩
      · exact I.muL (z ▸ ha)
      · exact I.avm a z ha
    · refine ObjAt.turn (I.obj i o a e1 e2) (fun l hl => .inl ?_) fun p hp => .inl hp
      rcases frs l hl with rfl | ⟨z, _⟩
      · exact .head _
      · exact .tail _ z
  | fly m cv h1 C' fs dead hc I F hfs hdead cl V Ci =>
    refine note_fly (outer := cx.outer) (by rw [hen]; exact ok.fr) hff (by rw [hen]; exact F) fun h' F' => ?_
    exact back_held (s' := { s' with heap := h' }) hff F' fun h'' F'' => hE h'' (.held m cv h1 C' fs dead hc I (by rw [hen] at F''; exact F'') hfs hdead cl V Ci)
  | held m cv h1 C' fs dead hc I F hfs hdead cl V Ci =>
    exact note_held hff F (back_held hff F fun h'' F'' => hE h'' (.held m cv h1 C' fs dead hc I F'' hfs hdead cl V Ci))
end
end Mine

/-! ## part C32 -/
namespace Mine
open PySem PySem.W PyProof.Rows

/-- the classes that are raised: children of ValueError -/
noncomputable abbrev veTail : List Value := [.type "ValueError", .type "Exception", .type "BaseException", .type "object"]
structure ExcCls (K : Frag) (c : Str) (C' : Addr) : Prop where
  ns : nsIn K mainGlobals c = some (some (.ref C'))
  exc : excIn K C' veTail "ValueError.__new__" = true

section
variable {W : Wd} {P : Pg} {Φ : Calls} {C : Addr} {d : Nat} {cx : Fx} {m : Str → Option Value} {cv st : List (Addr × Obj)} {μ : List Addr} {H : AH} {s : Shared} {E : Value → Shared → Prop} {ρ : Rho}
theorem raise_sound {k : Str} {C' : Addr} {u : Str} {kk : Nat} {np cp cpos pos : Pos} {Q : Flow → Shared → Prop} (ok : FxOk W d cx st) (hh : cx.A.handled = none) (I : Inv cx m cv st μ H s.heap) (hg : cx.c.global k = true) (hc : ExcCls W.K k C') (V : VarsOK cx m cv μ ρ) (Ci : CellsIn cx cv)
    (hE : ∀ e h' tk, ExcAt W cx st ρ μ H h' e k false → E (.ref e) { s with heap := h', toks := tk }) :
    wpAny W.M cx.A (exec (.Raise (some (.Call (.Name k np) [.Constant (.str u) kk cp] [] cpos)) none pos) cx.env) Q E s := by
  obtain ⟨g1, g2⟩ := global_of hg
  have O := (own_of_in ok.X ok.T hc.ns hc.exc).keeps I.fr.keep
  obtain ⟨tl, N, nm, q, bs, hdct, sn, sub, ab, col, dd, k0, k1, k2, k3, k5, mN, hC, hN, hni, T⟩ := O.obj
  refine wpAny_Raise_call_subT (C := C') (nm := nm) (q := q) (N := N) (bs := bs) (bm := tl) (hdct := hdct) (sn := sn) (sub := sub) (ab := ab) (col := col) (dd := dd) (k0 := k0) (k1 := k1) (k2 := k2) (k3 := k3) (k5 := k5)
    F.excBase_ValueError (mN := mN) (T.hasType F.excBase_ValueError.hasBase) hh rfl hni (name_glob ok I g1 g2 hc.ns ⟨rfl, ?_⟩)
  refine evalArgs_all rfl (args_cons (Calls.Constant_str ?_) rfl)
  exact args_nil ⟨rfl, by show 1 ≤ sizeLine; decide, hC, hN, T, fun h' e hx => hE e h' _ (.made m cv s.heap C' _ hc.ns I hx V Ci)⟩
end

/-! raising runs -/
section
variable (P : Pg) (Φ : Calls) (F : Str → List AV → AH → Str → AH → Prop)
inductive RxE : ME → Rho → AH → Str → AH → Prop
  | call {f : Str} {es : List ME} {ρ : Rho} {H H₁ H' : AH} {vs : List AV} {c : Str} (h0 : (P.fns.lookup f).isSome = true) (h1 : evs P Φ es ρ H = .ok vs H₁) (h2 : F f vs H₁ c H') : RxE (.call f es) ρ H c H'
  | idx {a i : ME} {ρ : Rho} {H H' : AH} {c : Str} (h : RxE a ρ H c H') : RxE (.idx a i) ρ H c H'
  | arg {o e : ME} {ρ : Rho} {H H₁ H' : AH} {x : AV} {c : Str} (h1 : ev P Φ o ρ H = .ok x H₁) (hl : isLst x H₁ = true) (h : RxE e ρ H₁ c H') : RxE (.meth .append o e) ρ H c H'
/-- some turns of a loop -/
inductive LoopTo (it : It) (x : Nat) (body : List MS) : Nat → Nat → Rho → AH → Rho → AH → Prop
  | done {k : Nat} {ρ : Rho} {H : AH} : LoopTo it x body k 0 ρ H ρ H
  | step {k j : Nat} {v : AV} {ρ ρ₁ ρ' : Rho} {H H₁ H' : AH} (h1 : (it.all H).bind (·[k]?) = some v) (h2 : exs P Φ body (ρ.set x (some v)) H = .ok (.next ρ₁) H₁) (h3 : LoopTo it x body (k + 1) j ρ₁ H₁ ρ' H') : LoopTo it x body k (j + 1) ρ H ρ' H'
inductive RxL : List MS → Rho → AH → Str → AH → Rho → Bool → Prop
  | later {t : MS} {r : List MS} {ρ ρ' ρo : Rho} {H H₁ H' : AH} {c : Str} {fl : Bool} (h1 : ex P Φ t ρ H = .ok (.next ρ') H₁) (h2 : RxL r ρ' H₁ c H' ρo fl) : RxL (t :: r) ρ H c H' ρo fl
  | raise {k : Str} {r : List MS} {ρ : Rho} {H : AH} : RxL (.raise k :: r) ρ H k H ρ false
  | expr {e : ME} {r : List MS} {ρ : Rho} {H H' : AH} {c : Str} (h : RxE P Φ F e ρ H c H') : RxL (.expr e :: r) ρ H c H' ρ true
  | ret {e : ME} {r : List MS} {ρ : Rho} {H H' : AH} {c : Str} (h : RxE P Φ F e ρ H c H') : RxL (.ret e :: r) ρ H c H' ρ true
  | assign {i : Nat} {e : ME} {r : List MS} {ρ : Rho} {H H' : AH} {c : Str} (h : RxE P Φ F e ρ H c H') : RxL (.assign i e :: r) ρ H c H' ρ true
  | ite {e : ME} {a b r : List MS} {ρ ρo : Rho} {H H₁ H' : AH} {t : Bool} {c : Str} {fl : Bool} (h1 : ev P Φ e ρ H = .ok (.bool t) H₁) (h2 : RxL (if t then a else b) ρ H₁ c H' ρo fl) : RxL (.ite e a b :: r) ρ H c H' ρo fl
  | for_ {x : Nat} {it : MI} {body r : List MS} {ρ ρ₁ ρo : Rho} {H H₁ H₂ H' : AH} {t : It} {v : AV} {n : Nat} {c : Str} {fl : Bool} (h1 : evI P Φ it ρ H = .ok t H₁) (h2 : LoopTo P Φ t x body 0 n ρ H₁ ρ₁ H₂) (h3 : (t.all H₂).bind (·[n]?) = some v) (h4 : RxL body (ρ₁.set x (some v)) H₂ c H' ρo fl) : RxL (.for_ x it body :: r) ρ H c H' ρo false
end
noncomputable def RxF (P : Pg) : Nat → Str → List AV → AH → Str → AH → Prop
  | 0, _, _, _, _, _ => False
  | n + 1, f, args, H, c, H' => ∃ d ρo fl, P.fns.lookup f = some d ∧ args.length = d.np ∧ RxL P (callN P n) (RxF P n) d.body (args.map some ++ List.replicate (d.ns - d.np) none) H c H' ρo fl
end Mine

/-! ## part C33 -/
namespace Mine
open PySem PySem.W PyProof.Rows

/-! what a text must be that is translated so -/
theorem orBadS_inv {α : Type} {o : Option α} {k : α → MS} {X : MS} (h : orBadS o k = X) (hX : X ≠ .bad) : ∃ a, o = some a ∧ k a = X := by
  cases o with
  | none => exact absurd h.symm hX
  | some a => exact ⟨a, rfl, h⟩
theorem orBad_inv {α : Type} {o : Option α} {k : α → ME} {X : ME} (h : orBad o k = X) (hX : X ≠ .bad) : ∃ a, o = some a ∧ k a = X := by
  cases o with
  | none => exact absurd h.symm hX
  | some a => exact ⟨a, rfl, h⟩
theorem butBad_inv {b : Bool} {e X : ME} (h : butBad b e = X) (hX : X ≠ .bad) : b = true ∧ e = X := by
  cases b with
  | false => exact absurd h.symm hX
  | true => exact ⟨rfl, h⟩
/-- which kind of statement -/
inductive TagS where
  | assign | setItem | expr | ret | ite | for_ | raise | bad
noncomputable def MS.tag : MS → TagS
  | .assign .. => .assign | .setItem .. => .setItem | .expr _ => .expr | .ret _ => .ret | .ite .. => .ite | .for_ .. => .for_ | .raise _ => .raise | .bad => .bad
theorem orBadS_tag {α : Type} {o : Option α} {k : α → MS} {T : TagS} (h : ∀ a, (k a).tag = T ∨ (k a).tag = .bad) : (orBadS o k).tag = T ∨ (orBadS o k).tag = .bad := by
  cases o with
  | none => exact .inr rfl
  | some a => exact h a
theorem asg1_tag {c : Cx} {v : ME} {t : Expr} : ((asg1 c v t).tag = .assign ∧ ∃ x p i, t = .Name x p ∧ slotOf c x = some i ∧ asg1 c v t = .assign i v) ∨ (asg1 c v t).tag = .setItem ∨ (asg1 c v t).tag = .bad := by
  cases t with
  | Name x p =>
    show ((orBadS (slotOf c x) fun i => .assign i v).tag = _ ∧ _) ∨ (orBadS (slotOf c x) fun i => .assign i v).tag = _ ∨ (orBadS (slotOf c x) fun i => .assign i v).tag = _
    cases e : slotOf c x with
    | none => exact .inr (.inr rfl)
    | some i => exact .inl ⟨rfl, x, p, i, rfl, e, congrArg (fun o => orBadS o fun i => MS.assign i v) e⟩
  | Subscript o i p =>
    show _ ∨ (if isSlice i then MS.bad else .setItem (cE o c) (cE i c) v).tag = _ ∨ (if isSlice i then MS.bad else .setItem (cE o c) (cE i c) v).tag = _
    by_cases q : isSlice i = true
    · rw [if_pos q]; exact .inr (.inr rfl)
    · rw [if_neg q]; exact .inr (.inl rfl)
  | _ => exact .inr (.inr rfl)

/-- the statements that matter, by what they become -/
inductive InvS (c : Cx) : Stmt → Prop
  | assign (x : Str) (p pos : Pos) (v : Expr) (i : Nat) (hi : slotOf c x = some i) (h : cS (.Assign [.Name x p] v pos) c = .assign i (cE v c)) : InvS c (.Assign [.Name x p] v pos)
  | expr (e : Expr) (pos : Pos) (h : cS (.Expr e pos) c = .expr (cE e c)) : InvS c (.Expr e pos)
  | ret (v : Option Expr) (pos : Pos) : InvS c (.Return v pos)
  | ite (t : Expr) (a b : List Stmt) (pos : Pos) : InvS c (.If t a b pos)
  | raise (k u : Str) (kk : Nat) (np cp cpos pos : Pos) (hg : c.global k = true) (h : cS (.Raise (some (.Call (.Name k np) [.Constant (.str u) kk cp] [] cpos)) none pos) c = .raise k) : InvS c (.Raise (some (.Call (.Name k np) [.Constant (.str u) kk cp] [] cpos)) none pos)
  | for_ (x : Str) (p : Pos) (it : Expr) (body : List Stmt) (pos : Pos) (i : Nat) (hi : slotOf c x = some i) (h : cS (.For (.Name x p) it body [] pos) c = .for_ i (mkI (cE it c)) (cSs body c)) : InvS c (.For (.Name x p) it body [] pos)
  | other (t : Stmt) (h : False ∨ (cS t c).tag = .setItem ∨ (cS t c).tag = .bad) : InvS c t
theorem strArg_inv {args : List Expr} (h : strArg args = true) : ∃ u kk cp, args = [.Constant (.str u) kk cp] := by
  unfold strArg at h
  cases e : one1 args with
  | none => rw [e] at h; cases h
  | some x =>
    rw [e] at h
    rw [one1_some e]
    cases x with
    | Constant v kk cp =>
      cases v with
      | str u => exact ⟨u, kk, cp, rfl⟩
      | _ => cases h
    | _ => cases h
theorem invS (c : Cx) (t : Stmt) : InvS c t := by
  cases t with
  | Assign ts v pos =>
    have e0 : cS (.Assign ts v pos) c = orBadS (one1 ts) (asg1 c (cE v c)) := rfl
    cases e : one1 ts with
    | none => exact .other _ (.inr (.inr (by rw [e0, e]; rfl)))
    | some t =>
      obtain rfl := one1_some e
      have e1 : cS (.Assign [t] v pos) c = asg1 c (cE v c) t := rfl
      rcases asg1_tag (c := c) (v := cE v c) (t := t) with ⟨_, x, p, i, rfl, hi, h⟩ | h | h
      · exact .assign x p pos v i hi (e1.trans h)
      · exact .other _ (.inr (.inl (by rw [e1]; exact h)))
      · exact .other _ (.inr (.inr (by rw [e1]; exact h)))
  | Expr e pos =>
    have e0 : cS (.Expr e pos) c = if isComp e then .bad else .expr (cE e c) := rfl
    by_cases q : isComp e = true
    · exact .other _ (.inr (.inr (by rw [e0, if_pos q]; rfl)))
    · exact .expr e pos (by rw [e0, if_neg q])
  | Return v pos => exact .ret v pos
  | If t a b pos => exact .ite t a b pos
  | For t it body e pos =>
    have e0 : cS (.For t it body e pos) c = if e.isEmpty then orBadS ((nameIn t).bind (slotOf c)) fun i => .for_ i (mkI (cE it c)) (cSs body c) else .bad := rfl
    by_cases q : e.isEmpty = true
    · rw [if_pos q] at e0
      cases hn : nameIn t with
      | none => exact .other _ (.inr (.inr (by rw [e0, hn]; rfl)))
      | some x =>
        obtain ⟨px, rfl⟩ := nameIn_some hn
        obtain rfl := List.isEmpty_iff.mp q
        have e1 : cS (.For (.Name x px) it body [] pos) c = orBadS (slotOf c x) fun i => .for_ i (mkI (cE it c)) (cSs body c) := e0
        cases hs : slotOf c x with
        | none => exact .other _ (.inr (.inr (by rw [e1, hs]; rfl)))
        | some i => exact .for_ x px it body pos i hs (by rw [e1, hs]; rfl)
    · exact .other _ (.inr (.inr (by rw [e0, if_neg q]; rfl)))
  | Raise e f pos =>
    cases f with
    | some _ => exact .other _ (.inr (.inr rfl))
    | none =>
      cases e with
      | none => exact .other _ (.inr (.inr rfl))
      | some x =>
        cases x with
        | Call g args kws cpos =>
          have e0 : cS (.Raise (some (.Call g args kws cpos)) none pos) c = if kws.isEmpty && strArg args then orBadS (nameIn g) fun t => if c.global t then .raise t else .bad else .bad := rfl
          by_cases q : (kws.isEmpty && strArg args) = true
          · obtain ⟨q1, q2⟩ := Bool.and_eq_true_iff.mp q
            obtain rfl := List.isEmpty_iff.mp q1
            obtain ⟨u, kk, cp, rfl⟩ := strArg_inv q2
            rw [if_pos q] at e0
            cases g with
            | Name k np =>
              have e1 : cS (.Raise (some (.Call (.Name k np) [.Constant (.str u) kk cp] [] cpos)) none pos) c = if c.global k then .raise k else .bad := e0
              by_cases z : c.global k = true
              · exact .raise k u kk np cp cpos pos z (by rw [e1, if_pos z])
              · exact .other _ (.inr (.inr (by rw [e1, if_neg z]; rfl)))
            | _ => exact .other _ (.inr (.inr (by rw [e0]; rfl)))
          · exact .other _ (.inr (.inr (by rw [e0, if_neg q]; rfl)))
        | _ => exact .other _ (.inr (.inr rfl))
  | _ => exact .other _ (.inr (.inr rfl))
end Mine

/-! ## part C34 -/
namespace Mine
open PySem PySem.W PyProof.Rows

noncomputable def ME.tag : ME → Nat
  | .call .. => 1
  | .idx .. => 2
  | .meth .. => 3
  | _ => 0
theorem orBad_tag {α : Type} {o : Option α} {k : α → ME} (h : ∀ a, (k a).tag = 0) : (orBad o k).tag = 0 := by
  cases o with
  | none => rfl
  | some a => exact h a
theorem butBad_tag {b : Bool} {e : ME} (h : e.tag = 0) : (butBad b e).tag = 0 := by
  cases b with
  | false => rfl
  | true => exact h
theorem mkCall_tag {f : Str} {args : List Expr} {c : Cx} {es : List ME} : mkCall f args c es = .call f es ∨ (mkCall f args c es).tag = 0 := by
  unfold mkCall
  split
  · refine .inr ?_
    unfold isiOf
    cases args with
    | nil => rfl
    | cons _ r => exact orBad_tag fun _ => orBad_tag fun _ => by cases es <;> rfl
  split
  · exact .inr rfl
  split
  · exact .inr (orBad_tag fun _ => rfl)
  split
  · exact .inr (orBad_tag fun _ => rfl)
  split
  · exact .inr (orBad_tag fun _ => rfl)
  split
  · exact .inr (orBad_tag fun _ => rfl)
  cases biOf f with
  | some b => exact .inr rfl
  | none => exact .inl rfl
theorem invE (c : Cx) (x : Expr) : (∃ f fp args pos, x = .Call (.Name f fp) args [] pos ∧ c.global f = true ∧ args.any isStar = false ∧ cE x c = .call f (cEs args c)) ∨ (∃ v i pos, x = .Subscript v i pos ∧ isSlice i = false ∧ cE x c = .idx (cE v c) (cE i c)) ∨ (∃ o mn ap y pos k, x = .Call (.Attribute o mn ap) [y] [] pos ∧ isCall o = false ∧ isStar y = false ∧ (ap.endLine == pos.line) = true ∧ mtOf mn = some k ∧ cE x c = .meth k (cE o c) (cE y c)) ∨ (cE x c).tag = 0 := by
  cases x with
  | Constant v k p => exact .inr (.inr <| .inr (by show (cstOf v).tag = 0; cases v <;> rfl))
  | Name x p =>
    refine .inr (.inr <| .inr (butBad_tag ?_))
    cases slotOf c x with
    | some i => rfl
    | none => exact butBad_tag rfl
  | BinOp l op r p => exact .inr (.inr <| .inr (orBad_tag fun _ => rfl))
  | UnaryOp op x p => exact .inr (.inr <| .inr (by show (unOf op (cE x c)).tag = 0; cases op <;> rfl))
  | BoolOp op vs p =>
    refine .inr (.inr <| .inr ?_)
    show (butBad (decide (2 ≤ vs.length)) (mkBool op (cEs vs c))).tag = 0
    match vs with
    | [] => rfl
    | [_] => rfl
    | a :: b :: r =>
      refine butBad_tag ?_
      show (match op with
        | .And => ME.and_ (cE a c) (mkBool op (cEs (b :: r) c))
        | .Or => ME.or_ (cE a c) (mkBool op (cEs (b :: r) c))).tag = 0
      cases op <;> rfl
  | Compare l ops rs p =>
    refine .inr (.inr <| .inr (orBad_tag fun _ => butBad_tag (orBad_tag fun op => ?_)))
    cases inOf op with
    | some neg => rfl
    | none => exact orBad_tag fun _ => rfl
  | Call f args kws pos =>
    have e0 : cE (.Call f args kws pos) c = butBad kws.isEmpty (cF f args pos c (cEs args c)) := rfl
    cases f with
    | Attribute o m ap =>
      have e1 : cE (.Call (.Attribute o m ap) args kws pos) c = butBad kws.isEmpty (match smOf m with | some k => smCall o args ap pos (cE o c) (cEs args c) k | none => if args.isEmpty && m == ("pop" : Str) then butBad (!(isCall o) && ap.endLine == pos.line) (.pop (cE o c)) else orBad (mtOf m) fun k => orBad (one1 (cEs args c)) fun e => butBad (!(isCall o) && !(args.any isStar) && ap.endLine == pos.line) (.meth k (cE o c) e)) := rfl
      cases q : kws.isEmpty with
      | false => exact .inr (.inr <| .inr (by rw [e1, q]; rfl))
      | true =>
        obtain rfl := List.isEmpty_iff.mp q
        cases hs : smOf m with
        | some k => rw [hs] at e1; exact .inr (.inr <| .inr (by rw [e1]; exact butBad_tag (orBad_tag fun _ => butBad_tag rfl)))
        | none =>
          rw [hs] at e1
          by_cases hpop : (args.isEmpty && m == ("pop" : Str)) = true
          · have e2 : cE (.Call (.Attribute o m ap) args [] pos) c = if args.isEmpty && m == ("pop" : Str) then butBad (!(isCall o) && ap.endLine == pos.line) (.pop (cE o c)) else orBad (mtOf m) fun k => orBad (one1 (cEs args c)) fun e => butBad (!(isCall o) && !(args.any isStar) && ap.endLine == pos.line) (.meth k (cE o c) e) := e1
            exact .inr (.inr <| .inr (by rw [e2, if_pos hpop]; exact butBad_tag rfl))
          · have e2 : cE (.Call (.Attribute o m ap) args [] pos) c = if args.isEmpty && m == ("pop" : Str) then butBad (!(isCall o) && ap.endLine == pos.line) (.pop (cE o c)) else orBad (mtOf m) fun k => orBad (one1 (cEs args c)) fun e => butBad (!(isCall o) && !(args.any isStar) && ap.endLine == pos.line) (.meth k (cE o c) e) := e1
            rw [if_neg hpop] at e2
            cases hm : mtOf m with
            | none => exact .inr (.inr <| .inr (by rw [e2, hm]; rfl))
            | some k =>
              rw [hm] at e2
              cases ho : one1 (cEs args c) with
              | none => exact .inr (.inr <| .inr (by rw [e2, ho]; rfl))
              | some y' =>
                rw [ho] at e2
                have e3 : cE (.Call (.Attribute o m ap) args [] pos) c = butBad (!(isCall o) && !(args.any isStar) && ap.endLine == pos.line) (.meth k (cE o c) y') := e2
                obtain ⟨y, rfl, rfl⟩ := cEs_one ho
                cases hb : (!(isCall o) && !([y].any isStar) && ap.endLine == pos.line) with
                | false => exact .inr (.inr <| .inr (by rw [e3, hb]; rfl))
                | true =>
                  rw [hb] at e3
                  obtain ⟨z1, z2⟩ := Bool.and_eq_true_iff.mp hb
                  obtain ⟨z3, z4⟩ := Bool.and_eq_true_iff.mp z1
                  exact .inr (.inr <| .inl ⟨o, m, ap, y, pos, k, rfl, notT z3, (Bool.or_eq_false_iff.mp (notT z4)).1, z2, hm, e3⟩)
    | Name f fp =>
      have e1 : cE (.Call (.Name f fp) args kws pos) c = butBad kws.isEmpty (butBad (c.global f && !(args.any isStar) && decide (args.length ≤ 30)) (mkCall f args c (cEs args c))) := rfl
      cases q : kws.isEmpty with
      | false => exact .inr (.inr <| .inr (by rw [e1, q]; rfl))
      | true =>
        obtain rfl := List.isEmpty_iff.mp q
        cases z : (c.global f && !(args.any isStar) && decide (args.length ≤ 30)) with
        | false => exact .inr (.inr <| .inr (by rw [e1, z]; rfl))
        | true =>
          rw [z] at e1
          obtain ⟨z1, z2⟩ := callOf_of z
          rcases mkCall_tag (f := f) (args := args) (c := c) (es := cEs args c) with h | h
          · exact .inl ⟨f, fp, args, pos, rfl, z1, z2, e1.trans h⟩
          · exact .inr (.inr <| .inr (by rw [e1]; exact h))
    | _ => exact .inr (.inr <| .inr (by rw [e0]; exact butBad_tag rfl))
  | Subscript v i p =>
    by_cases hsl : isSlice i = true
    · refine .inr (.inr <| .inr ?_)
      cases i with
      | Slice lo hi st p' =>
        show (butBad st.isNone (slOf (cE v c) (cEo lo c) (cEo hi c))).tag = 0
        refine butBad_tag ?_
        cases lo <;> cases hi <;> rfl
      | _ => cases hsl
    · have hi : isSlice i = false := by cases z : isSlice i with
        | false => rfl
        | true => exact absurd z hsl
      exact .inr (.inl ⟨v, i, p, rfl, hi, by cases i <;> first | rfl | cases hi⟩)
  | List es p => exact .inr (.inr <| .inr (butBad_tag rfl))
  | Tuple es k p => exact .inr (.inr <| .inr (butBad_tag rfl))
  | ListComp elt gens sc p =>
    refine .inr (.inr <| .inr (orBad_tag fun g => butBad_tag ?_))
    unfold condOf
    cases cIf gens (c.comp sc g.1) with
    | nil => rfl
    | cons t r => exact butBad_tag rfl
  | _ => exact .inr (.inr <| .inr rfl)

/-- raising calls -/
noncomputable def FOk (W : Wd) (P : Pg) (C : Addr) (d : Nat) (cs : List Str) (F : Str → List AV → AH → Str → AH → Prop) : Prop :=
  ∀ (f : Str) (a : Addr), (P.fns.lookup f).isSome = true → nsIn W.K mainGlobals f = some (some (.ref a)) →
    ∀ (cx : Fx) (m : Str → Option Value) (cv st : List (Addr × Obj)) (μ : List Addr) (H H' : AH) (s : Shared) (avs : List AV) (vs : List Value) (c : Str) (ρ : Rho) (Q : Value → Shared → Prop) (E : Value → Shared → Prop),
      cx.C = C → FxOk W d cx st → cx.A.handled = none → Waits cx → VarsOK cx m cv μ ρ → CellsIn cx cv → Inv cx m cv st μ H s.heap → VsRel μ avs vs → c ∈ cs → F f avs H c H' → (∀ e h' tk μ', μ <+: μ' → ExcAt W cx st ρ μ' H' h' e c true → E (.ref e) { s with heap := h', toks := tk }) → wpAny W.M cx.A (call (.ref a) vs) Q E s

section
variable {W : Wd} {P : Pg} {Φ : Calls} {C : Addr} {d : Nat} {F : Str → List AV → AH → Str → AH → Prop}
theorem rxE_sound (LK : Lk W P C) (ha : ∀ e, S3 W P Φ C d e) {cs : List Str} (hF : FOk W P C d cs F) {e : ME} {ρ : Rho} {H H' : AH} {c : Str} (h : RxE P Φ F e ρ H c H') (hc : c ∈ cs) :
    ∀ (x : Expr) (cx : Fx) (m : Str → Option Value) (cv st : List (Addr × Obj)) (μ : List Addr) (s : Shared) (Q : Value → Shared → Prop) (E : Value → Shared → Prop), cE x cx.c = e → St W C d cx m cv st ρ μ → CellsIn cx cv → Waits cx → Inv cx m cv st μ H s.heap →
      (∀ e h' tk μ', μ <+: μ' → ExcAt W cx st ρ μ' H' h' e c true → E (.ref e) { s with heap := h', toks := tk }) → wpAny W.M cx.A (eval x cx.env) Q E s := by
  induction h with
  | @call f es ρ H H₁ H' vs c h0 h1 h2 =>
    intro x cx m cv st μ s Q E hx T Ci w I hE
    rcases invE cx.c x with ⟨f', fp, args, pos, rfl, hg, hst, e1⟩ | ⟨v, i, pos, rfl, _, e1⟩ | ⟨_, _, _, _, _, _, rfl, _, _, _, _, e1⟩ | e1
    · rw [hx] at e1
      cases e1
      obtain ⟨dd, hd⟩ := Option.isSome_iff_exists.mp h0
      obtain ⟨a, oc, od, osl, name, qual, params, body, scope, doc, pm, cdv, ct, an, f1, f2, f3, f4, _⟩ := LK.fn f dd hd
      refine callR T.ok I hg f1 f4 hst ?_
      refine args_Ss (fun y _ => ha y) cx m cv st ρ μ pos T hst μ H s _ E (pfx _) I ?_
      rw [h1]
      exact fun b h₁ tk₁ μ₁ hp₁ I₁ r₁ => ⟨T.ok.X.keeps I₁.fr.keep, hF f a h0 f1 cx m cv st μ₁ H₁ H' _ vs b c ρ Q E T.c T.ok T.hh w (T.V.mono hp₁) Ci I₁ r₁ hc h2 fun e h' tk μ' hp' X => hE e h' tk μ' (hp₁.trans hp') X⟩
    · rw [hx] at e1; cases e1
    · rw [hx] at e1; cases e1
    · rw [hx] at e1; cases e1
  | @arg o e ρ H H₁ H' x' c h1 hl _ ih =>
    intro x cx m cv st μ s Q E hx T Ci w I hE
    rcases invE cx.c x with ⟨f', fp, args, pos, rfl, hg, hst, e1⟩ | ⟨v, i, pos, rfl, _, e1⟩ | ⟨o', mn, ap, y, pos, k, rfl, z1, z2, z3, z4, e1⟩ | e1
    · rw [hx] at e1; cases e1
    · rw [hx] at e1; cases e1
    · rw [hx] at e1
      cases e1
      have hst : [y].any isStar = false := by rw [List.any_cons, z2]; rfl
      have hfew : ((backTo pos (starEach [y] cx.env)).all (fun x => !x.1) && (backToKw pos (keywordEach [] cx.env)).all (fun x => x.1.isSome) && decide ([y].length + ([] : List Keyword).length + (if ([] : List Keyword).isEmpty then 0 else 1) < 30)) = true := by
        rw [noStar_all hst]; rfl
      rcases mtOf_some z4 with ⟨rfl, _⟩ | ⟨_, z⟩ | ⟨_, z⟩
      · refine wpAny_Call_method (base_plain z1) hfew z3 PySem.F.plainAttrs_list PySem.F.slot_list_append ty_append ((ha o').E cx m cv st ρ μ T μ H s _ E (pfx _) I ?_)
        rw [h1]
        intro va h₁ tk₁ μ₁ hp₁ I₁ r₁
        obtain ⟨xs, hxs⟩ := Option.isSome_iff_exists.mp hl
        obtain ⟨i, ad, mt, vs, n, rfl, rfl, ha', q, hl', hr⟩ := I₁.lst r₁ hxs
        refine ⟨⟨_, hl', rfl⟩, (fun a e => by cases e; exact ⟨_, hl', rfl⟩), ?_⟩
        rw [starEach_cons z2]
        exact PySem.P.append_list (ih hc y cx m cv st μ₁ { s with heap := h₁, toks := tk₁ } _ E rfl ⟨T.c, T.ok, T.V.mono hp₁, T.hh⟩ Ci w I₁ fun e h' tk μ' hp' X => hE e h' tk μ' (hp₁.trans hp') X)
      · cases z
      · cases z
    · rw [hx] at e1; cases e1
  | @idx a i ρ H H' c _ ih =>
    intro x cx m cv st μ s Q E hx T Ci w I hE
    rcases invE cx.c x with ⟨f', fp, args, pos, rfl, hg, hst, e1⟩ | ⟨v, j, pos, rfl, _, e1⟩ | ⟨_, _, _, _, _, _, rfl, _, _, _, _, e1⟩ | e1
    · rw [hx] at e1; cases e1
    · rw [hx] at e1
      cases e1
      exact Subscript_ (ih hc v cx m cv st μ s _ E rfl T Ci w I hE)
    · rw [hx] at e1; cases e1
    · rw [hx] at e1; cases e1
end
end Mine

/-! ## part C35 -/
namespace Mine
open PySem PySem.W PyProof.Rows

section
variable {W : Wd} {P : Pg} {Φ : Calls} {C : Addr} {d : Nat} {F : Str → List AV → AH → Str → AH → Prop}
theorem tag_no {t : MS} (h : False ∨ t.tag = .setItem ∨ t.tag = .bad) {T : TagS} (e : t.tag = T) (n2 : T ≠ .setItem) (n3 : T ≠ .bad) : False := by
  rcases h with h | h | h
  · exact h
  · exact n2 (e.symm.trans h)
  · exact n3 (e.symm.trans h)
theorem rxE_tag {e : ME} {ρ : Rho} {H H' : AH} {c : Str} (h : RxE P Φ F e ρ H c H') : e.tag ≠ 0 := by
  cases h with
  | call _ _ _ => exact fun z => by cases z
  | idx _ => exact fun z => by cases z
  | arg _ _ _ => exact fun z => by cases z
/-- a loop that ends by raising -/
theorem for_raise (ha : ∀ e, S3 W P Φ C d e) {x : Str} {px pos : Pos} {iter : Expr} {body : List Stmt} {i n : Nat} {it : It} {v : AV} {cx : Fx} {m : Str → Option Value} {cv stk : List (Addr × Obj)} {ρ ρ₁ ρo : Rho} {μ : List Addr} {H H₁ H₂ H' : AH} {s : Shared} {c : Str} {fl : Bool} {Q : Flow → Shared → Prop} {E : Value → Shared → Prop}
    (T : Sg W C d cx m cv stk ρ μ) (w : Waits cx) (hen : cx.env = cx.fenv) (I : Inv cx m cv stk μ H s.heap) (hs : slotOf cx.c x = some i) (hv : evI P Φ (mkI (cE iter cx.c)) ρ H = .ok it H₁) (h2 : LoopTo P Φ it i (cSs body cx.c) 0 n ρ H₁ ρ₁ H₂) (h3 : (it.all H₂).bind (·[n]?) = some v)
    (hb : ∀ (m' : Str → Option Value) (cv' st' : List (Addr × Obj)) (μ' : List Addr) (s' : Shared) (Q' : Flow → Shared → Prop) (E' : Value → Shared → Prop), Sg W C d cx m' cv' st' (ρ₁.set i (some v)) μ' → Inv cx m' cv' st' μ' H₂ s'.heap → (∀ e h' tk μ'', μ' <+: μ'' → ExcAt W cx st' ρo μ'' H' h' e c fl → E' (.ref e) { s' with heap := h', toks := tk }) → wpAny W.M cx.A (execs body cx.env) Q' E' s')
    (hE : ∀ e h' tk μ', μ <+: μ' → ExcAt W cx stk ρo μ' H' h' e c false → E (.ref e) { s with heap := h', toks := tk }) : wpAny W.M cx.A (exec (.For (.Name x px) iter body [] pos) cx.env) Q E s := by
  by_cases hset : ∀ x, foldedSetIterable iter cx.env x = pure x
  · refine wpAny_For ((ha iter).I cx m cv stk ρ μ T.toSt μ H s _ E (pfx _) I ?_) hset
    rw [hv]
    intro b h₁ tk₁ μ₁ hp₁ I₁ r₁
    obtain ⟨_, ys, hy⟩ := evI_facts hv
    refine iter_sound I₁ r₁ hy fun J o h₂ hi I₂ sJ _ => ?_
    refine codeAny_forLoop_any (fun j s' => ∃ (k : Nat) (ρ' : Rho) (m' : Str → Option Value) (cv' : List (Addr × Obj)) (o : Obj) (μ' : List Addr) (Hk : AH) (h' : Heap) (tk : Nat), s' = { s with heap := h', toks := tk } ∧ k + j = n ∧ μ₁ <+: μ' ∧ Inv cx m' cv' ((J, o) :: stk) μ' Hk h' ∧ ItO μ' o it k ∧ VarsOK cx m' cv' μ' ρ' ∧ CellsIn cx cv' ∧ LoopTo P Φ it i (cSs body cx.c) k j ρ' Hk ρ₁ H₂) ?_ n
      ⟨0, ρ, m, cv, o, μ₁, H₁, h₂, tk₁, rfl, Nat.zero_add _, pfx _, I₂, hi, T.V.mono hp₁, T.Ci, h2⟩
    rintro j s' ⟨k, ρ', m', cv', o', μ', Hk, h', tk, rfl, hk, hp, I', hi', V', Ci', L⟩
    cases L with
    | done =>
      obtain rfl : k = n := hk
      refine next_item I' sJ hi' h3 fun b o₁ h₃ tk₃ hi₃ I₃ rv => ?_
      show wpAny _ _ (letOwnedTupleGo (.Name x px) _ b) _ _ _
      refine wpAny_pure ?_
      refine wpAny_assign_Name (store_sound hs (T.ok.onSt T.fo) T.fo V' Ci' I₃ rv fun h₄ tk₄ m₄ cv₄ I₄ V₄ Ci₄ => ?_)
      refine hb m₄ cv₄ ((J, o₁) :: stk) μ' _ _ _ (T.new V₄ Ci₄) I₄ fun e h₅ tk₅ μ₅ hp₅ X => ?_
      exact exc_loop (s' := { s with heap := h₅, toks := tk₅ }) T.ok w hen (X.less fun p hp => .tail _ hp) fun h₆ X₆ => hE e h₆ tk₅ μ₅ ((hp₁.trans hp).trans hp₅) X₆
    | @step _ j v' _ ρ₂ _ _ H₃ _ g1 g2 g3 =>
      refine next_item I' sJ hi' g1 fun b o₁ h₃ tk₃ hi₃ I₃ rv => ?_
      show wpAny _ _ (letOwnedTupleGo (.Name x px) _ b) _ _ _
      refine wpAny_pure ?_
      refine wpAny_assign_Name (store_sound hs (T.ok.onSt T.fo) T.fo V' Ci' I₃ rv fun h₄ tk₄ m₄ cv₄ I₄ V₄ Ci₄ => ?_)
      refine all5s ha body cx m₄ cv₄ ((J, o₁) :: stk) (ρ'.set i (some v')) μ' Hk _ _ _ (T.new V₄ Ci₄) I₄ ?_
      rw [g2]
      intro h₅ tk₅ μ₅ m₅ cv₅ hp₅ I₅ V₅ Ci₅
      exact ⟨j, Nat.lt_succ_self _, k + 1, ρ₂, m₅, cv₅, o₁, μ₅, H₃, h₅, tk₅, rfl, by decreasing_trivial, hp.trans hp₅, I₅, hi₃.mono hp₅, V₅, Ci₅, g3⟩
  · have hb' : ∀ c, cE iter c = .bad := fun c => by
      cases iter <;> first | (exact absurd (fun _ => rfl) hset) | rfl
    rw [hb'] at hv
    cases hv
/-- the classes that the text names -/
noncomputable def ClsOk (W : Wd) (cs : List Str) : Prop := ∀ k ∈ cs, ∃ C', ExcCls W.K k C'
theorem rxL_sound (LK : Lk W P C) (ha : ∀ e, S3 W P Φ C d e) {cs : List Str} (hF : FOk W P C d cs F) (hcs : ClsOk W cs) {ms : List MS} {ρ ρo : Rho} {H H' : AH} {c : Str} {fl : Bool} (h : RxL P Φ F ms ρ H c H' ρo fl) (hc : c ∈ cs) :
    ∀ (ts : List Stmt) (cx : Fx) (m : Str → Option Value) (cv st : List (Addr × Obj)) (μ : List Addr) (s : Shared) (Q : Flow → Shared → Prop) (E : Value → Shared → Prop), cSs ts cx.c = ms → Sg W C d cx m cv st ρ μ → Waits cx → cx.env = cx.fenv → Inv cx m cv st μ H s.heap →
      (∀ e h' tk μ', μ <+: μ' → ExcAt W cx st ρo μ' H' h' e c fl → E (.ref e) { s with heap := h', toks := tk }) → wpAny W.M cx.A (execs ts cx.env) Q E s := by
  have cons : ∀ {ts : List Stmt} {c : Cx} {t : MS} {r : List MS}, cSs ts c = t :: r → ∃ t' r', ts = t' :: r' ∧ cS t' c = t ∧ cSs r' c = r := fun {ts c t r} e => by
    cases ts with
    | nil => cases e
    | cons t' r' => cases e; exact ⟨t', r', rfl, rfl, rfl⟩
  induction h with
  | @later t r ρ ρ' ρo H H₁ H' c fl h1 h2 ih =>
    intro ts cx m cv st μ s Q E hx T w hen I hE
    obtain ⟨t', r', rfl, rfl, rfl⟩ := cons hx
    refine wpAny_execs_cons (all5 ha t' cx m cv st ρ μ H s _ E T I ?_)
    rw [h1]
    exact fun h' tk μ' m' cv' hp I' V' Ci' => ih hc r' cx m' cv' st μ' _ Q E rfl (T.new V' Ci') w hen I' fun e h'' tk' μ'' hp' X => hE e h'' tk' μ'' (hp.trans hp') X
  | @raise k r ρ H =>
    intro ts cx m cv st μ s Q E hx T w hen I hE
    obtain ⟨t', r', rfl, e1, rfl⟩ := cons hx
    obtain ⟨C', hC'⟩ := hcs k hc
    refine wpAny_execs_cons ?_
    cases invS cx.c t' with
    | raise k' u kk np cp cpos pos hg h =>
      rw [e1] at h
      cases h
      exact raise_sound T.ok T.hh I hg hC' T.V T.Ci fun e h' tk X => hE e h' tk μ (pfx _) X
    | assign x p pos v i hi h => rw [e1] at h; cases h
    | expr e pos h => rw [e1] at h; cases h
    | ret v pos => cases e1
    | ite t a b pos => cases e1
    | for_ y p ite body' pos i' hi h' => rw [e1] at h'; cases h'
    | other t h => exact (tag_no h (congrArg MS.tag e1) (fun z => by cases z) (fun z => by cases z)).elim
  | @expr e r ρ H H' c h =>
    intro ts cx m cv st μ s Q E hx T w hen I hE
    obtain ⟨t', r', rfl, e1, rfl⟩ := cons hx
    refine wpAny_execs_cons ?_
    cases invS cx.c t' with
    | expr x pos h' =>
      rw [e1] at h'
      cases h'
      have hi : interactive cx.env = false := by unfold interactive; rw [T.ok.ek]; rfl
      have hsw : swapsWith x none pos.line cx.env = pure false := by
        rcases invE cx.c x with ⟨f', fp, args, pos', rfl, _⟩ | ⟨v, j, pos', rfl, _⟩ | ⟨_, _, _, _, _, _, rfl, _⟩ | e2
        · rfl
        · rfl
        · rfl
        · exact absurd e2 (rxE_tag h)
      rw [exec_Expr cx.env x pos hi hsw]
      exact wpAny_bind (wpAny_standAt (wpAny_bind (rxE_sound LK ha hF h hc x cx m cv st μ s _ E rfl T.toSt T.Ci w I hE)))
    | raise k' u kk np cp cpos pos hg h' => rw [e1] at h'; cases h'
    | assign x p pos v i hi h' => rw [e1] at h'; cases h'
    | ret v pos => cases e1
    | ite t a b pos => cases e1
    | for_ y p ite body' pos i' hi h' => rw [e1] at h'; cases h'
    | other t h' => exact (tag_no h' (congrArg MS.tag e1) (fun z => by cases z) (fun z => by cases z)).elim
  | @ret e r ρ H H' c h =>
    intro ts cx m cv st μ s Q E hx T w hen I hE
    obtain ⟨t', r', rfl, e1, rfl⟩ := cons hx
    refine wpAny_execs_cons ?_
    cases invS cx.c t' with
    | ret v pos =>
      cases v with
      | none => cases e1; cases h
      | some x =>
        cases e1
        exact wpAny_Return_some (rxE_sound LK ha hF h hc x cx m cv st μ s _ E rfl T.toSt T.Ci w I hE)
    | expr x pos h' => rw [e1] at h'; cases h'
    | raise k' u kk np cp cpos pos hg h' => rw [e1] at h'; cases h'
    | assign x p pos v i hi h' => rw [e1] at h'; cases h'
    | ite t a b pos => cases e1
    | for_ y p ite body' pos i' hi h' => rw [e1] at h'; cases h'
    | other t h' => exact (tag_no h' (congrArg MS.tag e1) (fun z => by cases z) (fun z => by cases z)).elim
  | @assign i e r ρ H H' c h =>
    intro ts cx m cv st μ s Q E hx T w hen I hE
    obtain ⟨t', r', rfl, e1, rfl⟩ := cons hx
    refine wpAny_execs_cons ?_
    cases invS cx.c t' with
    | assign x p pos v j hj h' =>
      rw [e1] at h'
      cases h'
      rcases swaps_name (value := v) (x := x) (px := p) (n := pos.line) (env := cx.env) with ⟨b, hb, hcase⟩ | hbad
      · cases b with
        | false => exact wpAny_Assign_Name (rxE_sound LK ha hF h hc v cx m cv st μ s _ E rfl T.toSt T.Ci w I hE) hb
        | true =>
          obtain ⟨elt, gens, sc, vpos, rfl⟩ := hcase rfl
          rcases invE cx.c (.ListComp elt gens sc vpos) with ⟨_, _, _, _, z, _⟩ | ⟨_, _, _, z, _⟩ | ⟨_, _, _, _, _, _, z, _⟩ | z
          · cases z
          · cases z
          · cases z
          · exact absurd z (rxE_tag h)
      · exact absurd (congrArg ME.tag (hbad cx.c)) (rxE_tag h)
    | expr x pos h' => rw [e1] at h'; cases h'
    | raise k' u kk np cp cpos pos hg h' => rw [e1] at h'; cases h'
    | ret v pos => cases e1
    | ite t a b pos => cases e1
    | for_ y p ite body' pos i' hi h' => rw [e1] at h'; cases h'
    | other t h' => exact (tag_no h' (congrArg MS.tag e1) (fun z => by cases z) (fun z => by cases z)).elim
  | @ite e a b r ρ ρo H H₁ H' t c fl h1 h2 ih =>
    intro ts cx m cv st μ s Q E hx T w hen I hE
    obtain ⟨t', r', rfl, e1, rfl⟩ := cons hx
    refine wpAny_execs_cons ?_
    cases invS cx.c t' with
    | ite x a' b' pos =>
      cases e1
      refine wpAny_If ((ha x).B cx m cv st ρ μ T.toSt μ H s _ E (pfx _) I ?_)
      show PostG cx m cv st s μ RB _ E ((ev P Φ (cE x cx.c) ρ H).bind truth)
      rw [h1]
      intro y h₁ tk₁ μ₁ hp₁ I₁ r₁
      cases r₁
      cases t with
      | true => exact ih hc a' cx m cv st μ₁ { s with heap := h₁, toks := tk₁ } _ E rfl (T.mono hp₁) w hen I₁ fun e h'' tk' μ'' hp' X => hE e h'' tk' μ'' (hp₁.trans hp') X
      | false => exact ih hc b' cx m cv st μ₁ { s with heap := h₁, toks := tk₁ } _ E rfl (T.mono hp₁) w hen I₁ fun e h'' tk' μ'' hp' X => hE e h'' tk' μ'' (hp₁.trans hp') X
    | expr x pos h' => rw [e1] at h'; cases h'
    | raise k' u kk np cp cpos pos hg h' => rw [e1] at h'; cases h'
    | assign x p pos v i hi h' => rw [e1] at h'; cases h'
    | ret v pos => cases e1
    | for_ y p ite body' pos i' hi h' => rw [e1] at h'; cases h'
    | other t h' => exact (tag_no h' (congrArg MS.tag e1) (fun z => by cases z) (fun z => by cases z)).elim
  | @for_ x it body r ρ ρ₁ ρo H H₁ H₂ H' t v n c fl h1 h2 h3 _ ih =>
    intro ts cx m cv st μ s Q E hx T w hen I hE
    obtain ⟨t', r', rfl, e1, rfl⟩ := cons hx
    refine wpAny_execs_cons ?_
    cases invS cx.c t' with
    | for_ y p iter body' pos i hi h' =>
      rw [e1] at h'
      cases h'
      exact for_raise ha T w hen I hi h1 h2 h3 (fun m' cv' st' μ' s' Q' E' T' I' hE' => ih hc body' cx m' cv' st' μ' s' Q' E' rfl T' w hen I' hE') hE
    | expr x pos h' => rw [e1] at h'; cases h'
    | raise k' u kk np cp cpos pos hg h' => rw [e1] at h'; cases h'
    | assign x p pos v i hi h' => rw [e1] at h'; cases h'
    | ret v pos => cases e1
    | ite t a b pos => cases e1
    | other t h' => exact (tag_no h' (congrArg MS.tag e1) (fun z => by cases z) (fun z => by cases z)).elim
end
end Mine

/-! ## part C36 -/
namespace Mine
open PySem PySem.W PyProof.Rows

section
variable {W : Wd} {P : Pg} {C : Addr}
theorem rxF_ok (LK : Lk W P C) (hB : ∀ d, BookOk W C d) {cs : List Str} (hcs : ClsOk W cs) : ∀ n, n ≤ 21 → FOk W P C n cs (RxF P n)
  | 0 => fun _ f a _ _ cx m cv st μ H H' s avs vs c ρ Q E hc ok hh w VV CC I r hm p _ => p.elim
  | n + 1 => fun hn f a hf ha cx m cv st μ H H' s avs vs c ρ Q E hc ok hh w VV CC I r hm p hE => by
    have ih := callN_ok LK hB n (by decreasing_trivial)
    have ihF := rxF_ok LK hB hcs n (by decreasing_trivial)
    obtain ⟨df, ρo, fl, hdf, hlen, p⟩ := p
    obtain ⟨a', oc, od, osl, name, qual, params, body, scope, doc, pm, cdv, ct, an, e1, e2, e3, e4, e5, e6, e7, e8, e9, e10, rfl⟩ := LK.fn f df hdf
    rw [ha] at e1
    cases e1
    have hlen : avs.length = params.args.length := hlen
    have hvl : params.args.length = vs.length := by rw [← hlen]; exact r.1
    have hpn : (params.args.map (·.arg)).Nodup := by
      rw [← e10]
      refine List.Nodup.sublist (List.take_sublist _ _) ?_
      have : ∀ (names : List (Str × NameKind)) (k : Nat), ((slotsFrom names k).map (·.1)).Sublist (names.map (·.1)) := by
        intro names
        induction names with
        | nil => intro k; simp [slotsFrom]
        | cons q r ih =>
          intro k
          obtain ⟨x, kd⟩ := q
          cases kd <;> simp only [slotsFrom, List.map_cons]
          all_goals first | exact (ih _).cons_cons _ | exact (ih _).cons _
      exact List.Nodup.sublist (this _ _) e9
    have hbl : ((params.args.map (·.arg)).zip vs).map (·.1) = params.args.map (·.arg) := by
      rw [List.map_fst_zip]; simp [hvl]
    have hslot : ∀ (x : Str) (i : Nat), (slotsFrom scope.names 0).lookup x = some i → i < params.args.length → (params.args.map (·.arg))[i]? = some x := fun x i hx hi => by
      rw [← e10, List.getElem?_take, if_pos hi, List.getElem?_map, slots_lookup hx]; rfl
    have hparam : ∀ x ∈ params.args.map (·.arg), scope.names.lookup x = some .local ∨ scope.names.lookup x = some .cell := fun x hx => by
      rw [← e10] at hx
      obtain ⟨q, hq, rfl⟩ := List.mem_map.mp (List.mem_of_mem_take hx)
      exact (slots_mem _ _ _ hq).imp (lookup_nodup e9) (lookup_nodup e9)
    have hin : ∀ (x : Str) (i : Nat) (av : AV), (slotsFrom scope.names 0).lookup x = some i → (avs.map some ++ List.replicate ((cxOf scope).n - params.args.length) none)[i]? = some (some av) → ∃ v, (x, v) ∈ (params.args.map (·.arg)).zip vs ∧ VRel μ av v := by
      intro x i av hx hr
      have hi : i < avs.length := by
        rcases Nat.lt_or_ge i avs.length with h | h
        · exact h
        · rw [List.getElem?_append_right (by simpa using h)] at hr
          rw [List.getElem?_replicate] at hr
          split at hr
          · cases hr
          · cases hr
      rw [List.getElem?_append_left (by simpa using hi), List.getElem?_map] at hr
      have hav : avs[i]? = some av := by
        cases q : avs[i]? with
        | none => rw [q] at hr; cases hr
        | some z => rw [q] at hr; cases hr; rfl
      obtain ⟨v, hv, rv⟩ := r.get hav
      have hx' := hslot x i hx (hlen ▸ hi)
      refine ⟨v, ?_, rv⟩
      refine List.mem_iff_getElem?.mpr ⟨i, ?_⟩
      rw [List.getElem?_zip_eq_some]
      exact ⟨hx', hv⟩
    refine wpAny_call (callX_cells (news := newsOf cx.h₀ s.heap cx.L) ok.B I.fr newsOf_News ok.T.nolimit ok.fr ok.ff ok.fk ((ok.X.keeps I.fr.keep) _ _ e2) rfl (codeRec_of (ok.X.keeps I.fr.keep) e3) (by have := ok.dp; decreasing_trivial)
      (.of_eq (binds_plain e5 hpn hvl)) (kindsX ?_) (cellsFrom_nodup _ _ _ e9 (fun p hp => by cases hp) List.nodup_nil) (fun g L' h₁ tk cells FG F' N' Y B' hst lt => ?_) e6 e7 e8)
    · rw [List.all_eq_true]
      intro y hy
      have : y.1 ∈ params.args.map (·.arg) := by rw [← hbl]; exact List.mem_map_of_mem hy
      rcases hparam y.1 this with q | q <;> simp [q]
    · have Ym := CellsAre.mem Y
      have ge := (cellsFrom_inv (lo := L' + 1) scope.names (L' + 1) [] (fun p hp => by cases hp) List.Pairwise.nil (Nat.le_refl _))
      have G : Ground cx m (bindL (envOfC qual scope L' a cdv).kindOf ((params.args.map (·.arg)).zip vs) fun _ => none) cells s.heap g h₁ L' :=
        ⟨FG, F', N', hst, lt, fun p hp => by obtain ⟨q, hq, e, _⟩ := Ym.2 p hp; rw [← e]; exact ge.1 q hq, fun p hp => by obtain ⟨q, hq, _, e⟩ := Ym.2 p hp; exact ⟨_, e⟩⟩
      have J : Inv (cx.callee qual scope L' a cdv g) (bindL (envOfC qual scope L' a cdv).kindOf ((params.args.map (·.arg)).zip vs) fun _ => none) cells (cv ++ st) μ H h₁ := I.enter G rfl rfl rfl rfl
      have okC : FxOk W n (cx.callee qual scope L' a cdv g) (cv ++ st) := ok.callee hst B' e8 e9 (by decreasing_trivial)
      have V : VarsOK (cx.callee qual scope L' a cdv g) (bindL (envOfC qual scope L' a cdv).kindOf ((params.args.map (·.arg)).zip vs) fun _ => none) cells μ (avs.map some ++ List.replicate ((cxOf scope).n - params.args.length) none) := by
        refine ⟨?_, fun x i av hx hi hr => ?_, fun x i av hx hi hr => ?_⟩
        · show _ = (cxOf scope).n
          have : params.args.length ≤ (cxOf scope).n := by
            have := congrArg List.length e10
            simp only [List.length_take, List.length_map] at this
            show params.args.length ≤ (slotsFrom scope.names 0).length
            decreasing_trivial
          simp only [List.length_append, List.length_map, List.length_replicate, hlen]
          decreasing_trivial
        · obtain ⟨v, hv, rv⟩ := hin x i av hi hr
          exact ⟨v, bindL_at hx _ _ (by rw [hbl]; exact hpn) hv, rv⟩
        · obtain ⟨v, hv, rv⟩ := hin x i av hi hr
          obtain ⟨c, hcl⟩ := okC.ce x hx
          obtain ⟨o, ho, hd⟩ := Ym.1 (x, c) (lookup_mem' hcl)
          exact ⟨c, o, v, hcl, ho, by rw [hd, bindC_at hx _ _ (by rw [hbl]; exact hpn) hv], rv⟩
      have Ci : CellsIn (cx.callee qual scope L' a cdv g) cells := fun x c hx hcl => by
        obtain ⟨o, ho, _⟩ := Ym.1 (x, c) (lookup_mem' hcl)
        exact ⟨o, ho⟩
      refine rxL_sound LK (all_S3 LK ih (hB n)) ihF hcs p hm body (cx.callee qual scope L' a cdv g) _ cells (cv ++ st) μ _ _ _ rfl ⟨⟨hc, okC, V, hh⟩, FrOk.callee, Ci⟩ (w.callee ok.ff) rfl J ?_
      intro e h' tk' μ' hp X
      exact exc_leave (s' := { s with heap := h', toks := tk' }) w ok.ff I FG hst okC (VV.mono hp) CC X fun h'' X' => hE e h'' tk' μ' hp X'
end
end Mine

/-! ## part C37 -/
namespace Mine
open PySem PySem.W PyProof.Rows

section
variable {M : Model} {A : Around} {E : Value → Shared → Prop} {nm q : Str} {C D N : Addr} {bs bm : List Value} {hdct : Bool} {sn : List Str} {sub : List Value} {ab : Bool} {col : Option Bool} {dd : Option Addr} {k0 k1 k2 k3 k5 : Option Value} {newId : String}
  {nm' q' : Str} {N' : Addr} {bs' bm' : List Value} {hdct' : Bool} {sn' : List Str} {sub' : List Value} {ab' : Bool} {col' : Option Bool} {dd' : Option Addr} {k0' k1' k2' k3' k5' : Option Value} {newId' : String}
/-- an exception of an own class against an own class -/
theorem excMatches_own {h : Heap} {g : Array GenState} {d : Drawn} {t : Nat} {os : OsState} {e : Addr} {oe : Obj} {Q : Bool → Shared → Prop}
    (hC : h.get? C = some (excClassObj nm q C N bs bm hdct sn sub ab col dd k0 k1 k2 k3 k5 newId)) (hD : h.get? D = some (excClassObj nm' q' D N' bs' bm' hdct' sn' sub' ab' col' dd' k0' k1' k2' k3' k5' newId')) (he : h.get? e = some oe) (hcls : oe.cls = .ref C) (hbase : bm'.contains (.type "BaseException") = true) {b : Bool} (hb : (Value.ref C :: bm).contains (.ref D) = b)
    (hq : Q b ⟨h, g, d, t, os⟩) : wpAny M A (excMatches (.ref e) (.ref D)) Q E ⟨h, g, d, t, os⟩ := by
  have hcB : (Value.ref D :: bm').contains (.type "BaseException") = true := by rw [List.contains_cons, hbase, Bool.or_true]
  have f := tc_notTuple
  unfold excMatches
  repeat (first | (with_reducible refine wpAny_loadPart_at he ?_; rw [hcls]) | with_reducible refine wpAny_loadPart_at hD ?_ | (with_reducible refine wpAny_isSubtype_exc hD ?_; rw [hcB]) | (with_reducible refine wpAny_isSubtype_exc hC ?_; rw [hb]) | wp_step)
  cases b <;> (wp_walk; exact hq)
end

/-- a frame's part of a heap is a frame on its ground -/
theorem partOf_fr {h₀ h : Heap} {L : Addr} {m : Str → Option Value} (F : Fr h₀ L h m) : Fr h₀ L (partOf h₀ h L) m := by
  obtain ⟨oL, es, ep, hL, hLd, hLk, hLf⟩ := F.ns
  exact ⟨⟨oL, es, ep, partOf_get hL (.inl rfl), hLd, hLk, hLf⟩, fun b o e => partOf_get (F.keep b o e) (.inr ⟨o, e⟩), F.above⟩
end Mine

/-! ## part C38 -/
namespace Mine
open PySem PySem.W PyProof.Rows

/-- the frame looks at what came from below -/
theorem land {M : Model} {A : Around} {E : Value → Shared → Prop} {s' : Shared} {base h1 : Heap} {fs : List Addr} {env : Env} {outer : List Env} {L e C' : Addr} {Q : Unit → Shared → Prop} (hfr : A.frames = some (env :: outer)) (hf : env.frame = some L) (F : Fly base h1 fs (env :: outer) e C' s'.heap)
    (hQ : ∀ h', Fly base h1 fs (env :: outer) e C' h' → Q () { s' with heap := h' }) : wpAny M A (noteFrame (.ref e) env) (fun _ s₂ => wpAny M A (setFlight (.ref e) none) Q E s₂) E s' := by
  obtain ⟨⟨B, t, vs, b1, b2, b3, b4, b5⟩, up⟩ := F
  refine wpAny_looks_onW hfr hf b3 fun h₄ x1 x2 => wpAny_landsW x1 fun h₅ y1 y2 => hQ h₅ ⟨⟨B, t, vs, b1, b2, y1, b4, (b5.of_slots x2).of_slots y2⟩, (up.trans x2).trans y2⟩
theorem land_again {M : Model} {A : Around} {E : Value → Shared → Prop} {s' : Shared} {base h1 : Heap} {fs : List Addr} {l : List Env} {e C' : Addr} {Q : Unit → Shared → Prop} (F : Fly base h1 fs l e C' s'.heap)
    (hQ : ∀ h', Fly base h1 fs l e C' h' → Q () { s' with heap := h' }) : wpAny M A (setFlight (.ref e) none) Q E s' := by
  obtain ⟨⟨B, t, vs, b1, b2, b3, b4, b5⟩, up⟩ := F
  exact lands_againW b3 fun h₅ y1 y2 => hQ h₅ ⟨⟨B, t, vs, b1, b2, y1, b4, b5.of_slots y2⟩, up.trans y2⟩
theorem Fly.there {base h1 h : Heap} {fs : List Addr} {l : List Env} {e C' : Addr} (F : Fly base h1 fs l e C' h) : ∃ ob, h.get? e = some ob ∧ ob.cls = .ref C' := by
  obtain ⟨⟨B, t, vs, b1, b2, b3, b4, b5⟩, up⟩ := F
  exact b3.there

/-- the frame, when it has caught -/
theorem Fly.inv {cx : Fx} {m : Str → Option Value} {cv st : List (Addr × Obj)} {μ : List Addr} {H : AH} {h1 h : Heap} {fs dead : List Addr} {e C' a : Addr} {name : Str} {scope : Scope} {cd : Value} (I : Inv cx m cv st μ H h1) (F : Fly cx.base h1 fs (cx.fenv :: cx.outer) e C' h) (hfe : cx.fenv = envOf name scope cx.L a cd)
    (hfs : ∀ b ∈ fs, b ∈ (cx.fenv :: cx.outer).filterMap (·.frame) ∨ b ∈ dead) (hdead : ∀ b ∈ dead, cx.h₀.get? b = none ∧ b ≠ cx.L) (cl : Clean cx fs cv st μ H h1) (w : Waits cx) (B : Below cx.A₀ cx.base cx.outer cx.h₀) :
    ∃ g', KtsTurn (cx.outer.filterMap (·.frame)) cx.h₀ g' ∧ Below cx.A₀ cx.base cx.outer g' ∧ Inv (cx.on g') m cv st μ H h := by
  obtain ⟨t, vs, ⟨⟨B', hB, hBG, hl, hfl, hnew⟩, htup⟩, hsm⟩ := F.raised B.stays dead hfs hdead
  rw [hfe] at hBG
  obtain ⟨g', T, F', K'⟩ := kts_ground B (partOf_fr I.fr) hBG hfl.1 hsm
  refine ⟨g', T, K', I.after T F' (fun q hq => ?_) w cl⟩
  obtain ⟨l1, _, _⟩ := hl q hq
  obtain ⟨hq1, _⟩ := List.mem_filter.mp hq
  obtain ⟨_, n2, n3⟩ := newsOf_News q hq1
  exact ⟨hfl.1 _ _ l1, n2, T.none_ _ n3⟩
end Mine

/-! ## part C39 -/
namespace Mine
open PySem PySem.W PyProof.Rows

noncomputable def mroIn (K : Frag) (C : Addr) : Option (List Value) := match K.lookup C with
  | some o => (match o.data with
    | .cls cd => some cd.mro
    | _ => none)
  | none => none
/-- an own exception class -/
structure OwnExc (K : Frag) (x : Str) (C : Addr) (mro : List Value) : Prop where
  ns : nsIn K mainGlobals x = some (some (.ref C))
  ok : ktsIn K C "BaseException" = true
  mro : mroIn K C = some mro
theorem OwnExc.at {K : Frag} {x : Str} {C : Addr} {mro : List Value} {h : Heap} (O : OwnExc K x C mro) (X : K.In h) : ∃ nm qn N bs bm hdct sn sub ab col dd k0 k1 k2 k3 k5 newId, h.get? C = some (excClassObj nm qn C N bs bm hdct sn sub ab col dd k0 k1 k2 k3 k5 newId) ∧ bm.contains (.type "BaseException") = true ∧ mro = .ref C :: bm := by
  obtain ⟨nm, qn, N, bs, bm, hdct, sn, sub, ab, col, dd, k0, k1, k2, k3, k5, newId, hC, hb, _⟩ := kts_cls X O.ok
  refine ⟨nm, qn, N, bs, bm, hdct, sn, sub, ab, col, dd, k0, k1, k2, k3, k5, newId, hC, hb, ?_⟩
  have hm := O.mro
  unfold mroIn at hm
  cases q : K.lookup C with
  | none => rw [q] at hm; cases hm
  | some o =>
    rw [q] at hm
    have := X _ _ q
    rw [hC] at this
    cases this
    exact (Option.some.inj hm).symm

section
variable {W : Wd} {d : Nat} {cx : Fx} {m : Str → Option Value} {cv st : List (Addr × Obj)} {μ : List Addr} {H : AH} {s : Shared}
theorem name_at {A : Around} {E : Value → Shared → Prop} {Q : Value → Shared → Prop} {x : Str} {pos : Pos} {v : Value} (ok : FxOk W d cx st) (I : Inv cx m cv st μ H s.heap) (hg : cx.c.global x = true) (e : nsIn W.K mainGlobals x = some (some v)) (h : Q v s) :
    wpAny W.M A (eval (.Name x pos) cx.env) Q E s := by
  obtain ⟨g1, g2⟩ := global_of hg
  exact Calls.Name_function_global ok.ek ((ok.kind x).trans g1) (Calls.loadGlobal_global (by rw [ok.eg]; exact ok.T.g.keeps I.fr.keep) (mg_of ok.X ok.T.g e) h) g2
/-- does this handler take it? -/
theorem hand_test {base h1 : Heap} {fs : List Addr} {l : List Env} {e C' D : Addr} {c x : Str} {mroC mroD : List Value} {np pos : Pos} {nm : Option Str} {b₀ : Stmt} {suite : List Stmt} {rest : List ExceptHandler} {Q : Flow → Shared → Prop} {E : Value → Shared → Prop}
    (ok : FxOk W d cx st) (I : Inv cx m cv st μ H s.heap) (F : Fly base h1 fs l e C' s.heap) (hC : OwnExc W.K c C' mroC) (hg : cx.c.global x = true) (hD : OwnExc W.K x D mroD)
    (yes : mroC.contains (.ref D) = true → codeAny W.M (cx.A.mark (some (.ref e))) (.handlers (.ref e) [.ExceptHandler none nm (b₀ :: suite) pos] cx.env) (fun r s₂ => match r with
          | .ok f => (match nm with
            | none => Q f s₂
            | some n => wpAny W.M cx.A (do bindName cx.env n .none; unbindBehindTheSuite cx.env n pos) (fun _ s₃ => Q f s₃) E s₂)
          | .error x => cameBackBy W.M cx.A cx.env E x s₂) s)
    (no : mroC.contains (.ref D) = false → wpAny W.M cx.A (handleBy (.ref e) cx.env rest) Q E s) :
    wpAny W.M cx.A (handleBy (.ref e) cx.env (.ExceptHandler (some (.Name x np)) nm (b₀ :: suite) pos :: rest)) Q E s := by
  have X := ok.X.keeps I.fr.keep
  obtain ⟨n1, q1, N1, bs1, bm1, hd1, sn1, sub1, ab1, col1, dd1, a0, a1, a2, a3, a5, id1, hC1, _, rfl⟩ := hC.at X
  obtain ⟨n2, q2, N2, bs2, bm2, hd2, sn2, sub2, ab2, col2, dd2, c0, c1, c2, c3, c5, id2, hD1, hb, rfl⟩ := hD.at X
  obtain ⟨ob, ho, hoc⟩ := F.there
  refine wpAny_handleBy_cons (codeAny_handlers_test (name_at ok I hg hD.ns ?_)) (by intro q; cases q)
  obtain ⟨hp, gs, dr, tk, os⟩ := s
  cases q : (Value.ref C' :: bm1).contains (.ref D) with
  | true => exact excMatches_own hC1 hD1 ho hoc hb q (yes q)
  | false => exact excMatches_own hC1 hD1 ho hoc hb q (no q)
end
end Mine

/-! ## part C40 -/
namespace Mine
open PySem PySem.W PyProof.Rows

/-- the same frame, at work on an exception -/
noncomputable def Fx.busy (cx : Fx) (e : Addr) : Fx := { cx with A := cx.A.mark (some (.ref e)) }
theorem FxOk.busy {W : Wd} {d : Nat} {cx : Fx} {st : List (Addr × Obj)} (ok : FxOk W d cx st) (e : Addr) : FxOk W d (cx.busy e) st :=
  { B := ok.B, X := ok.X, T := ok.T, fr := ok.fr, ff := ok.ff, fk := ok.fk, dp := ok.dp, un := ok.un, ek := ok.ek, en := ok.en, eg := ok.eg, eb := ok.eb, ce := ok.ce, sl := ok.sl, out := ok.out, loc := ok.loc }
theorem Inv.busy {cx : Fx} {m : Str → Option Value} {cv st : List (Addr × Obj)} {μ : List Addr} {H : AH} {h : Heap} (I : Inv cx m cv st μ H h) (e : Addr) : Inv (cx.busy e) m cv st μ H h :=
  { fr := I.fr, cvN := I.cvN, stN := I.stN, cm := I.cm, sm := I.sm, cs := I.cs, cc := I.cc, nd := I.nd, len := I.len, obj := I.obj, mtb := I.mtb, muL := I.muL, avm := I.avm, avh := I.avh }
theorem Inv.calm {cx : Fx} {m : Str → Option Value} {cv st : List (Addr × Obj)} {μ : List Addr} {H : AH} {h : Heap} {e : Addr} (I : Inv (cx.busy e) m cv st μ H h) : Inv cx m cv st μ H h :=
  { fr := I.fr, cvN := I.cvN, stN := I.stN, cm := I.cm, sm := I.sm, cs := I.cs, cc := I.cc, nd := I.nd, len := I.len, obj := I.obj, mtb := I.mtb, muL := I.muL, avm := I.avm, avh := I.avh }

section
variable {W : Wd} {d : Nat} {cx : Fx} {m : Str → Option Value} {cv st : List (Addr × Obj)} {μ : List Addr} {ρ : Rho} {H : AH} {s : Shared} {E : Value → Shared → Prop} {Q : Flow → Shared → Prop}
/-- x = y + k -/
theorem suite_add {x y : Str} {i j : Nat} {v k : Int} {px py kp bp pos : Pos} {kk : Nat} (ok : FxOk W d cx st) (fo : FrOk cx) (V : VarsOK cx m cv μ ρ) (Ci : CellsIn cx cv) (I : Inv cx m cv st μ H s.heap) (hx : slotOf cx.c x = some i) (hy : slotOf cx.c y = some j) (hd : (y == ("__debug__" : Str)) = false) (hv : ρ[j]? = some (some (.int v)))
    (hQ : ∀ h' tk m' cv', Inv cx m' cv' st μ H h' → VarsOK cx m' cv' μ (ρ.set i (some (.int (v + k)))) → CellsIn cx cv' → Q .next { s with heap := h', toks := tk }) :
    wpAny W.M cx.A (exec (.Assign [.Name x px] (.BinOp (.Name y py) .Add (.Constant (.int k) kk kp) bp) pos) cx.env) Q E s := by
  obtain ⟨h1, h2⟩ := slotOf_some hy
  refine wpAny_Assign_Name (wpAny_BinOp (name_var ok V I h1 hd h2 hv fun w r => ?_)) rfl
  obtain ⟨t, rfl⟩ := r.i? rfl
  refine wpAny_Constant_int ?_
  refine PyProof.Rows.add_int ?_
  exact store_sound hx ok fo V Ci I (.int (v + k) _) fun h' tk m' cv' I' V' C' => hQ h' tk m' cv' I' V' C'
/-- x = a text -/
theorem suite_text {x u : Str} {i : Nat} {px kp pos : Pos} {kk : Nat} (ok : FxOk W d cx st) (fo : FrOk cx) (V : VarsOK cx m cv μ ρ) (Ci : CellsIn cx cv) (I : Inv cx m cv st μ H s.heap) (hx : slotOf cx.c x = some i)
    (hQ : ∀ h' tk m' cv', Inv cx m' cv' st μ H h' → VarsOK cx m' cv' μ (ρ.set i (some (.str u))) → CellsIn cx cv' → Q .next { s with heap := h', toks := tk }) :
    wpAny W.M cx.A (exec (.Assign [.Name x px] (.Constant (.str u) kk kp) pos) cx.env) Q E s := by
  refine wpAny_Assign_Name (Calls.Constant_str ?_) rfl
  exact store_sound hx ok fo V Ci I (.str u _) fun h' tk m' cv' I' V' C' => hQ h' tk m' cv' I' V' C'
end
end Mine

/-! ## part C41 -/
namespace Mine
open PySem PySem.W PyProof.Rows

section
variable {W : Wd} {P : Pg} {Φ : Calls} {C : Addr} {d : Nat} {cx : Fx} {cv st : List (Addr × Obj)} {μ : List Addr} {ρ : Rho} {H : AH} {s : Shared} {E : Value → Shared → Prop} {Q : Flow → Shared → Prop}
/-- what came from below is caught here, by the first handler -/
theorem catch_one {e a D : Addr} {c x : Str} {mroD : List Value} {name : Str} {scope : Scope} {cd : Value} {np pos : Pos} {b₀ : Stmt} {suite : List Stmt} {rest : List ExceptHandler} (ok : FxOk W d cx st) (w : Waits cx) (hfe : cx.fenv = envOf name scope cx.L a cd) (hen : cx.env = cx.fenv) (XB : W.K.In cx.base) (TB : TopRead W.p W.loose W.mg W.mb cx.base)
    (X : ExcAt W cx st ρ μ H s.heap e c true) (hg : cx.c.global x = true) (hD : OwnExc W.K x D mroD) (hC : ∀ C', nsIn W.K mainGlobals c = some (some (.ref C')) → ∃ mroC, OwnExc W.K c C' mroC ∧ mroC.contains (.ref D) = true)
    (k : ∀ g' h' m cv, KtsTurn (cx.outer.filterMap (·.frame)) cx.h₀ g' → Inv (cx.on g') m cv st μ H h' → FxOk W d (cx.on g') st → VarsOK (cx.on g') m cv μ ρ → CellsIn (cx.on g') cv → wpAny W.M ((cx.on g').busy e).A (execs (b₀ :: suite) cx.env) Q (fun _ _ => False) { s with heap := h' }) :
    wpAny W.M cx.A (noteFrame (.ref e) cx.env) (fun _ s₂ => wpAny W.M cx.A (setFlight (.ref e) none) (fun _ s₃ => wpAny W.M cx.A (handleBy (.ref e) cx.env (.ExceptHandler (some (.Name x np)) none (b₀ :: suite) pos :: rest)) Q E s₃) E s₂) E s := by
  cases X with
  | fly m cv h1 C' fs dead hc I F hfs hdead cl V Ci =>
    obtain ⟨mroC, hC1, hm⟩ := hC C' hc
    have fr : cx.A.frames = some (cx.env :: cx.outer) := by rw [hen]; exact ok.fr
    have F0 : Fly cx.base h1 fs (cx.env :: cx.outer) e C' s.heap := by rw [hen]; exact F
    refine land fr (by rw [hen]; exact ok.ff) F0 fun h₅ F₅ => ?_
    rw [hen] at F₅
    obtain ⟨g₅, T₅, B₅, I₅⟩ := F₅.inv I hfe hfs hdead cl w ok.B
    have ok₅ : FxOk W d (cx.on g₅) st := ok.on B₅ (XB.keeps B₅.stays) (TB.keeps B₅.stays)
    refine hand_test (cx := cx.on g₅) (s := { s with heap := h₅ }) ok₅ I₅ F₅ hC1 hg hD (fun _ => ?_) (fun z => by rw [hm] at z; cases z)
    refine codeAny_handlers_suite (land_again (s' := { s with heap := h₅ }) F₅ fun h₆ F₆ => ?_)
    obtain ⟨g₆, T₆, B₆, I₆⟩ := F₆.inv I hfe hfs hdead cl w ok.B
    have ok₆ : FxOk W d (cx.on g₆) st := ok.on B₆ (XB.keeps B₆.stays) (TB.keeps B₆.stays)
    exact wpAny_noRaise (k g₆ h₆ m cv T₆ I₆ ok₆ ⟨V.len, V.loc, V.cel⟩ Ci)
end
end Mine

/-! ## part C42 -/
namespace Mine
open PySem PySem.W PyProof.Rows

section
variable {W : Wd} {d : Nat} {cx : Fx} {m : Str → Option Value} {cv st : List (Addr × Obj)} {μ : List Addr} {ρ : Rho} {H : AH} {s : Shared} {E : Value → Shared → Prop}
/-- a name that the small language does not see gets a value -/
theorem store_raw {x : Str} {i : Nat} {v : Value} {Q : Unit → Shared → Prop} (hk : cx.c.names.lookup x = some .local) (hi : cx.c.slots.lookup x = some i) (hn : ∀ av, ρ[i]? ≠ some (some av)) (ok : FxOk W d cx st) (fo : FrOk cx) (V : VarsOK cx m cv μ ρ) (I : Inv cx m cv st μ H s.heap)
    (k : ∀ h' tk, (∀ b, b ≠ cx.L → h'.get? b = s.heap.get? b) → Inv cx (fun y => if y = x then some v else m y) cv st μ H h' → VarsOK cx (fun y => if y = x then some v else m y) cv μ ρ → Q () { s with heap := h', toks := tk }) : wpAny W.M cx.A (storeName cx.env x v) Q E s := by
  have L := ok.loc
  rw [fo.mc] at L
  dsimp only at L
  refine wpAny_storeName_local ((ok.kind x).trans hk) (by rw [L]; exact I.fr.ns) (fun h' hn' hb => ?_) (by rw [ok.ek]; rfl)
  rw [L] at hn' hb
  refine k h' _ hb.2 (I.storeL hn' hb) ⟨V.len, fun y j aw hy hj hr => ?_, V.cel⟩
  have e : y ≠ x := fun q => by
    subst q
    rw [hi] at hj
    cases hj
    exact hn _ hr
  obtain ⟨w, e1, e2⟩ := V.loc y j aw hy hj hr
  unfold Fx.locOf at e1 ⊢
  rw [fo.mc] at e1 ⊢
  exact ⟨w, by simpa [e] using e1, e2⟩
/-- the name behind 'as' goes -/
theorem unbind_sound {A : Around} {x : Str} {i : Nat} {pos : Pos} {Q : Unit → Shared → Prop} (hk : cx.c.names.lookup x = some .local) (hi : cx.c.slots.lookup x = some i) (hn : ∀ av, ρ[i]? ≠ some (some av)) (ok : FxOk W d cx st) (fo : FrOk cx) (V : VarsOK cx m cv μ ρ) (I : Inv cx m cv st μ H s.heap)
    (k : ∀ h' tk m', Inv cx m' cv st μ H h' → VarsOK cx m' cv μ ρ → Q () { s with heap := h', toks := tk }) : wpAny W.M A (do bindName cx.env x .none; unbindBehindTheSuite cx.env x pos) Q E s := by
  have L := ok.loc
  rw [fo.mc] at L
  dsimp only at L
  refine wpAny_nameGoes_keeps ((ok.kind x).trans hk) (by rw [L]; exact I.fr.ns) (by rw [ok.ek]; rfl) fun h' v hn' hb => ?_
  rw [L] at hn' hb
  refine k h' _ _ (I.storeL hn' hb) ⟨V.len, fun y j aw hy hj hr => ?_, V.cel⟩
  have e : y ≠ x := fun q => by
    subst q
    rw [hi] at hj
    cases hj
    exact hn _ hr
  obtain ⟨w, e1, e2⟩ := V.loc y j aw hy hj hr
  unfold Fx.locOf at e1 ⊢
  rw [fo.mc] at e1 ⊢
  exact ⟨w, by simpa [e] using e1, e2⟩
end
end Mine

/-! ## part C43 -/
namespace Mine
open PySem PySem.W PyProof.Rows

section
variable {W : Wd} {P : Pg} {Φ : Calls} {C : Addr} {d : Nat} {cx : Fx} {cv st : List (Addr × Obj)} {μ : List Addr} {ρ : Rho} {H : AH} {s : Shared} {E : Value → Shared → Prop} {Q : Flow → Shared → Prop}
theorem FrOk.on {g : Heap} (fo : FrOk cx) : FrOk (cx.on g) := ⟨fo.mc, fo.inj, fo.cd⟩
theorem FrOk.busy {e : Addr} (fo : FrOk cx) : FrOk (cx.busy e) := ⟨fo.mc, fo.inj, fo.cd⟩
/-- what came from below is caught here and named -/
theorem catch_as {e a D : Addr} {c x n : Str} {i : Nat} {mroD : List Value} {name : Str} {scope : Scope} {cd : Value} {np pos : Pos} {b₀ : Stmt} {suite : List Stmt} {rest : List ExceptHandler} (ok : FxOk W d cx st) (fo : FrOk cx) (w : Waits cx) (hfe : cx.fenv = envOf name scope cx.L a cd) (hen : cx.env = cx.fenv) (XB : W.K.In cx.base) (TB : TopRead W.p W.loose W.mg W.mb cx.base)
    (X : ExcAt W cx st ρ μ H s.heap e c true) (hg : cx.c.global x = true) (hD : OwnExc W.K x D mroD) (hC : ∀ C', nsIn W.K mainGlobals c = some (some (.ref C')) → ∃ mroC, OwnExc W.K c C' mroC ∧ mroC.contains (.ref D) = true)
    (hk : cx.c.names.lookup n = some .local) (hi : cx.c.slots.lookup n = some i) (hn : ∀ av, ρ[i]? ≠ some (some av))
    (k : ∀ g' h' tk m cv C', KtsTurn (cx.outer.filterMap (·.frame)) cx.h₀ g' → Inv (cx.on g') m cv st μ H h' → FxOk W d (cx.on g') st → VarsOK (cx.on g') m cv μ ρ → CellsIn (cx.on g') cv → m n = some (.ref e) → nsIn W.K mainGlobals c = some (some (.ref C')) → (∃ ob, h'.get? e = some ob ∧ ob.cls = .ref C') →
      wpAny W.M ((cx.on g').busy e).A (execs (b₀ :: suite) cx.env) (fun f s₄ => wpAny W.M cx.A (do bindName cx.env n .none; unbindBehindTheSuite cx.env n pos) (fun _ s₅ => Q f s₅) E s₄) (fun _ _ => False) { s with heap := h', toks := tk }) :
    wpAny W.M cx.A (noteFrame (.ref e) cx.env) (fun _ s₂ => wpAny W.M cx.A (setFlight (.ref e) none) (fun _ s₃ => wpAny W.M cx.A (handleBy (.ref e) cx.env (.ExceptHandler (some (.Name x np)) (some n) (b₀ :: suite) pos :: rest)) Q E s₃) E s₂) E s := by
  cases X with
  | fly m cv h1 C' fs dead hc I F hfs hdead cl V Ci =>
    obtain ⟨mroC, hC1, hm⟩ := hC C' hc
    have fr : cx.A.frames = some (cx.env :: cx.outer) := by rw [hen]; exact ok.fr
    have F0 : Fly cx.base h1 fs (cx.env :: cx.outer) e C' s.heap := by rw [hen]; exact F
    refine land fr (by rw [hen]; exact ok.ff) F0 fun h₅ F₅ => ?_
    rw [hen] at F₅
    obtain ⟨g₅, T₅, B₅, I₅⟩ := F₅.inv I hfe hfs hdead cl w ok.B
    have ok₅ : FxOk W d (cx.on g₅) st := ok.on B₅ (XB.keeps B₅.stays) (TB.keeps B₅.stays)
    refine hand_test (cx := cx.on g₅) (s := { s with heap := h₅ }) (nm := some n) ok₅ I₅ F₅ hC1 hg hD (fun _ => ?_) (fun z => by rw [hm] at z; cases z)
    refine codeAny_handlers_suite_as (land_again (s' := { s with heap := h₅ }) F₅ fun h₆ F₆ => ?_)
    obtain ⟨g₆, T₆, B₆, I₆⟩ := F₆.inv I hfe hfs hdead cl w ok.B
    have ok₆ : FxOk W d (cx.on g₆) st := ok.on B₆ (XB.keeps B₆.stays) (TB.keeps B₆.stays)
    have V₆ : VarsOK (cx.on g₆) m cv μ ρ := ⟨V.len, V.loc, V.cel⟩
    obtain ⟨ob, ho, hoc⟩ := F₆.there
    have hne : e ≠ cx.L := by
      obtain ⟨⟨B, t, vs, b1, b2, b3, b4, b5⟩, up⟩ := F₆
      obtain ⟨oe, ws, hoe, _, hoed, _⟩ := b3.first
      obtain ⟨oL, es, ep, hL, hLd, _⟩ := I₆.fr.ns
      have hL : h₆.get? cx.L = some oL := hL
      rintro rfl
      rw [hoe] at hL
      cases hL
      rw [hoed] at hLd
      cases hLd
    refine store_raw (cx := (cx.on g₆).busy e) (s := { s with heap := h₆ }) (ρ := ρ) hk hi hn (ok₆.busy e) fo.on.busy ⟨V₆.len, V₆.loc, V₆.cel⟩ (I₆.busy e) fun h₇ tk₇ hs₇ I₇ V₇ => ?_
    exact wpAny_noRaise (k g₆ h₇ tk₇ _ cv C' T₆ I₇.calm ok₆ ⟨V₇.len, V₇.loc, V₇.cel⟩ Ci (if_pos rfl) hc ⟨ob, (hs₇ e hne).trans ho, hoc⟩)
end
end Mine

/-! ## part C44 -/
namespace Mine
open PySem PySem.W PyProof.Rows

section
variable {W : Wd} {P : Pg} {Φ : Calls} {C : Addr} {d : Nat} {F : Str → List AV → AH → Str → AH → Prop}
/-- a try whose body raises, caught by the first handler -/
theorem try_one (LK : Lk W P C) (ha : ∀ e, S3 W P Φ C d e) {cs : List Str} (hF : FOk W P C d cs F) (hcs : ClsOk W cs) {ρ ρo : Rho} {H H' : AH} {c : Str} (hc : c ∈ cs) {cx : Fx} {m : Str → Option Value} {cv st : List (Addr × Obj)} {μ : List Addr} {s : Shared} {Q : Flow → Shared → Prop} {E : Value → Shared → Prop} {body : List Stmt}
    (h : RxL P Φ F (cSs body cx.c) ρ H c H' ρo true) (T : Sg W C d cx m cv st ρ μ) (w : Waits cx) (I : Inv cx m cv st μ H s.heap) {a D : Addr} {x : Str} {mroD : List Value} {name : Str} {scope : Scope} {cd : Value} {np hpos pos : Pos} {b₀ : Stmt} {suite : List Stmt} {rest : List ExceptHandler}
    (hfe : cx.fenv = envOf name scope cx.L a cd) (hen : cx.env = cx.fenv) (XB : W.K.In cx.base) (TB : TopRead W.p W.loose W.mg W.mb cx.base) (hg : cx.c.global x = true) (hD : OwnExc W.K x D mroD) (hC : ∀ C', nsIn W.K mainGlobals c = some (some (.ref C')) → ∃ mroC, OwnExc W.K c C' mroC ∧ mroC.contains (.ref D) = true)
    (k : ∀ g' e h' tk μ' m cv, μ <+: μ' → KtsTurn (cx.outer.filterMap (·.frame)) cx.h₀ g' → Inv (cx.on g') m cv st μ' H' h' → FxOk W d (cx.on g') st → VarsOK (cx.on g') m cv μ' ρo → CellsIn (cx.on g') cv → wpAny W.M ((cx.on g').busy e).A (execs (b₀ :: suite) cx.env) Q (fun _ _ => False) { s with heap := h', toks := tk }) :
    wpAny W.M cx.A (exec (.Try body (.ExceptHandler (some (.Name x np)) none (b₀ :: suite) hpos :: rest) [] [] pos) cx.env) Q E s := by
  refine wpAny_Try_except (rxL_sound LK ha hF hcs h hc body cx m cv st μ s _ _ rfl T w hen I fun e h' tk μ' hp X => ?_)
  exact catch_one (s := { s with heap := h', toks := tk }) T.ok w hfe hen XB TB X hg hD hC fun g' h'' m' cv' T' I' ok' V' C' => k g' e h'' tk μ' m' cv' hp T' I' ok' V' C'
/-- the same, the exception named -/
theorem try_as (LK : Lk W P C) (ha : ∀ e, S3 W P Φ C d e) {cs : List Str} (hF : FOk W P C d cs F) (hcs : ClsOk W cs) {ρ ρo : Rho} {H H' : AH} {c : Str} (hc : c ∈ cs) {cx : Fx} {m : Str → Option Value} {cv st : List (Addr × Obj)} {μ : List Addr} {s : Shared} {Q : Flow → Shared → Prop} {E : Value → Shared → Prop} {body : List Stmt}
    (h : RxL P Φ F (cSs body cx.c) ρ H c H' ρo true) (T : Sg W C d cx m cv st ρ μ) (w : Waits cx) (I : Inv cx m cv st μ H s.heap) {a D : Addr} {x n : Str} {i : Nat} {mroD : List Value} {name : Str} {scope : Scope} {cd : Value} {np hpos pos : Pos} {b₀ : Stmt} {suite : List Stmt} {rest : List ExceptHandler}
    (hfe : cx.fenv = envOf name scope cx.L a cd) (hen : cx.env = cx.fenv) (XB : W.K.In cx.base) (TB : TopRead W.p W.loose W.mg W.mb cx.base) (hg : cx.c.global x = true) (hD : OwnExc W.K x D mroD) (hC : ∀ C', nsIn W.K mainGlobals c = some (some (.ref C')) → ∃ mroC, OwnExc W.K c C' mroC ∧ mroC.contains (.ref D) = true)
    (hk : cx.c.names.lookup n = some .local) (hi : cx.c.slots.lookup n = some i) (hn : ∀ av, ρo[i]? ≠ some (some av))
    (k : ∀ g' e h' tk μ' m cv C', μ <+: μ' → KtsTurn (cx.outer.filterMap (·.frame)) cx.h₀ g' → Inv (cx.on g') m cv st μ' H' h' → FxOk W d (cx.on g') st → VarsOK (cx.on g') m cv μ' ρo → CellsIn (cx.on g') cv → m n = some (.ref e) → nsIn W.K mainGlobals c = some (some (.ref C')) → (∃ ob, h'.get? e = some ob ∧ ob.cls = .ref C') →
      wpAny W.M ((cx.on g').busy e).A (execs (b₀ :: suite) cx.env) (fun f s₄ => wpAny W.M cx.A (do bindName cx.env n .none; unbindBehindTheSuite cx.env n hpos) (fun _ s₅ => Q f s₅) E s₄) (fun _ _ => False) { s with heap := h', toks := tk }) :
    wpAny W.M cx.A (exec (.Try body (.ExceptHandler (some (.Name x np)) (some n) (b₀ :: suite) hpos :: rest) [] [] pos) cx.env) Q E s := by
  refine wpAny_Try_except (rxL_sound LK ha hF hcs h hc body cx m cv st μ s _ _ rfl T w hen I fun e h' tk μ' hp X => ?_)
  exact catch_as (s := { s with heap := h', toks := tk }) T.ok T.fo w hfe hen XB TB X hg hD hC hk hi hn fun g' h'' tk'' m' cv' C' T' I' ok' V' Ci' e1 e2 e3 => k g' e h'' tk'' μ' m' cv' C' hp T' I' ok' V' Ci' e1 e2 e3
end
end Mine

/-! ## part C45 -/
set_option maxRecDepth 100000
namespace Mine
open PySem PySem.W PySem.Spec PySem.Calls PyProof.Rows PySem.Builtin PySem.Builtin.ObjectAttr PySem.Builtin.Getset_descriptor

/-! isinstance of an exception of an own class -/
structure ExcIsi (K : Frag) (D : Addr) : Prop where
  ga : findIn K (.ref D) "__getattribute__" = some (some (.builtin "BaseException.__getattribute__"))
  gt : findIn K (.ref D) "__getattr__" = some none
  cl : findIn K (.ref D) "__class__" = some (some (.builtin "object.__class__"))
  sp : specialIn K (.builtin "object.__class__") "__get__" = some (some (.builtin "getset_descriptor.__get__"))
  tk : takesIn K (.builtin "object.__class__") = some true
  ob : PySem.W.mroIn K D (.type "object") = some true
  be : PySem.W.mroIn K D (.type "BaseException") = some true
  is : (clsIn K D).isSome = true
noncomputable def IsOf (x D : Addr) (h : Heap) : Prop := ∃ o, h.get? x = some o ∧ o.cls = .ref D

section
variable {prog : Program} {w : World} {A : Around} {E : Value → Shared → Prop} {s : Shared} {K : Frag} {x D : Addr} {h : Heap} {M : Model}
theorem IsOf.type (p : IsOf x D h) : Looks M h (typeOf (.ref x)) (.ref D) := by
  obtain ⟨o, h1, h2⟩ := p
  exact h2 ▸ (Looks.ld h1).andThen .now
theorem exc_find (Z : ExcIsi K D) (X : K.In h) : Looks M h (find (.ref x) (.ref D) "__class__") (.bind (.builtin "getset_descriptor.__get__") (.builtin "object.__class__")) := by
  have L1 := looks_findIn (M := M) X Z.cl
  have L2 : Looks M h (getOf (some (.builtin "object.__class__"))) (some (.builtin "getset_descriptor.__get__")) := looks_specialIn X Z.sp
  have L3 := looks_takesIn (M := M) X Z.tk
  exact L1.andThen (L2.andThen ((show Looks M h (dataDescriptor? (some (.builtin "object.__class__")) (some (.builtin "getset_descriptor.__get__"))) (some (.builtin "getset_descriptor.__get__", .builtin "object.__class__")) from L3.andThen .now).andThen (Looks.tag .now)))
theorem exc_get {tp : Value} {R : Result → Shared → Prop} (Z : ExcIsi K D) (X : K.In s.heap) (I : IsOf x D s.heap) (h : R (.ok (.ret (.ref D))) s) : codeAny (model prog w) A (.call (.builtin "getset_descriptor.__get__") ⟨[.builtin "object.__class__", .ref x, tp], []⟩) R s := by
  obtain ⟨hh, g, dr, t, os⟩ := s
  have L0 := IsOf.type (M := model prog w) I
  have L1 := looks_mroIn (M := model prog w) X Z.ob
  refine codeAny_call_builtin KF.slot_gs.plain KF.entry_gs (KF.slot_gs.check _ _ _ _ _ _ _ _ KF.type_class (KF.args_gs _ _ _) ?_)
  unfold Builtin.«getset_descriptor.__get__» descrGet
  rw [dga_obj]
  refine wpAny_bind (wpAny_pure ?_)
  unfold descrGetter descrCheckInstance descrNameAndClass isInstance
  simp only [KF.owner_class]
  repeat lk
  refine ⟨Code.quiet_builtin _ (by decide +kernel), codeAny_builtin KF.entry_class ?_⟩
  unfold Builtin.«object.__class__» shownTypeOf
  repeat lk
  exact h
theorem exc_check {nameV : Value} {Q : Unit → Shared → Prop} (Z : ExcIsi K D) (X : K.In s.heap) (I : IsOf x D s.heap) (hq : Q () s) : wpAny (model prog w) A (checkBuiltinCall "BaseException.__getattribute__" ⟨[.ref x, nameV], []⟩) Q E s := by
  obtain ⟨hh, g, dr, t, os⟩ := s
  have hk : builtinKind "BaseException.__getattribute__" = some .slot := by decide +kernel
  have hsplit : splitId "BaseException.__getattribute__" = some ("BaseException", "__getattribute__") := by decide +kernel
  have ha := F.args_bexc_ga (.ref x) nameV
  have LI : Looks (model prog w) hh (isInstance (.ref x) (.type "BaseException")) true := (IsOf.type I).andThen (looks_mroIn X Z.be)
  simp only [checkBuiltinCall, hk, hsplit]
  refine wpAny_bind (LI.at ?_)
  repeat wp_step
  exact hq
theorem exc_class {Q : Option Value → Shared → Prop} (Z : ExcIsi K D) (X : K.In s.heap) (I : IsOf x D s.heap) (h : Q (some (.ref D)) { s with toks := s.toks + 1 }) : wpAny (model prog w) A (getAttr? (.ref x) "__class__") Q E s := by
  obtain ⟨hh, g, d, t, os⟩ := s
  have L0 := IsOf.type (M := model prog w) I
  have L1 := looks_findIn (M := model prog w) X Z.ga
  have L2 := looks_findIn (M := model prog w) X Z.gt
  have L3 := exc_find (M := model prog w) (x := x) Z X
  have f3 := F.excAttr_ValueError.ga.bind (.ref x)
  have hx2 : (onTheHeap (Value.ref D) && Value.builtin "BaseException.__getattribute__" == Value.builtin "object.__getattribute__") = false := by
    have : (Value.builtin "BaseException.__getattribute__" == Value.builtin "object.__getattribute__") = false := by decide +kernel
    rw [this]; rfl
  unfold getAttr? getAttrBy? getAttrBy
  refine wpAny_bind (wpAny_mkText (wpAny_bind (wpAny_attempt (wpAny_holding (wpAny_bind (L0.at (wpAny_bind (L1.at ?_))))))))
  dsimp only
  rw [hx2]
  simp only [Bool.false_eq_true, if_false]
  unfold getAttrByItsOwn hookBefore
  refine wpAny_bind (L2.at ?_)
  refine wpAny_bind (wpAny_attempt (wpAny_holding ?_))
  show wpAny _ _ (boundAndCalled _ _ _) _ _ _
  unfold boundAndCalled
  rw [f3]
  refine wpAny_bind (wpAny_pure ?_)
  refine wpAny_call (codeAny_call_builtin F.excAttr_ValueError.ga.plain F.entry_bexc_ga (exc_check Z X I ?_))
  unfold Builtin.«object.__getattribute__»
  refine wpAny_bind (wpAny_pure ?_)
  refine wpAny_bind (wpAny_pure (a := Str.ofString "__class__") ?_)
  refine wpAny_bind (L0.at (wpAny_bind (L3.at ?_)))
  show wpAny _ _ (holding [_] (call _ _) >>= ret) _ _ _
  refine wpAny_bind (wpAny_holding (wpAny_call (exc_get Z X I ?_)))
  refine wpAny_pure ?_
  exact wpAny_pure (wpAny_pure h)
end
end Mine

/-! ## part C46 -/
namespace Mine
open PySem PySem.W PyProof.Rows

/-! the call of a function that may catch -/
section
variable {prog : Program} {w : World} {A₀ A : Around} {s : Shared} {base h₀ : Heap} {L : Addr} {m : Str → Option Value} {env : Env} {news : List (Addr × Obj)}
  {R : Result → Shared → Prop} {name qual : Str} {params : Arguments} {body : List Stmt} {scope : Scope} {dV kV doc pm cdv ct : Value} {an : Option Addr} {fo : Obj} {f : Addr} {args : Args} {binds : List (Str × Value)}
theorem callS (B : Below A₀ base [] h₀) (F : Fr h₀ L s.heap m) (N : News h₀ L s.heap news) (hlim : h₀.NoLimit) (hA : A.frames = some [env]) (hf : env.frame = some L) (hke : env.scope.kind = .function)
    (ho : s.heap.get? f = some fo) (hd : fo.data = .func (fnX name qual params body scope [] dV kV doc pm an cdv ct)) (hcd : s.heap.CodeRec cdv qual) (hroom : A.depth < recursionLimit)
    (hbind : BindsTo s (fnX name qual params body scope [] dV kV doc pm an cdv ct) args binds) (hloc : ∀ y ∈ binds, scope.names.lookup y.1 = some .local)
    (h : ∀ g L' h₁ tk, Fr h₀ L g m → Fr g L' h₁ (fun y => binds.reverse.lookup y) → News g L' h₁ news → Below A base [env] g → h₀.StaysIn g → (∀ p ∈ news, p.1 < L') →
      wpAny (model prog w) (A.deeper (envOf qual scope L' f cdv)) (execs body (envOf qual scope L' f cdv))
        (fun fl s' => LeaveS0 [L] h₀ L m g R (match fl with | .ret v => v | _ => .none) s')
        (fun e s' => wpAny (model prog w) (A.deeper (envOf qual scope L' f cdv)) (leaving (envOf qual scope L' f cdv) e) (fun _ s'' => R (.error e) s'') (fun e' s'' => R (.error e') s'') s')
        { s with heap := h₁, toks := tk })
    (hcell : ∀ x ∈ scope.names, x.2 ≠ .cell) (hco : scope.isCoroutine = false) (hgen : scope.isGenerator = false) (hk : scope.kind = .function) : codeAny (model prog w) A (.call (.ref f) args) R s := by
  obtain ⟨FG, BG, st, _⟩ := groundX (R := R) B F N hA hf hke
  refine codeAny_call_def (fd := fnX name qual params body scope [] dV kV doc pm an cdv ct) (body := body) (binds := binds) hroom ho hd (hlim.keeps F.keep) hcd rfl hbind hcell hloc (fun h₁ hns hk₁ => ?_) hco hgen hk
  refine wpAny_mono (h _ s.heap.objs.size h₁ _ FG ⟨hns, fun b o e => hk₁ b o (of_hideAll _ e), Nat.le_of_eq (hideAll_size _ _)⟩
    (fun p hp => ⟨hk₁ _ _ (N p hp).1, Nat.ne_of_lt (Heap.lt_size (N p hp).1), hideAll_none _ (List.mem_map_of_mem hp)⟩) BG st (fun p hp => Heap.lt_size (N p hp).1)) (fun fl s' hl => ?_) fun _ _ y => y
  obtain ⟨g', L', m', news', T', F', N', k⟩ := hl
  have nL₀ : h₀.get? L = none := kts_self F
  obtain ⟨oL, es, ep, hLg, hLd, hLk, hLf⟩ := FG.ns
  obtain ⟨sl, hs⟩ := T'.up hLg
  refine k ⟨⟨_, es, ep, F'.keep _ _ hs, hLd, hLk, hLf⟩, fun b o e => F'.keep b o (T'.other b o (st b o e) fun q => ?_), F.above⟩ fun p hp => ⟨(N' p hp).1, fun q => ?_, ?_⟩
  · rw [List.mem_singleton.mp q, nL₀] at e
    cases e
  · have := (N' p hp).2.2; rw [q, hs] at this; cases this
  · cases q : h₀.get? p.1 with
    | none => rfl
    | some o =>
      obtain ⟨sl', hs'⟩ := T'.up (st _ _ q)
      have := (N' p hp).2.2
      rw [hs'] at this
      cases this
end
end Mine

/-! ## part C47 -/
namespace Mine
open PySem PySem.W PyProof.Rows

/-! the frame of a function that may catch, called from the law's own frame -/
structure TryFx (W : Wd) (C : Addr) (cx : Fx) (st : List (Addr × Obj)) : Prop where
  c : cx.C = C
  ok : FxOk W 20 cx st
  fo : FrOk cx
  hh : cx.A.handled = none
  w : Waits cx
  hen : cx.env = cx.fenv
  hfe : ∃ name scope a cd, cx.fenv = envOf name scope cx.L a cd
  XB : W.K.In cx.base
  TB : TopRead W.p W.loose W.mg W.mb cx.base
theorem TryFx.on {W : Wd} {C : Addr} {cx : Fx} {st : List (Addr × Obj)} {g : Heap} (T : TryFx W C cx st) (ok : FxOk W 20 (cx.on g) st) : TryFx W C (cx.on g) st :=
  ⟨T.c, ok, T.fo.on, T.hh, T.w, T.hen, T.hfe, T.XB, T.TB⟩
/-- it ends with v -/
noncomputable def TEnd (cx : Fx) (st : List (Addr × Obj)) (s : Shared) (μ : List Addr) (v : AV) (H' : AH) : Flow → Shared → Prop := fun fl s' =>
  ∃ (b : Value) (g' h' : Heap) (tk : Nat) (μ' : List Addr) (m' : Str → Option Value) (cv' : List (Addr × Obj)), fl = .ret b ∧ s' = { s with heap := h', toks := tk } ∧ KtsTurn (cx.outer.filterMap (·.frame)) cx.h₀ g' ∧ μ <+: μ' ∧ Inv (cx.on g') m' cv' st μ' H' h' ∧ VRel μ' v b
theorem TEnd.of {cx : Fx} {st : List (Addr × Obj)} {s : Shared} {μ μ₁ : List Addr} {v : AV} {H' : AH} {g h₁ : Heap} {tk : Nat} {fl : Flow} {s' : Shared} (T : KtsTurn (cx.outer.filterMap (·.frame)) cx.h₀ g) (hp : μ <+: μ₁) (h : TEnd (cx.on g) st { s with heap := h₁, toks := tk } μ₁ v H' fl s') : TEnd cx st s μ v H' fl s' := by
  obtain ⟨b, g', h', tk', μ', m', cv', e1, e2, T', hp', I, r⟩ := h
  exact ⟨b, g', h', tk', μ', m', cv', e1, e2, T.trans T', hp.trans hp', I, r⟩
theorem TEnd.on {cx : Fx} {st : List (Addr × Obj)} {s : Shared} {μ μ₁ : List Addr} {v : AV} {H' : AH} {h₁ : Heap} {tk : Nat} {fl : Flow} {s' : Shared} (hp : μ <+: μ₁) (h : TEnd cx st { s with heap := h₁, toks := tk } μ₁ v H' fl s') : TEnd cx st s μ v H' fl s' := by
  obtain ⟨b, g', h', tk', μ', m', cv', e1, e2, T', hp', I, r⟩ := h
  exact ⟨b, g', h', tk', μ', m', cv', e1, e2, T', hp.trans hp', I, r⟩

inductive FnT (K : Frag) (f : Str) (params : Arguments) (scope : Scope) (body : List Stmt) : Prop
  | mk (a : Addr) (oc : Value) (od : Option Addr) (osl : Array (Option Value)) (name qual : Str) (doc pm cdv ct : Value) (an : Option Addr)
    (h1 : nsIn K mainGlobals f = some (some (.ref a))) (h2 : K.lookup a = some ⟨oc, od, .func (fnOf name qual params body scope .none .none doc pm an cdv ct), osl⟩) (h3 : codeIn K cdv qual = true)
    (h5 : plainParams params = true) (h6 : scope.isCoroutine = false) (h7 : scope.isGenerator = false) (h8 : scope.kind = .function)
    (h9 : (scope.names.map (·.1)).Nodup) (h10 : ((slotsFrom scope.names 0).map (·.1)).take params.args.length = params.args.map (·.arg)) (h11 : (scope.names.all fun p => !(p.2 == .cell)) = true) : FnT K f params scope body

theorem cellsFrom_no : ∀ (names : List (Str × NameKind)) (n : Nat) (acc : List (Str × Addr)), (names.all fun p => !(p.2 == .cell)) = true → cellsFrom n names acc = acc
  | [], _, _, _ => rfl
  | (x, k) :: r, n, acc, h => by
    rw [List.all_cons, Bool.and_eq_true] at h
    obtain ⟨h1, h2⟩ := h
    have h1 : (k == NameKind.cell) = false := by simpa using h1
    show (if (k == .cell) = true then _ else _) = _
    rw [h1]
    exact cellsFrom_no r n acc h2
theorem lookup_nodupV {α : Type} {x : Str} {k : α} : ∀ {l : List (Str × α)}, (l.map (·.1)).Nodup → (x, k) ∈ l → l.lookup x = some k
  | [], _, h => by cases h
  | (y, j) :: r, hn, h => by
    rw [List.map_cons, List.nodup_cons] at hn
    rw [List.lookup_cons]
    rcases List.mem_cons.mp h with q | q
    · cases q; rw [beq_self_eq_true]
    · have : (x == y) = false := by
        rw [beq_eq_false_iff_ne]
        rintro rfl
        exact hn.1 (List.mem_map.mpr ⟨_, q, rfl⟩)
      rw [this]
      exact lookup_nodupV hn.2 q

section
variable {W : Wd} {C : Addr} {cx : Fx} {m : Str → Option Value} {cv st : List (Addr × Obj)} {μ : List Addr} {H H' : AH} {s : Shared} {f : Str} {a : Addr} {params : Arguments} {scope : Scope} {body : List Stmt} {avs : List AV} {vs : List Value} {v : AV} {Q : Value → Shared → Prop} {E : Value → Shared → Prop}
theorem try_call (FT : FnT W.K f params scope body) (ha : nsIn W.K mainGlobals f = some (some (.ref a))) (hc : cx.C = C) (ok : FxOk W 21 cx st) (hh : cx.A.handled = none) (I : Inv cx m cv st μ H s.heap) (r : VsRel μ avs vs) (hlen : avs.length = params.args.length) (p : PostG cx m cv st s μ RV Q E (.ok v H'))
    (k : ∀ (cx₁ : Fx) (m₁ : Str → Option Value) (h₁ : Heap) (tk : Nat), TryFx W C cx₁ (cv ++ st) → cx₁.c = cxOf scope → Inv cx₁ m₁ [] (cv ++ st) μ H h₁ → VarsOK cx₁ m₁ [] μ (avs.map some ++ List.replicate ((cxOf scope).n - params.args.length) none) → CellsIn cx₁ [] →
      wpAny W.M cx₁.A (execs body cx₁.env) (TEnd cx₁ (cv ++ st) { s with heap := h₁, toks := tk } μ v H') (fun _ _ => False) { s with heap := h₁, toks := tk }) :
    wpAny W.M cx.A (call (.ref a) vs) Q E s := by
  obtain ⟨a', oc, od, osl, name, qual, doc, pm, cdv, ct, an, e1, e2, e3, e5, e6, e7, e8, e9, e10, e11⟩ := FT
  rw [ha] at e1
  cases e1
  obtain ⟨ho, XB, TB⟩ := ok.out (by decide)
  have hvl : params.args.length = vs.length := by rw [← hlen]; exact r.1
  have hpn : (params.args.map (·.arg)).Nodup := by
    rw [← e10]
    refine List.Nodup.sublist (List.take_sublist _ _) ?_
    have : ∀ (names : List (Str × NameKind)) (k : Nat), ((slotsFrom names k).map (·.1)).Sublist (names.map (·.1)) := by
      intro names
      induction names with
      | nil => intro k; simp [slotsFrom]
      | cons q r ih =>
        intro k
        obtain ⟨x, kd⟩ := q
        cases kd <;> simp only [slotsFrom, List.map_cons]
        all_goals first | exact (ih _).cons_cons _ | exact (ih _).cons _
    exact List.Nodup.sublist (this _ _) e9
  have hbl : ((params.args.map (·.arg)).zip vs).map (·.1) = params.args.map (·.arg) := by
    rw [List.map_fst_zip]; simp [hvl]
  have nocell : ∀ y : Str, scope.names.lookup y ≠ some .cell := fun y hy => by
    have := List.all_eq_true.mp e11 _ (lookup_mem' hy)
    simp at this
  have hslot : ∀ (x : Str) (i : Nat), (slotsFrom scope.names 0).lookup x = some i → i < params.args.length → (params.args.map (·.arg))[i]? = some x := fun x i hx hi => by
    rw [← e10, List.getElem?_take, if_pos hi, List.getElem?_map, slots_lookup hx]; rfl
  have hparam : ∀ x ∈ params.args.map (·.arg), scope.names.lookup x = some .local := fun x hx => by
    rw [← e10] at hx
    obtain ⟨q, hq, rfl⟩ := List.mem_map.mp (List.mem_of_mem_take hx)
    rcases slots_mem _ _ _ hq with z | z
    · exact lookup_nodup e9 z
    · exact absurd (lookup_nodup e9 z) (nocell _)
  have hin : ∀ (x : Str) (i : Nat) (av : AV), (slotsFrom scope.names 0).lookup x = some i → (avs.map some ++ List.replicate ((cxOf scope).n - params.args.length) none)[i]? = some (some av) → ∃ v, (x, v) ∈ (params.args.map (·.arg)).zip vs ∧ VRel μ av v := by
    intro x i av hx hr
    have hi : i < avs.length := by
      rcases Nat.lt_or_ge i avs.length with h | h
      · exact h
      · rw [List.getElem?_append_right (by simpa using h)] at hr
        rw [List.getElem?_replicate] at hr
        split at hr
        · cases hr
        · cases hr
    rw [List.getElem?_append_left (by simpa using hi), List.getElem?_map] at hr
    have hav : avs[i]? = some av := by
      cases q : avs[i]? with
      | none => rw [q] at hr; cases hr
      | some z => rw [q] at hr; cases hr; rfl
    obtain ⟨v, hv, rv⟩ := r.get hav
    have hx' := hslot x i hx (hlen ▸ hi)
    refine ⟨v, ?_, rv⟩
    refine List.mem_iff_getElem?.mpr ⟨i, ?_⟩
    rw [List.getElem?_zip_eq_some]
    exact ⟨hx', hv⟩
  have B₀ : Below cx.A₀ cx.base [] cx.h₀ := ho ▸ ok.B
  have fr₀ : cx.A.frames = some [cx.fenv] := ho ▸ ok.fr
  refine wpAny_call (callS (news := newsOf cx.h₀ s.heap cx.L) B₀ I.fr newsOf_News ok.T.nolimit fr₀ ok.ff ok.fk ((ok.X.keeps I.fr.keep) _ _ e2) rfl (codeRec_of (ok.X.keeps I.fr.keep) e3) (by have := ok.dp; decreasing_trivial)
    (.of_eq (binds_plain e5 hpn hvl)) (fun y hy => ?_) (fun g L' h₁ tk FG F' N' B' hst lt => ?_) (fun y hy q => ?_) e6 e7 e8)
  · refine hparam y.1 ?_
    rw [← hbl]; exact List.mem_map_of_mem hy
  · have hE : envOfC qual scope L' a cdv = envOf qual scope L' a cdv := by
      show ({ scope := scope, locals := L', globals := mainGlobals, cells := cellsFrom (L' + 1) scope.names [], qual := qual ++ ".<locals>.", func := some a, code := cdv, frame := some L', builtins := builtinsNs } : Env) = _
      rw [cellsFrom_no _ _ _ e11]; rfl
    have G : Ground cx m (fun y => ((params.args.map (·.arg)).zip vs).reverse.lookup y) [] s.heap g h₁ L' :=
      ⟨FG, F', N', hst, lt, fun p hp => absurd hp List.not_mem_nil, fun p hp => absurd hp List.not_mem_nil⟩
    have J : Inv (cx.callee qual scope L' a cdv g) (fun y => ((params.args.map (·.arg)).zip vs).reverse.lookup y) [] (cv ++ st) μ H h₁ := I.enter G rfl rfl rfl rfl
    have B'' : Below cx.A cx.base (cx.fenv :: cx.outer) g := by rw [ho]; exact B'
    have okC : FxOk W 20 (cx.callee qual scope L' a cdv g) (cv ++ st) := ok.callee hst B'' e8 e9 (Nat.le_refl _)
    have V : VarsOK (cx.callee qual scope L' a cdv g) (fun y => ((params.args.map (·.arg)).zip vs).reverse.lookup y) [] μ (avs.map some ++ List.replicate ((cxOf scope).n - params.args.length) none) := by
      refine ⟨?_, fun x i av hx hi hr => ?_, fun x i av hx hi hr => absurd hx (nocell x)⟩
      · show _ = (cxOf scope).n
        have : params.args.length ≤ (cxOf scope).n := by
          have := congrArg List.length e10
          simp only [List.length_take, List.length_map] at this
          show params.args.length ≤ (slotsFrom scope.names 0).length
          decreasing_trivial
        simp only [List.length_append, List.length_map, List.length_replicate, hlen]
        decreasing_trivial
      · obtain ⟨v, hv, rv⟩ := hin x i av hi hr
        refine ⟨v, ?_, rv⟩
        exact lookup_nodupV (by rw [List.map_reverse, hbl]; exact List.pairwise_reverse.mpr (hpn.imp fun h => h.symm)) (List.mem_reverse.mpr hv)
    have w : Waits cx := fun b hb => by rw [ho] at hb; cases hb
    have TF : TryFx W C (cx.callee qual scope L' a cdv g) (cv ++ st) := ⟨hc, okC, FrOk.callee, hh, w.callee ok.ff, rfl, ⟨qual, scope, a, cdv, hE⟩, XB, TB⟩
    rw [← hE]
    refine wpAny_mono (k (cx.callee qual scope L' a cdv g) _ h₁ tk TF rfl J V (fun x c hx => absurd hx (nocell x))) (fun fl s' hl => ?_) fun _ _ z => z.elim
    obtain ⟨b, g', h', tk', μ', m', cv', rfl, rfl, T', hp, J', rv⟩ := hl
    have hfs : (cx.callee qual scope L' a cdv g).outer.filterMap (·.frame) = [cx.L] := by
      show (cx.fenv :: cx.outer).filterMap (·.frame) = _
      rw [ho, List.filterMap_cons_some (ok.ff : (fun x : Env => x.frame) cx.fenv = some cx.L)]; rfl
    rw [hfs] at T'
    have T' : KtsTurn [cx.L] g g' := T'
    refine ⟨g', L', m', cv ++ st, T', J'.fr, J'.stN, fun F N => ?_⟩
    -- the ground as the caller sees it
    obtain ⟨oL, es, ep, hLg, hLd, hLk, hLf⟩ := FG.ns
    obtain ⟨sl, hs⟩ := T'.up hLg
    have st' : cx.h₀.StaysIn g' := fun b o e => T'.other b o (hst b o e) fun q => by
      have nL := kts_self FG
      rw [List.mem_singleton.mp q, nL] at e
      cases e
    have FG' : Fr cx.h₀ cx.L g' m := ⟨⟨_, es, ep, hs, hLd, hLk, hLf⟩, st', FG.above⟩
    exact p b h' tk' μ' hp (I.leave FG' st' J' rfl rfl rfl F N) rv
  · have := List.all_eq_true.mp e11 y hy
    rw [q] at this
    simp at this
end
end Mine

/-! ## part C48 -/
namespace Mine
open PySem PySem.W PyProof.Rows

section
variable {K : Frag} {x D : Addr}
theorem exc_kitx (Z : ExcIsi K D) : KitX K (.ref x) (.ref D) (IsOf x D) where
  ty := fun _ _ _ I => I.type
  it := fun _ _ X _ => by
    obtain ⟨cd, hc⟩ := Option.isSome_iff_exists.mp Z.is
    unfold clsIn at hc
    split at hc
    · rename_i ho
      intro A' Q' E' s' k q
      unfold isType loadHead
      exact wpAny_bind (wpAny_loadPart (k _ _ (X _ _ ho)) (wpAny_pure q))
    · cases hc
  ne := fun h tp dd its n sl X htp => by
    obtain ⟨cd, hc⟩ := Option.isSome_iff_exists.mp Z.is
    refine Bool.eq_false_iff.mpr fun q => ?_
    have e : D = tp := Value.ref.inj (beq_iff_eq.mp q)
    subst e
    unfold clsIn at hc
    split at hc
    · rename_i ho
      have z := (X _ _ ho).symm.trans htp
      cases z
    · cases hc
  ca := fun X I k => exc_class Z X I k
end

section
variable {W : Wd} {P : Pg} {C : Addr} {d : Nat} {cx : Fx} {m : Str → Option Value} {cv st : List (Addr × Obj)} {μ : List Addr} {ρ : Rho} {H H' : AH} {s : Shared} {E : Value → Shared → Prop}
/-- what a class name stands for -/
inductive ClsName (K : Frag) (c : Cx) (x : Str) : Value → Prop
  | own {a : Addr} (hg : c.global x = true) (e : nsIn K mainGlobals x = some (some (.ref a))) : ClsName K c x (.ref a)
  | boot {T : String} (hg : c.global x = true) (e : nsIn K mainGlobals x = some none) (hv : bootBuiltins x = some (.type T)) (hn : x ≠ "__name__") : ClsName K c x (.type T)
theorem clsName_at {y : Str} {pos : Pos} {v : Value} {Q : Value → Shared → Prop} (ok : FxOk W d cx st) (I : Inv cx m cv st μ H s.heap) (N : ClsName W.K cx.c y v) (h : Q v s) : wpAny W.M cx.A (eval (.Name y pos) cx.env) Q E s := by
  cases N with
  | own hg e => obtain ⟨g1, g2⟩ := global_of hg; exact name_glob ok I g1 g2 e h
  | boot hg e hv hn => obtain ⟨g1, g2⟩ := global_of hg; exact name_boot ok I g1 g2 e hv hn h
/-- isinstance of a name that the small language does not see -/
theorem isi_raw {n y : Str} {x D : Addr} {c : Value} {b : Bool} {fp np yp pos : Pos} {Q : Value → Shared → Prop} (LK : Lk W P C) (ok : FxOk W d cx st) (fo : FrOk cx) (I : Inv cx m cv st μ H s.heap) (gI : cx.c.global "isinstance" = true) (hk : cx.c.names.lookup n = some .local) (hnd : (n == ("__debug__" : Str)) = false) (hm : m n = some (.ref x))
    (N : ClsName W.K cx.c y c) (Z : ExcIsi W.K D) (hx : IsOf x D s.heap) (e : kitOne W.K (.ref D) c = some b) (h : ∀ tk, Q (.bool b) { s with toks := tk }) :
    wpAny W.M cx.A (eval (.Call (.Name "isinstance" fp) [.Name n np, .Name y yp] [] pos) cx.env) Q E s := by
  have L := ok.loc
  rw [fo.mc] at L
  dsimp only at L
  refine callB LK ok I gI (.tail _ (.tail _ (.tail _ (.tail _ (.tail _ (.tail _ (.head _))))))) Boot.«isinstance» (by decide) rfl ?_
  refine args_cons (wpAny_Name (wpAny_loadName_local ok.ek ((ok.kind n).trans hk) (by rw [L]; exact I.fr.ns) hm ?_) hnd) rfl
  refine args_cons (clsName_at ok I N (args_nil ?_)) rfl
  exact kia_one (exc_kitx Z) (ok.X.keeps I.fr.keep) hx e (by intro q; cases q) h
theorem isi_test {n y : Str} {x D : Addr} {c : Value} {b : Bool} {fp np yp pos : Pos} {Q : Bool → Shared → Prop} (LK : Lk W P C) (ok : FxOk W d cx st) (fo : FrOk cx) (I : Inv cx m cv st μ H s.heap) (gI : cx.c.global "isinstance" = true) (hk : cx.c.names.lookup n = some .local) (hnd : (n == ("__debug__" : Str)) = false) (hm : m n = some (.ref x))
    (N : ClsName W.K cx.c y c) (Z : ExcIsi W.K D) (hx : IsOf x D s.heap) (e : kitOne W.K (.ref D) c = some b) (h : ∀ tk, Q b { s with toks := tk }) :
    wpAny W.M cx.A (isTrue (.Call (.Name "isinstance" fp) [.Name n np, .Name y yp] [] pos) cx.env (eval (.Call (.Name "isinstance" fp) [.Name n np, .Name y yp] [] pos) cx.env)) Q E s :=
  isTrue_plain (isi_raw LK ok fo I gI hk hnd hm N Z hx e fun tk => wpAny_pure (h tk)) rfl
end

section
variable {W : Wd} {P : Pg} {C : Addr} {cx : Fx} {m : Str → Option Value} {cv st : List (Addr × Obj)} {μ : List Addr} {ρ ρ' : Rho} {H H' : AH} {s : Shared} {Q : Flow → Shared → Prop} {E : Value → Shared → Prop}
/-- a plain statement -/
theorem t_plain {t : Stmt} {r : List Stmt} (ha : ∀ e, S3 W P (callN P 20) C 20 e) (T : TryFx W C cx st) (V : VarsOK cx m cv μ ρ) (Ci : CellsIn cx cv) (I : Inv cx m cv st μ H s.heap) (h : ex P (callN P 20) (cS t cx.c) ρ H = .ok (.next ρ') H')
    (k : ∀ h' tk μ' m' cv', μ <+: μ' → Inv cx m' cv' st μ' H' h' → VarsOK cx m' cv' μ' ρ' → CellsIn cx cv' → wpAny W.M cx.A (execs r cx.env) Q E { s with heap := h', toks := tk }) : wpAny W.M cx.A (execs (t :: r) cx.env) Q E s := by
  refine wpAny_execs_cons (all5 ha t cx m cv st ρ μ H s _ E ⟨⟨T.c, T.ok, V, T.hh⟩, T.fo, Ci⟩ I ?_)
  rw [h]
  exact fun h' tk μ' m' cv' hp I' V' C' => k h' tk μ' m' cv' hp I' V' C'
/-- the last statement: a return -/
theorem t_ret {t : Stmt} {r : List Stmt} {v : AV} (ha : ∀ e, S3 W P (callN P 20) C 20 e) (T : TryFx W C cx st) (V : VarsOK cx m cv μ ρ) (Ci : CellsIn cx cv) (I : Inv cx m cv st μ H s.heap) (h : ex P (callN P 20) (cS t cx.c) ρ H = .ok (.ret v) H') :
    wpAny W.M cx.A (execs (t :: r) cx.env) (TEnd cx st s μ v H') E s := by
  refine wpAny_execs_cons (all5 ha t cx m cv st ρ μ H s _ E ⟨⟨T.c, T.ok, V, T.hh⟩, T.fo, Ci⟩ I ?_)
  rw [h]
  exact fun b h' tk μ' m' cv' hp I' C' r => ⟨b, cx.h₀, h', tk, μ', m', cv', rfl, rfl, .refl, hp, I', r⟩
/-- a try that is caught and counted -/
theorem t_count (LK : Lk W P C) (ha : ∀ e, S3 W P (callN P 20) C 20 e) {cs : List Str} (hF : FOk W P C 20 cs (RxF P 20)) (hcs : ClsOk W cs) {c x y : Str} (hc : c ∈ cs) {b : List Stmt} {D : Addr} {mroD : List Value} {i : Nat} {v k : Int} {np px py kp bp ap hp tp : Pos} {kk : Nat} {rest : List Stmt}
    (h : RxL P (callN P 20) (RxF P 20) (cSs b cx.c) ρ H c H' ρ true) (T : TryFx W C cx st) (V : VarsOK cx m cv μ ρ) (Ci : CellsIn cx cv) (I : Inv cx m cv st μ H s.heap) (hg : cx.c.global y = true) (hD : OwnExc W.K y D mroD) (hC : ∀ C', nsIn W.K mainGlobals c = some (some (.ref C')) → ∃ mroC, OwnExc W.K c C' mroC ∧ mroC.contains (.ref D) = true)
    (hx : slotOf cx.c x = some i) (hd : (x == ("__debug__" : Str)) = false) (hv : ρ[i]? = some (some (.int v)))
    (kn : ∀ g' h' tk μ' m' cv', KtsTurn (cx.outer.filterMap (·.frame)) cx.h₀ g' → μ <+: μ' → TryFx W C (cx.on g') st → Inv (cx.on g') m' cv' st μ' H' h' → VarsOK (cx.on g') m' cv' μ' (ρ.set i (some (.int (v + k)))) → CellsIn (cx.on g') cv' → wpAny W.M cx.A (execs rest cx.env) Q E { s with heap := h', toks := tk }) :
    wpAny W.M cx.A (execs (.Try b [.ExceptHandler (some (.Name y np)) none [.Assign [.Name x px] (.BinOp (.Name x py) .Add (.Constant (.int k) kk kp) bp) ap] hp] [] [] tp :: rest) cx.env) Q E s := by
  obtain ⟨name, scope, a, cd, hfe⟩ := T.hfe
  refine wpAny_execs_cons (try_one LK ha hF hcs hc h ⟨⟨T.c, T.ok, V, T.hh⟩, T.fo, Ci⟩ T.w I hfe T.hen T.XB T.TB hg hD hC fun g' e h' tk μ' m' cv' hp' T' I' ok' V' C' => ?_)
  refine wpAny_execs_cons (suite_add (cx := (cx.on g').busy e) (s := { s with heap := h', toks := tk }) (ok'.busy e) T.fo.on.busy ⟨V'.len, V'.loc, V'.cel⟩ C' (I'.busy e) hx hx hd hv fun h'' tk'' m'' cv'' I'' V'' C'' => ?_)
  exact wpAny_execs_nil (kn g' h'' tk'' μ' m'' cv'' T' hp' (T.on ok') I''.calm ⟨V''.len, V''.loc, V''.cel⟩ C'')
/-- the same under a name, if it is of a class -/
theorem t_count_as (LK : Lk W P C) (ha : ∀ e, S3 W P (callN P 20) C 20 e) {cs : List Str} (hF : FOk W P C 20 cs (RxF P 20)) (hcs : ClsOk W cs) {c x y z n : Str} (hc : c ∈ cs) {b : List Stmt} {D : Addr} {mroD : List Value} {i j : Nat} {v k : Int} {np px py kp bp ap hp tp fp ep zp cp ip : Pos} {kk : Nat} {rest : List Stmt} {zv : Value}
    (h : RxL P (callN P 20) (RxF P 20) (cSs b cx.c) ρ H c H' ρ true) (T : TryFx W C cx st) (V : VarsOK cx m cv μ ρ) (Ci : CellsIn cx cv) (I : Inv cx m cv st μ H s.heap) (hg : cx.c.global y = true) (hD : OwnExc W.K y D mroD) (hC : ∀ C', nsIn W.K mainGlobals c = some (some (.ref C')) → ∃ mroC, OwnExc W.K c C' mroC ∧ mroC.contains (.ref D) = true)
    (hk : cx.c.names.lookup n = some .local) (hj : cx.c.slots.lookup n = some j) (hn : ∀ av, ρ[j]? ≠ some (some av)) (hnd : (n == ("__debug__" : Str)) = false) (hji : ∀ av, (ρ.set i (some (.int (v + k))))[j]? ≠ some (some av)) (gI : cx.c.global "isinstance" = true) (N : ClsName W.K cx.c z zv)
    (hZ : ∀ C', nsIn W.K mainGlobals c = some (some (.ref C')) → ExcIsi W.K C' ∧ kitOne W.K (.ref C') zv = some true)
    (hx : slotOf cx.c x = some i) (hd : (x == ("__debug__" : Str)) = false) (hv : ρ[i]? = some (some (.int v)))
    (kn : ∀ g' h' tk μ' m' cv', KtsTurn (cx.outer.filterMap (·.frame)) cx.h₀ g' → μ <+: μ' → TryFx W C (cx.on g') st → Inv (cx.on g') m' cv' st μ' H' h' → VarsOK (cx.on g') m' cv' μ' (ρ.set i (some (.int (v + k)))) → CellsIn (cx.on g') cv' → wpAny W.M cx.A (execs rest cx.env) Q E { s with heap := h', toks := tk }) :
    wpAny W.M cx.A (execs (.Try b [.ExceptHandler (some (.Name y np)) (some n) [.If (.Call (.Name "isinstance" fp) [.Name n ep, .Name z zp] [] cp) [.Assign [.Name x px] (.BinOp (.Name x py) .Add (.Constant (.int k) kk kp) bp) ap] [] ip] hp] [] [] tp :: rest) cx.env) Q E s := by
  obtain ⟨name, scope, a, cd, hfe⟩ := T.hfe
  refine wpAny_execs_cons (try_as LK ha hF hcs hc h ⟨⟨T.c, T.ok, V, T.hh⟩, T.fo, Ci⟩ T.w I hfe T.hen T.XB T.TB hg hD hC hk hj hn fun g' e h' tk μ' m' cv' C' hp' T' I' ok' V' Ci' hm hc' hob => ?_)
  obtain ⟨Z, hz⟩ := hZ C' hc'
  refine wpAny_execs_cons (wpAny_If (isi_test (cx := (cx.on g').busy e) (s := { s with heap := h', toks := tk }) LK (ok'.busy e) T.fo.on.busy (I'.busy e) gI hk hnd hm N Z hob hz fun tk₂ => ?_))
  refine wpAny_execs_cons (suite_add (cx := (cx.on g').busy e) (s := { s with heap := h', toks := tk₂ }) (ok'.busy e) T.fo.on.busy ⟨V'.len, V'.loc, V'.cel⟩ Ci' (I'.busy e) hx hx hd hv fun h'' tk'' m'' cv'' I'' V'' C'' => ?_)
  refine wpAny_execs_nil (wpAny_execs_nil ?_)
  refine unbind_sound (cx := cx.on g') (s := { s with heap := h'', toks := tk'' }) hk hj hji ok' T.fo.on ⟨V''.len, V''.loc, V''.cel⟩ I''.calm fun h₃ tk₃ m₃ I₃ V₃ => ?_
  exact kn g' h₃ tk₃ μ' m₃ cv'' T' hp' (T.on ok') I₃ V₃ C''
end
end Mine

/-! ## part C49 -/
namespace Mine
open PySem PySem.W PyProof.Rows

/-! one function of the law's own has an answer of its own -/
open Classical in
noncomputable def relR (Sp : List AV → AH → AV → AH → Prop) (a : List AV) (H : AH) : Res AV :=
  if h : ∃ q : AV × AH, Sp a H q.1 q.2 then .ok (choose h).1 (choose h).2 else .stuck
theorem relR_ok {Sp : List AV → AH → AV → AH → Prop} {a : List AV} {H : AH} {v : AV} {H' : AH} (h : Sp a H v H') : ∃ v' H'', relR Sp a H = .ok v' H'' ∧ Sp a H v' H'' := by
  have e : ∃ q : AV × AH, Sp a H q.1 q.2 := ⟨(v, H'), h⟩
  refine ⟨(Classical.choose e).1, (Classical.choose e).2, ?_, Classical.choose_spec e⟩
  unfold relR
  rw [dif_pos e]
theorem relR_inv {Sp : List AV → AH → AV → AH → Prop} {a : List AV} {H : AH} {P : Res AV → Prop} (h0 : P .stuck → False) (h : P (relR Sp a H)) : ∃ v H', Sp a H v H' ∧ P (.ok v H') := by
  unfold relR at h
  split at h
  · rename_i e
    exact ⟨_, _, Classical.choose_spec e, h⟩
  · exact (h0 h).elim
noncomputable def spC (P : Pg) (g : Str) (Sp : List AV → AH → AV → AH → Prop) : Calls := fun f a H => if f = g then relR Sp a H else callN P 21 f a H
theorem spC_ne {P : Pg} {g f : Str} {Sp : List AV → AH → AV → AH → Prop} {a : List AV} {H : AH} (h : f ≠ g) : spC P g Sp f a H = callN P 21 f a H := if_neg h
theorem spC_eq {P : Pg} {g : Str} {Sp : List AV → AH → AV → AH → Prop} {a : List AV} {H : AH} : spC P g Sp g a H = relR Sp a H := if_pos rfl
/-- the function's own answer is so -/
noncomputable def SpOk (W : Wd) (C : Addr) (g : Str) (Sp : List AV → AH → AV → AH → Prop) : Prop :=
  ∀ (a : Addr), nsIn W.K mainGlobals g = some (some (.ref a)) → ∀ (cx : Fx) (m : Str → Option Value) (cv st : List (Addr × Obj)) (μ : List Addr) (H H' : AH) (s : Shared) (avs : List AV) (vs : List Value) (v : AV) (Q : Value → Shared → Prop) (E : Value → Shared → Prop),
    cx.C = C → FxOk W 21 cx st → cx.A.handled = none → Inv cx m cv st μ H s.heap → VsRel μ avs vs → Sp avs H v H' → PostG cx m cv st s μ RV Q E (.ok v H') → wpAny W.M cx.A (call (.ref a) vs) Q E s
theorem spC_ok {W : Wd} {P : Pg} {C : Addr} {g : Str} {Sp : List AV → AH → AV → AH → Prop} (LK : Lk W P C) (BI : BkInit W.K C) (h : SpOk W C g Sp) : CallsOk W P C 21 (spC P g Sp) := by
  intro f a hf ha cx m cv st μ H s avs vs Q E hc ok hh I r p
  by_cases q : f = g
  · subst q
    rw [spC_eq] at p
    obtain ⟨v, H', hs, p'⟩ := relR_inv (P := PostG cx m cv st s μ RV Q E) (fun z => z) p
    exact h a ha cx m cv st μ H H' s avs vs v Q E hc ok hh I r hs p'
  · rw [spC_ne q] at p
    exact callN_ok LK (book_ok BI) 21 (Nat.le_refl _) f a hf ha cx m cv st μ H s avs vs Q E hc ok hh I r p

noncomputable def mroAt (K : Frag) (D : Addr) : List Value := (mroIn K D).getD []
/-- _law_nothing as it lies -/
theorem fnT_mk {K : Frag} {f : Str} {params : Arguments} {scope : Scope} {body : List Stmt} {a : Addr} {oc : Value} {od : Option Addr} {osl : Array (Option Value)} {name qual : Str} {doc pm cdv ct : Value} {an : Option Addr}
    (h1 : nsIn K mainGlobals f = some (some (.ref a))) (h2 : K.lookup a = some ⟨oc, od, .func (fnOf name qual params body scope .none .none doc pm an cdv ct), osl⟩) (h3 : codeIn K cdv qual = true) (h5 : plainParams params = true) (h6 : scope.isCoroutine = false) (h7 : scope.isGenerator = false) (h8 : scope.kind = .function)
    (h9 : (scope.names.map (·.1)).Nodup) (h10 : ((slotsFrom scope.names 0).map (·.1)).take params.args.length = params.args.map (·.arg)) (h11 : (scope.names.all fun p => !(p.2 == .cell)) = true) : FnT K f params scope body := .mk _ _ _ _ _ _ _ _ _ _ _ h1 h2 h3 h5 h6 h7 h8 h9 h10 h11
end Mine

/-! ## part C50 -/
namespace Mine
open PySem PySem.W PyProof.Rows

section
variable {W : Wd} {P : Pg} {C : Addr} {d : Nat} {cx : Fx} {m : Str → Option Value} {cv st : List (Addr × Obj)} {μ : List Addr} {ρ : Rho} {H H' : AH} {s : Shared} {E : Value → Shared → Prop}
/-- isinstance against four classes -/
theorem isi_four {n y1 y2 y3 y4 : Str} {x D : Addr} {c1 c2 c3 c4 : Value} {b : Bool} {fp np p1 p2 p3 p4 tp pos : Pos} {kk : Nat} {Q : Value → Shared → Prop} (LK : Lk W P C) (ok : FxOk W d cx st) (fo : FrOk cx) (I : Inv cx m cv st μ H s.heap) (gI : cx.c.global "isinstance" = true) (hk : cx.c.names.lookup n = some .local) (hnd : (n == ("__debug__" : Str)) = false) (hm : m n = some (.ref x))
    (N1 : ClsName W.K cx.c y1 c1) (N2 : ClsName W.K cx.c y2 c2) (N3 : ClsName W.K cx.c y3 c3) (N4 : ClsName W.K cx.c y4 c4) (Z : ExcIsi W.K D) (hx : IsOf x D s.heap) (e : kitAny W.K (.ref D) [c1, c2, c3, c4] = some b)
    (h : ∀ h' tk, (∀ b o, s.heap.get? b = some o → h'.get? b = some o) → Q (.bool b) { s with heap := h', toks := tk }) :
    wpAny W.M cx.A (eval (.Call (.Name "isinstance" fp) [.Name n np, .Tuple [.Name y1 p1, .Name y2 p2, .Name y3 p3, .Name y4 p4] kk tp] [] pos) cx.env) Q E s := by
  have L := ok.loc
  rw [fo.mc] at L
  dsimp only at L
  refine callB LK ok I gI (.tail _ (.tail _ (.tail _ (.tail _ (.tail _ (.tail _ (.head _))))))) Boot.«isinstance» (by decide) rfl ?_
  refine args_cons (wpAny_Name (wpAny_loadName_local ok.ek ((ok.kind n).trans hk) (by rw [L]; exact I.fr.ns) hm ?_) hnd) rfl
  refine args_cons (Tuple_ (args_cons (clsName_at ok I N1 (args_cons (clsName_at ok I N2 (args_cons (clsName_at ok I N3 (args_cons (clsName_at ok I N4 (args_nil ?_)) rfl)) rfl)) rfl)) rfl)) rfl
  refine wpAny_newObj_type (args_nil ?_) (by show 4 ≤ sizeLine; decide)
  have hkeep : ∀ b o, s.heap.get? b = some o → (s.heap.push { cls := .type "tuple", data := .seq [c1, c2, c3, c4].toArray }).get? b = some o := fun b o e => Heap.get?_push_of_some _ e
  refine kia_tup (exc_kitx Z) ((ok.X.keeps I.fr.keep).keeps hkeep) ?_ (Heap.get?_push_size _ rfl) e (by intro q; cases q) fun tk => h _ tk hkeep
  obtain ⟨ob, h1, h2⟩ := hx
  exact ⟨ob, hkeep _ _ h1, h2⟩
end

/-- _law_refused_by_any's text -/
inductive RaF (K : Frag) : Prop
  | mk {params : Arguments} {scope : Scope} {t4 : Stmt} {b1 : List Stmt} {n1 d1 d2 d3 d4 d5 d6 d7 d8 d9 e1 e2 e3 e4 e5 e6 e7 e8 e9 : Pos} {k1 k2 : Nat}
    (F : FnT K "_law_refused_by_any" params scope [
      .Try b1 [.ExceptHandler (some (.Name "BookError" n1)) (some "e") [.If (.Call (.Name "isinstance" d1) [.Name "e" d2, .Tuple [.Name "NoRow" d3, .Name "Nothing" d4, .Name "OutOfRow" d5, .Name "TooMany" d6] k1 d7] [] d8) [.Return (some (.Constant (.bool false) k2 d9)) e1] [] e2,
        .Return (some (.Call (.Name "isinstance" e3) [.Name "e" e4, .Name "ValueError" e5] [] e6)) e7] e8] [] [] e9, t4])
    (hp : params.args.length = 1) (hn : (cxOf scope).n = 2) (h1 : cSs b1 (cxOf scope) = [.expr (.call "read" [.var 0])])
    (le : (cxOf scope).names.lookup ("e" : Str) = some .local) (se : (cxOf scope).slots.lookup ("e" : Str) = some 1)
    (gB : (cxOf scope).global "BookError" = true) (gI : (cxOf scope).global "isinstance" = true) (gV : (cxOf scope).global "ValueError" = true)
    (g1 : (cxOf scope).global "NoRow" = true) (g2 : (cxOf scope).global "Nothing" = true) (g3 : (cxOf scope).global "OutOfRow" = true) (g4 : (cxOf scope).global "TooMany" = true) : RaF K
/-- the classes -/
structure RaC (K : Frag) (D1 D2 a1 a2 a3 a4 : Addr) : Prop where
  n1 : OwnExc K "NoDeed" D1 (mroAt K D1)
  x1 : excIn K D1 veTail "ValueError.__new__" = true
  n2 : OwnExc K "BookError" D2 (mroAt K D2)
  i1 : (mroAt K D1).contains (.ref D1) = true
  i2 : (mroAt K D1).contains (.ref D2) = true
  z : ExcIsi K D1
  v : kitOne K (.ref D1) (.type "ValueError") = some true
  nv : nsIn K mainGlobals "ValueError" = some none
  e1 : nsIn K mainGlobals "NoRow" = some (some (.ref a1))
  e2 : nsIn K mainGlobals "Nothing" = some (some (.ref a2))
  e3 : nsIn K mainGlobals "OutOfRow" = some (some (.ref a3))
  e4 : nsIn K mainGlobals "TooMany" = some (some (.ref a4))
  no : kitAny K (.ref D1) [.ref a1, .ref a2, .ref a3, .ref a4] = some false
/-- what it does where read refuses -/
inductive RaSp (P : Pg) : List AV → AH → AV → AH → Prop
  | mk {x : AV} {H H₁ : AH} (h1 : RxF P 20 "read" [x] H "NoDeed" H₁) : RaSp P [x] H (.bool true) H₁

section
variable {W : Wd} {P : Pg} {C : Addr}
theorem ra_cls {D1 D2 a1 a2 a3 a4 : Addr} (NC : RaC W.K D1 D2 a1 a2 a3 a4) : ClsOk W ["NoDeed"] := fun k hk => by rw [List.mem_singleton.mp hk]; exact ⟨D1, NC.n1.ns, NC.x1⟩
theorem ra_own {D1 D2 a1 a2 a3 a4 D : Addr} (NC : RaC W.K D1 D2 a1 a2 a3 a4) (hD : (mroAt W.K D1).contains (.ref D) = true) : ∀ C', nsIn W.K mainGlobals "NoDeed" = some (some (.ref C')) → ∃ mroC, OwnExc W.K "NoDeed" C' mroC ∧ mroC.contains (.ref D) = true := fun C' e => by
  have := e.symm.trans NC.n1.ns
  cases this
  exact ⟨_, NC.n1, hD⟩
theorem raSp_ok (LK : Lk W P C) {D1 D2 a1 a2 a3 a4 : Addr} (NC : RaC W.K D1 D2 a1 a2 a3 a4) (NF : RaF W.K) (hl : (P.fns.lookup ("read" : Str)).isSome = true) : SpOk W C "_law_refused_by_any" (RaSp P) := by
  intro a ha cx m cv st μ H H' s avs vs v Q E hc ok hh I r sp p
  have hB : ∀ d, BookOk W C d := fun _ => trivial
  have S := all_S3 LK (callN_ok LK hB 20 (by decide)) (hB 20)
  have hcs := ra_cls NC
  have hF := rxF_ok LK hB hcs 20 (by decide)
  cases NF with
  | mk F hp hn h1 le se gB gI gV g1 g2 g3 g4 =>
  cases sp with
  | @mk x _ _ r1 =>
  refine try_call F ha hc ok hh I r hp.symm p fun cx₁ m₁ hp₁ tk₁ T hcx J V Ci => ?_
  rw [hp, hn] at V
  have V : VarsOK cx₁ m₁ [] μ [some x, none] := V
  obtain ⟨name, scope', a', cd, hfe⟩ := T.hfe
  have le' : cx₁.c.names.lookup ("e" : Str) = some .local := hcx ▸ le
  have se' : cx₁.c.slots.lookup ("e" : Str) = some 1 := hcx ▸ se
  have no1 : ∀ av, ([some x, none] : Rho)[1]? ≠ some (some av) := fun av q => by cases q
  refine wpAny_execs_cons (try_as LK S hF hcs (.head _) (H' := H') (ρo := [some x, none]) (by rw [hcx, h1]; exact .expr (.call hl rfl r1)) ⟨⟨T.c, T.ok, V, T.hh⟩, T.fo, Ci⟩ T.w J hfe T.hen T.XB T.TB (hcx ▸ gB) NC.n2 (ra_own NC NC.i2) le' se' no1 fun g' e h' tk μ' m' cv' C' hp' T' I' ok' V' Ci' hm hc' hob => ?_)
  obtain rfl : C' = D1 := by have := hc'.symm.trans NC.n1.ns; cases this; rfl
  refine wpAny_execs_cons (wpAny_If (isTrue_plain (isi_four (cx := (cx₁.on g').busy e) (s := { s with heap := h', toks := tk }) LK (ok'.busy e) T.fo.on.busy (I'.busy e) (by show cx₁.c.global _ = true; rw [hcx]; exact gI) le' (by decide) hm
    (.own (by show cx₁.c.global _ = true; rw [hcx]; exact g1) NC.e1) (.own (by show cx₁.c.global _ = true; rw [hcx]; exact g2) NC.e2) (.own (by show cx₁.c.global _ = true; rw [hcx]; exact g3) NC.e3) (.own (by show cx₁.c.global _ = true; rw [hcx]; exact g4) NC.e4) NC.z hob NC.no fun h₂ tk₂ hk₂ => wpAny_pure ?_) rfl))
  refine wpAny_execs_nil ?_
  have I₂ := I'.keeps hk₂
  have hob₂ : IsOf e C' h₂ := by
    obtain ⟨ob, o1, o2⟩ := hob
    exact ⟨ob, hk₂ _ _ o1, o2⟩
  refine wpAny_execs_cons (wpAny_Return_some (isi_raw (cx := (cx₁.on g').busy e) (s := { s with heap := h₂, toks := tk₂ }) LK (ok'.busy e) T.fo.on.busy (I₂.busy e) (by show cx₁.c.global _ = true; rw [hcx]; exact gI) le' (by decide) hm (.boot (by show cx₁.c.global _ = true; rw [hcx]; exact gV) NC.nv Boot.«ValueError» (by decide)) NC.z hob₂ NC.v fun tk₃ => ?_))
  refine unbind_sound (cx := cx₁.on g') (s := { s with heap := h₂, toks := tk₃ }) le' se' no1 ok' T.fo.on V' I₂ fun h₄ tk₄ m₄ I₄ V₄ => ?_
  exact ⟨.bool true, g', h₄, tk₄, μ', m₄, cv', rfl, rfl, T', hp', I₄, .bool _⟩
end
end Mine

/-! ## part C51 -/
namespace Mine
open PySem PySem.W PyProof.Rows

section
variable {W : Wd} {P : Pg} {Φ : Calls} {C : Addr} {d : Nat} {cx : Fx} {st : List (Addr × Obj)} {Q : Flow → Shared → Prop} {E : Value → Shared → Prop}
/-- x = True -/
theorem suite_bool {m : Str → Option Value} {cv : List (Addr × Obj)} {μ : List Addr} {ρ : Rho} {H : AH} {s : Shared} {x : Str} {b : Bool} {i : Nat} {px kp pos : Pos} {kk : Nat} (ok : FxOk W d cx st) (fo : FrOk cx) (V : VarsOK cx m cv μ ρ) (Ci : CellsIn cx cv) (I : Inv cx m cv st μ H s.heap) (hx : slotOf cx.c x = some i)
    (hQ : ∀ h' tk m' cv', Inv cx m' cv' st μ H h' → VarsOK cx m' cv' μ (ρ.set i (some (.bool b))) → CellsIn cx cv' → Q .next { s with heap := h', toks := tk }) :
    wpAny W.M cx.A (exec (.Assign [.Name x px] (.Constant (.bool b) kk kp) pos) cx.env) Q E s := by
  refine wpAny_Assign_Name (PyProof.Rows.Constant_bool ?_) rfl
  exact store_sound hx ok fo V Ci I (.bool b) fun h' tk m' cv' I' V' C' => hQ h' tk m' cv' I' V' C'
/-- some statements, then the rest -/
theorem pre_run (ha : ∀ e, S3 W P Φ C d e) (hc : cx.C = C) (ok : FxOk W d cx st) (fo : FrOk cx) (hh : cx.A.handled = none) {rest : List Stmt} : ∀ (pre : List Stmt) {m : Str → Option Value} {cv : List (Addr × Obj)} {μ : List Addr} {ρ ρ₁ : Rho} {H H₁ : AH} {s : Shared},
    exs P Φ (cSs pre cx.c) ρ H = .ok (.next ρ₁) H₁ → VarsOK cx m cv μ ρ → CellsIn cx cv → Inv cx m cv st μ H s.heap →
    (∀ h' tk μ' m' cv', μ <+: μ' → Inv cx m' cv' st μ' H₁ h' → VarsOK cx m' cv' μ' ρ₁ → CellsIn cx cv' → wpAny W.M cx.A (execs rest cx.env) Q E { s with heap := h', toks := tk }) → wpAny W.M cx.A (execs (pre ++ rest) cx.env) Q E s
  | [], m, cv, μ, ρ, ρ₁, H, H₁, s, h, V, Ci, I, k => by
    cases h
    exact k s.heap s.toks μ m cv (pfx _) I V Ci
  | t :: r, m, cv, μ, ρ, ρ₁, H, H₁, s, h, V, Ci, I, k => by
    refine wpAny_execs_cons (all5 ha t cx m cv st ρ μ H s _ E ⟨⟨hc, ok, V, hh⟩, fo, Ci⟩ I ?_)
    have h : ((ex P Φ (cS t cx.c) ρ H).bind fun fl H₂ => match fl with
      | .next ρ' => exs P Φ (cSs r cx.c) ρ' H₂
      | .ret v => .ok (.ret v) H₂) = .ok (.next ρ₁) H₁ := h
    cases q : ex P Φ (cS t cx.c) ρ H with
    | stuck => rw [q] at h; cases h
    | ok fl H₂ =>
      rw [q] at h
      cases fl with
      | ret v => cases h
      | next ρ' => exact fun h' tk μ' m' cv' hp I' V' C' => pre_run ha hc ok fo hh r (s := { s with heap := h', toks := tk }) h V' C' I' fun h₂ tk₂ μ₂ m₂ cv₂ hp₂ I₂ V₂ C₂ => k h₂ tk₂ μ₂ m₂ cv₂ (hp.trans hp₂) I₂ V₂ C₂
end

/-- a law with a try of its own -/
inductive LwF (body : List Stmt) (c : Cx) (PRE POST : List MS) (e : ME) (i j : Nat) : Prop
  | mk {pre post : List Stmt} {v : Expr} {q1 q2 n1 a1 a2 a3 a4 a5 : Pos} {k1 : Nat}
    (hb : body = pre ++ (.Try [.Assign [.Name "_law_found" q1] v q2] [.ExceptHandler (some (.Name "NoDeed" n1)) none [.Assign [.Name "_law_refused" a1] (.Constant (.bool true) k1 a2) a3] a4] [] [] a5 :: post))
    (h1 : cSs pre c = PRE) (h2 : cE v c = e) (h3 : cSs post c = POST) (si : slotOf c "_law_found" = some i) (sj : slotOf c "_law_refused" = some j) (gN : c.global "NoDeed" = true) : LwF body c PRE POST e i j
inductive LwR (P : Pg) (Φ : Calls) (F : Str → List AV → AH → Str → AH → Prop) (PRE POST : List MS) (e : ME) (i j : Nat) (ρ : Rho) (H : AH) : Prop
  | calm {ρ₁ : Rho} {H₁ H₂ H' : AH} {v : AV} (h1 : exs P Φ PRE ρ H = .ok (.next ρ₁) H₁) (h2 : ev P Φ e ρ₁ H₁ = .ok v H₂) (h3 : exs P Φ POST (ρ₁.set i (some v)) H₂ = .ok (.ret (.bool true)) H') : LwR P Φ F PRE POST e i j ρ H
  | raised {ρ₁ : Rho} {H₁ H₂ H' : AH} (h1 : exs P Φ PRE ρ H = .ok (.next ρ₁) H₁) (h2 : RxE P Φ F e ρ₁ H₁ "NoDeed" H₂) (h3 : exs P Φ POST (ρ₁.set j (some (.bool true))) H₂ = .ok (.ret (.bool true)) H') : LwR P Φ F PRE POST e i j ρ H

theorem law_readK {prog : Program} {w : World} {K : Frag} {p : Program} {loose : List Str} {mean : ExcName → Option Value} {mg mb : Str → Option Value} {P : Pg} {C : Addr} {s₁ : Shared} {h₁ : Heap} {tk : Nat} {qual : Str} {scope : Scope} {fa a : Addr} {cd : Value} {body : List Stmt} {x : Str} {ns : List Int} {Q : Flow → Shared → Prop} {E : Value → Shared → Prop} {D1 D2 a1 a2 a3 a4 : Addr} {PRE POST : List MS} {e : ME} {i j : Nat}
    (X : K.In s₁.heap) (LK : LkK prog w K P C) (NC : RaC K D1 D2 a1 a2 a3 a4) (NF : RaF K) (hl : (P.fns.lookup ("read" : Str)).isSome = true) (LF : LwF body (cxOf scope) PRE POST e i j) (T : Top p loose mean mg mb s₁.heap) (wl : Well w.params s₁.heap (.ref a) (ofPy (.list (ns.map .int)))) (K0 : Below callerA s₁.heap [] s₁.heap)
    (F : Fr s₁.heap s₁.heap.objs.size h₁ (fun y => [(x, Value.ref a)].reverse.lookup y))
    (hk : scope.kind = .function) (hx : (slotsFrom scope.names 0).head? = some (x, 0)) (hcell : (scope.names.all fun p => !(p.2 == .cell)) = true)
    (hrun : LwR P (spC P "_law_refused_by_any" (RaSp P)) (RxF P 21) PRE POST e i j (some (.ref 0) :: List.replicate ((cxOf scope).n - 1) none) [.list false (ns.map .int)])
    (hQ : ∀ h' tk' m', Fr s₁.heap s₁.heap.objs.size h' m' → Q (.ret (.bool true)) { s₁ with heap := h', toks := tk' }) :
    wpAny (model prog w) (callerA.deeper (envOf qual scope s₁.heap.objs.size fa cd)) (execs body (envOf qual scope s₁.heap.objs.size fa cd)) Q E { s₁ with heap := h₁, toks := tk } := by
  let W : Wd := ⟨prog, w, K, p, loose, mean, mg, mb⟩
  have LK : Lk W P C := LK
  have hB : ∀ d, BookOk W C d := fun _ => trivial
  have NC : RaC W.K D1 D2 a1 a2 a3 a4 := NC
  have hΦ : CallsOk W P C 21 (spC P "_law_refused_by_any" (RaSp P)) := spC_ok LK trivial (raSp_ok LK NC NF hl)
  have S := all_S3 LK hΦ (hB 21)
  have hcs := ra_cls NC
  have hF := rxF_ok LK hB hcs 21 (Nat.le_refl _)
  refine law_frame (W := W) (C := C) (d := 21) (Nat.le_refl _) X (topRead_of T) wl K0 F hk hx hcell fun cx m μ hc ok fo hh hA hE hen hfe ho XB TB hcx h0 hL V Ci I => ?_
  have wt : Waits cx := fun b hb => by rw [ho] at hb; cases hb
  cases LF with
  | @mk pre post v q1 q2 n1 b1 b2 b3 b4 b5 k1 hb e1 e2 e3 si sj gN =>
  rw [hb]
  have fin : ∀ {g : Heap} {ρ₂ : Rho} {H₂ H' : AH} {m₂ : Str → Option Value} {cv₂ : List (Addr × Obj)} {μ₂ : List Addr} {h₂ : Heap} {tk₂ : Nat}, (∀ b o, cx.h₀.get? b = some o → g.get? b = some o) → FxOk W 21 (cx.on g) [] → exs P (spC P "_law_refused_by_any" (RaSp P)) POST ρ₂ H₂ = .ok (.ret (.bool true)) H' → VarsOK (cx.on g) m₂ cv₂ μ₂ ρ₂ → CellsIn (cx.on g) cv₂ → Inv (cx.on g) m₂ cv₂ [] μ₂ H₂ h₂ → wpAny W.M cx.A (execs post cx.env) Q E { s₁ with heap := h₂, toks := tk₂ } := by
    intro g ρ₂ H₂ H' m₂ cv₂ μ₂ h₂ tk₂ hg ok₂ hr V₂ C₂ I₂
    refine all5s S post (cx.on g) m₂ cv₂ [] ρ₂ μ₂ H₂ { s₁ with heap := h₂, toks := tk₂ } Q E ⟨⟨hc, ok₂, V₂, hh⟩, fo.on, C₂⟩ I₂ ?_
    show SPost _ _ _ _ _ _ (exs P _ (cSs post cx.c) ρ₂ H₂)
    rw [hcx, e3, hr]
    intro b h' tk' μ' m' cv' hp I' _ r
    cases r
    refine hQ h' tk' m' ?_
    have F' := I'.fr
    have F' : Fr g cx.L h' m' := F'
    rw [hL] at F'
    exact ⟨F'.ns, fun b o q => F'.keep b o (hg b o (by rw [h0]; exact q)), Nat.le_refl _⟩
  cases hrun with
  | @calm ρ₁ H₁ H₂ H' vv r1 r2 r3 =>
    refine pre_run S hc ok fo hh pre (s := { s₁ with heap := h₁, toks := tk }) (by rw [hcx, e1]; exact r1) V Ci I fun h' tk' μ' m' cv' hp I' V' C' => ?_
    refine wpAny_execs_cons (wpAny_Try_except (all5s S [.Assign [.Name "_law_found" q1] v q2] cx m' cv' [] ρ₁ μ' H₁ _ _ _ ⟨⟨hc, ok, V', hh⟩, fo, C'⟩ I' ?_))
    have er : exs P (spC P "_law_refused_by_any" (RaSp P)) (cSs [.Assign [.Name "_law_found" q1] v q2] cx.c) ρ₁ H₁ = .ok (.next (ρ₁.set i (some vv))) H₂ := by
      show ((ex P _ (orBadS (slotOf cx.c "_law_found") fun i => .assign i (cE v cx.c)) ρ₁ H₁).bind _) = _
      rw [hcx, si, e2]
      show (((ev P (spC P "_law_refused_by_any" (RaSp P)) e ρ₁ H₁).bind fun v H₁ => .ok (Fl.next (ρ₁.set i (some v))) H₁).bind fun fl H₁ => match fl with
        | Fl.next ρ' => exs P (spC P "_law_refused_by_any" (RaSp P)) [] ρ' H₁
        | Fl.ret v => Res.ok (Fl.ret v) H₁) = _
      rw [r2]; rfl
    rw [er]
    intro h₂ tk₂ μ₂ m₂ cv₂ hp₂ I₂ V₂ C₂
    exact wpAny_execs_nil (fin (g := cx.h₀) (fun b o q => q) ok r3 V₂ C₂ I₂)
  | @raised ρ₁ H₁ H₂ H' r1 r2 r3 =>
    refine pre_run S hc ok fo hh pre (s := { s₁ with heap := h₁, toks := tk }) (by rw [hcx, e1]; exact r1) V Ci I fun h' tk' μ' m' cv' hp I' V' C' => ?_
    refine wpAny_execs_cons (try_one LK S hF hcs (.head _) (H' := H₂) (ρo := ρ₁) ?_ ⟨⟨hc, ok, V', hh⟩, fo, C'⟩ wt I' hfe hen XB TB (hcx ▸ gN) NC.n1 (ra_own NC NC.i1) fun g' ex h₂ tk₂ μ₂ m₂ cv₂ hp₂ T₂ I₂ ok₂ V₂ C₂ => ?_)
    · show RxL P _ _ [orBadS (slotOf cx.c "_law_found") fun i => .assign i (cE v cx.c)] ρ₁ H₁ "NoDeed" H₂ ρ₁ true
      rw [hcx, si, e2]
      exact .assign r2
    · refine wpAny_execs_cons (suite_bool (cx := (cx.on g').busy ex) (s := { s₁ with heap := h₂, toks := tk₂ }) (ok₂.busy ex) fo.on.busy ⟨V₂.len, V₂.loc, V₂.cel⟩ C₂ (I₂.busy ex) (by show slotOf cx.c _ = _; rw [hcx]; exact sj) fun h₃ tk₃ m₃ cv₃ I₃ V₃ C₃ => ?_)
      refine wpAny_execs_nil ?_
      refine fin (g := g') (fun b o q => T₂.other b o q (by rw [ho]; exact List.not_mem_nil)) ok₂ r3 ⟨V₃.len, V₃.loc, V₃.cel⟩ C₃ I₃.calm
end Mine

/-! ## part C52 -/
namespace Mine
open PySem PySem.W PyProof.Rows

/-! a dict of the text's own, as it lies -/
noncomputable def dEnt (w : World) (q : Str × Tok × Int × Tok) : DictEntry := ⟨PyData.keyHash w.params q.1, .str q.1 q.2.1, .int q.2.2.1 q.2.2.2⟩
theorem tab_mk {prog : Program} {w : World} {h : Heap} {d : Addr} (l : List (Str × Tok × Int × Tok)) {ep : Nat} (lo : (d == sysModules) = false) (ho : h.get? d = some ⟨.type "dict", none, .dict (l.map (dEnt w)).toArray ep, #[]⟩) (hn : (l.map (·.1)).Nodup) : StrTab prog w h d (l.map fun q => (PyData.str q.1, PyData.int q.2.2.1)) := by
  refine TabAt.ofObj (kvs := l.map fun q => (q.1, Value.int q.2.2.1 q.2.2.2)) lo ho ⟨_, _, ⟨rfl, rfl, rfl⟩, rfl, fun e he => ?_, ?_, ?_⟩ ?_
  · obtain ⟨q, _, rfl⟩ := List.mem_map.mp (show e ∈ l.map (dEnt w) by simpa using he)
    exact ⟨q.1, strKind_is prog w q.1 q.2.1, rfl⟩
  · show Pairs (PySem.strKind prog w) (l.map (dEnt w)) _
    clear ho hn
    induction l with
    | nil => exact .nil
    | cons q r ih => exact .cons (strKind_is prog w q.1 q.2.1) rfl ih
  · rw [List.map_map]; exact hn
  · clear ho hn
    induction l with
    | nil => exact .nil
    | cons q r ih => exact .cons (fun h => .int _ _) ih
theorem Lk.dct_of {prog : Program} {w : World} {K : Frag} {l : List (Str × List (Str × Int))} (h : ∀ p ∈ l, ∃ d, nsIn K mainGlobals p.1 = some (some (.ref d)) ∧ ∀ g : Heap, K.In g → StrTab prog w g d (p.2.map fun q => (PyData.str q.1, PyData.int q.2))) :
    ∀ x D, l.lookup x = some D → ∃ d, nsIn K mainGlobals x = some (some (.ref d)) ∧ ∀ g : Heap, K.In g → StrTab prog w g d (D.map fun q => (PyData.str q.1, PyData.int q.2)) := fun x D e => h (x, D) (lookup_mem' e)
end Mine

/-! ## part S1 -/
namespace Mine
open PySem
/- shown(deed)  0:deed 1:parts 2:number -/
noncomputable def f_shown : AFun := ⟨1, 3, [
  .assign 1 (.lst [(.idx (.var 0) (.cI 0))]),
  .for_ 2 (.seq (.slF (.var 0) (.cI 1))) [
    .expr (.meth .append (.var 1) (.str_ (.var 2)))],
  .ret (.smeth .join (.cS " ") (.var 1))]⟩
/- number_of(part)  0:part 1:figures 2:sign -/
noncomputable def f_number_of : AFun := ⟨1, 3, [
  .assign 1 (.var 0),
  .ite (.smeth .startswith (.var 0) (.cS "-")) [
    .assign 1 (.slF (.var 0) (.cI 1))] [],
  .ite (.cmp .eq (.var 1) (.cS "")) [
    .raise "NoDeed"] [],
  .for_ 2 (.seq (.var 1)) [
    .ite (.cin true (.var 2) (.glob "FIGURES")) [
      .raise "NoDeed"] []],
  .ite (.and_ (.cmp .eq (.idx (.var 1) (.cI 0)) (.cS "0")) (.cmp .ne (.var 0) (.cS "0"))) [
    .raise "NoDeed"] [],
  .ret (.toInt (.var 0))]⟩
/- read(line)  0:line 1:parts 2:word 3:deed 4:part -/
noncomputable def f_read : AFun := ⟨1, 5, [
  .assign 1 (.smeth .split (.var 0) (.cS " ")),
  .assign 2 (.idx (.var 1) (.cI 0)),
  .ite (.cin true (.var 2) (.glob "COUNTS")) [
    .raise "NoDeed"] [],
  .ite (.cmp .ne (.bin .sub (.bi .len [(.var 1)]) (.cI 1)) (.idx (.glob "COUNTS") (.var 2))) [
    .raise "NoDeed"] [],
  .assign 3 (.lst [(.var 2)]),
  .for_ 4 (.seq (.slF (.var 1) (.cI 1))) [
    .expr (.meth .append (.var 3) (.call "number_of" [(.var 4)]))],
  .ret (.tupOf (.var 3))]⟩
/- _law_whole(_law_found)  0:_law_found -/
noncomputable def f_law_whole : AFun := ⟨1, 1, [
  .ret (.and_ (.isi (.var 0) .int_) (.not_ (.isi (.var 0) .bool_)))]⟩
/- _law_cell_at(_law_script, _law_k)  0:_law_script 1:_law_k -/
noncomputable def f_law_cell_at : AFun := ⟨2, 2, [
  .ite (.cmp .lt (.var 1) (.bi .len [(.var 0)])) [
    .ret (.idx (.var 0) (.var 1))] [],
  .ret (.cI 0)]⟩
/- _law_word_by(_law_cell)  0:_law_cell 1:_law_words 2:_law_some 3:_law_k -/
noncomputable def f_law_word_by : AFun := ⟨1, 4, [
  .assign 1 (.lst [(.cS "add"), (.cS "fill"), (.cS "total"), (.cS "least"), (.cS "place"), (.cS "first"), (.cS "list"), (.cS "back")]),
  .assign 1 (.bin .add (.var 1) (.lst [(.cS ""), (.cS "Add"), (.cS "adds"), (.cS "ADD"), (.cS "sum"), (.cS "min"), (.cS "undo"), (.cS "length"), (.cS "max"), (.cS "mean"), (.cS "sub"), (.cS "set"), (.cS "put")])),
  .assign 1 (.bin .add (.var 1) (.lst [(.cS "count"), (.cS "made"), (.cS "even"), (.cS "added"), (.cS "filled"), (.cS "listed"), (.cS "clear"), (.cS "average"), (.cS "reverse"), (.cS "replace")])),
  .ite (.cmp .gt (.bin .mod (.var 0) (.cI 4)) (.cI 0)) [
    .ret (.idx (.var 1) (.bin .mod (.bin .fdiv (.var 0) (.cI 4)) (.cI 8)))] [],
  .ite (.cmp .eq (.bin .mod (.var 0) (.cI 8)) (.cI 0)) [
    .ret (.idx (.var 1) (.bin .add (.cI 8) (.bin .mod (.bin .fdiv (.var 0) (.cI 8)) (.cI 23))))] [],
  .assign 2 (.cS ""),
  .for_ 3 (.rng [(.bin .add (.cI 1) (.bin .mod (.bin .fdiv (.var 0) (.cI 8)) (.cI 10)))]) [
    .assign 2 (.bin .add (.var 2) (.idx (.cS "abcdefghijklmnopqrstuvwxyz") (.bin .mod (.bin .add (.bin .fdiv (.var 0) (.cI 48)) (.bin .mul (.var 3) (.bin .fdiv (.var 0) (.cI 7)))) (.cI 26))))],
  .ret (.var 2)]⟩
/- _law_count(_law_word)  0:_law_word -/
noncomputable def f_law_count : AFun := ⟨1, 1, [
  .ite (.or_ (.cmp .eq (.var 0) (.cS "add")) (.cmp .eq (.var 0) (.cS "fill"))) [
    .ret (.cI 3)] [],
  .ite (.cin false (.var 0) (.lst [(.cS "total"), (.cS "least"), (.cS "place"), (.cS "first"), (.cS "list")])) [
    .ret (.cI 2)] [],
  .ite (.cmp .eq (.var 0) (.cS "back")) [
    .ret (.cI 0)] [],
  .ret (.neg (.cI 1))]⟩
/- _law_figures_by(_law_cell, _law_most)  0:_law_cell 1:_law_most 2:_law_tail 3:_law_odd -/
noncomputable def f_law_figures_by : AFun := ⟨2, 4, [
  .ite (.cmp .eq (.bin .mod (.var 0) (.cI 8)) (.cI 1)) [
    .ret (.str_ (.bin .mod (.bin .fdiv (.var 0) (.cI 8)) (.var 1)))] [],
  .ite (.cmp .eq (.bin .mod (.var 0) (.cI 8)) (.cI 2)) [
    .ret (.bin .add (.cS "-") (.str_ (.bin .mod (.bin .fdiv (.var 0) (.cI 8)) (.var 1))))] [],
  .ite (.cmp .eq (.bin .mod (.var 0) (.cI 8)) (.cI 4)) [
    .assign 2 (.idx (.lst [(.cS ""), (.cS ""), (.cS "7"), (.str_ (.bin .mod (.bin .fdiv (.var 0) (.cI 48)) (.bin .fdiv (.var 1) (.cI 1000))))]) (.bin .mod (.bin .fdiv (.var 0) (.cI 8)) (.cI 4))),
    .ret (.bin .add (.idx (.lst [(.cS "-0"), (.cS "0"), (.cS "00"), (.cS "-00"), (.cS "0"), (.cS "-0")]) (.bin .mod (.bin .fdiv (.var 0) (.cI 8)) (.cI 6))) (.var 2))] [],
  .ite (.cmp .eq (.bin .mod (.var 0) (.cI 8)) (.cI 3)) [
    .assign 3 (.lst [(.cS ""), (.cS "-"), (.cS "-0"), (.cS "+1"), (.cS "01"), (.cS "-01"), (.cS "00"), (.cS "1.5"), (.cS "--1"), (.cS "1-")]),
    .assign 3 (.bin .add (.var 3) (.lst [(.cS "a"), (.cS "1a"), (.cS "1e3"), (.cS "0x1"), (.cS "1_0"), (.cS "None"), (.cS "-+2"), (.cS "1,0")])),
    .ret (.idx (.var 3) (.bin .mod (.bin .fdiv (.var 0) (.cI 8)) (.cI 18)))] [],
  .ret (.str_ (.bin .sub (.bin .mod (.bin .fdiv (.var 0) (.cI 8)) (.cI 41)) (.cI 20)))]⟩
/- _law_signs()  0:_law_some -/
noncomputable def f_law_signs : AFun := ⟨0, 1, [
  .assign 0 (.cS " !\"#$&'()*+,-./0123456789:;<=>?@ABCDEFGHIJKLMNOPQRSTUVWXYZ[\\]^_`"),
  .ret (.bin .add (.var 0) (.cS "abcdefghijklmnopqrstuvwxyz{|}~\n\t"))]⟩
/- _law_number_of(_law_word)  0:_law_word 1:_law_figures 2:_law_sign -/
noncomputable def f_law_number_of : AFun := ⟨1, 3, [
  .assign 1 (.var 0),
  .ite (.cmp .eq (.slU (.var 0) (.cI 1)) (.cS "-")) [
    .assign 1 (.slF (.var 0) (.cI 1))] [],
  .ite (.or_ (.cmp .eq (.var 1) (.cS "")) (.or_ (.cmp .eq (.var 0) (.cS "-0")) (.and_ (.cmp .gt (.bi .len [(.var 1)]) (.cI 1)) (.cmp .eq (.idx (.var 1) (.cI 0)) (.cS "0"))))) [
    .ret .cN] [],
  .for_ 2 (.seq (.var 1)) [
    .ite (.cin true (.var 2) (.cS "0123456789")) [
      .ret .cN] []],
  .ret (.toInt (.var 0))]⟩
/- _law_deed_of(_law_line)  0:_law_line 1:_law_parts 2:_law_part 3:_law_sign 4:_law_deed 5:_law_word -/
noncomputable def f_law_deed_of : AFun := ⟨1, 6, [
  .assign 1 (.lst []),
  .assign 2 (.cS ""),
  .for_ 3 (.seq (.bin .add (.var 0) (.cS " "))) [
    .ite (.cmp .eq (.var 3) (.cS " ")) [
      .expr (.meth .append (.var 1) (.var 2)),
      .assign 2 (.cS "")] [
      .assign 2 (.bin .add (.var 2) (.var 3))]],
  .ite (.cmp .ne (.call "_law_count" [(.idx (.var 1) (.cI 0))]) (.bin .sub (.bi .len [(.var 1)]) (.cI 1))) [
    .ret .cN] [],
  .assign 4 (.lst [(.idx (.var 1) (.cI 0))]),
  .for_ 5 (.seq (.slF (.var 1) (.cI 1))) [
    .ite (.cmp .is_ (.call "_law_number_of" [(.var 5)]) .cN) [
      .ret .cN] [],
    .expr (.meth .append (.var 4) (.call "_law_number_of" [(.var 5)]))],
  .ret (.tupOf (.var 4))]⟩
/- _law_refused_by_any(_law_line)  0:_law_line 1:e -/
noncomputable def f_law_refused_by_any : AFun := ⟨1, 2, [
  .bad,
  .ret (.cB false)]⟩
/- law(_law_script)  0:_law_script 1:_law_word 2:_law_many 3:_law_most 4:_law_line 5:_law_k 6:_law_at 7:_law_due 8:_law_found 9:_law_refused 10:_law_number 11:_law_written -/
noncomputable def lawPre : List MS := [
  .assign 1 (.call "_law_word_by" [(.call "_law_cell_at" [(.var 0), (.cI 0)])]),
  .assign 2 (.bi .max [(.call "_law_count" [(.var 1)]), (.cI 0)]),
  .ite (.cmp .eq (.bin .mod (.call "_law_cell_at" [(.var 0), (.cI 1)]) (.cI 2)) (.cI 1)) [
    .assign 2 (.bin .mod (.bin .fdiv (.call "_law_cell_at" [(.var 0), (.cI 1)]) (.cI 2)) (.cI 5))] [],
  .assign 3 (.bin .pow (.cI 10) (.cI 59)),
  .ite (.cmp .gt (.bin .mod (.call "_law_cell_at" [(.var 0), (.cI 6)]) (.cI 7)) (.cI 2)) [
    .assign 3 (.bin .pow (.cI 10) (.cI 29))] [],
  .assign 4 (.var 1),
  .for_ 5 (.rng [(.var 2)]) [
    .assign 4 (.bin .add (.bin .add (.var 4) (.cS " ")) (.call "_law_figures_by" [(.call "_law_cell_at" [(.var 0), (.bin .add (.cI 2) (.var 5))]), (.var 3)]))],
  .assign 6 (.bin .mod (.call "_law_cell_at" [(.var 0), (.cI 7)]) (.bin .add (.bi .len [(.var 4)]) (.cI 1))),
  .ite (.cmp .eq (.bin .mod (.call "_law_cell_at" [(.var 0), (.cI 6)]) (.cI 7)) (.cI 1)) [
    .assign 4 (.bin .add (.bin .add (.slU (.var 4) (.var 6)) (.cS " ")) (.slF (.var 4) (.var 6)))] [],
  .ite (.cmp .eq (.bin .mod (.call "_law_cell_at" [(.var 0), (.cI 6)]) (.cI 7)) (.cI 2)) [
    .assign 4 (.bin .add (.bin .add (.slU (.var 4) (.var 6)) (.idx (.call "_law_signs" []) (.bin .mod (.call "_law_cell_at" [(.var 0), (.cI 8)]) (.cI 96)))) (.slF (.var 4) (.var 6)))] [],
  .ite (.cmp .eq (.bin .mod (.call "_law_cell_at" [(.var 0), (.cI 6)]) (.cI 7)) (.cI 3)) [
    .assign 4 (.bin .add (.bin .add (.slU (.var 4) (.var 6)) (.idx (.call "_law_signs" []) (.bin .mod (.call "_law_cell_at" [(.var 0), (.cI 8)]) (.cI 96)))) (.slF (.var 4) (.bin .add (.var 6) (.cI 1))))] [],
  .ite (.cmp .eq (.bin .mod (.call "_law_cell_at" [(.var 0), (.cI 6)]) (.cI 7)) (.cI 4)) [
    .assign 4 (.bin .add (.slU (.var 4) (.var 6)) (.slF (.var 4) (.bin .add (.var 6) (.cI 1))))] [],
  .assign 7 (.call "_law_deed_of" [(.var 4)]),
  .assign 8 .cN,
  .assign 9 (.cB false)]
noncomputable def lawPost : List MS := [
  .ite (.cmp .is_ (.var 7) .cN) [
    .ret (.and_ (.var 9) (.call "_law_refused_by_any" [(.var 4)]))] [],
  .ite (.or_ (.var 9) (.or_ (.not_ (.isi (.var 8) .tup_)) (.or_ (.cmp .ne (.bi .len [(.var 8)]) (.bi .len [(.var 7)])) (.not_ (.isi (.idx (.var 8) (.cI 0)) .str_))))) [
    .ret (.cB false)] [],
  .for_ 10 (.seq (.slF (.var 8) (.cI 1))) [
    .ite (.not_ (.call "_law_whole" [(.var 10)])) [
      .ret (.cB false)] []],
  .assign 11 (.call "shown" [(.var 7)]),
  .ret (.and_ (.cmp .eq (.var 8) (.var 7)) (.and_ (.isi (.var 11) .str_) (.cmp .eq (.var 11) (.var 4))))]
noncomputable def PP : Pg := ⟨[("shown", f_shown), ("number_of", f_number_of), ("read", f_read), ("_law_whole", f_law_whole), ("_law_cell_at", f_law_cell_at), ("_law_word_by", f_law_word_by), ("_law_count", f_law_count), ("_law_figures_by", f_law_figures_by), ("_law_signs", f_law_signs), ("_law_number_of", f_law_number_of), ("_law_deed_of", f_law_deed_of), ("_law_refused_by_any", f_law_refused_by_any)], [("FIGURES", .str "0123456789")], [("COUNTS", [("add", 3), ("fill", 3), ("total", 2), ("least", 2), ("place", 2), ("first", 2), ("list", 2), ("back", 0)])]⟩
end Mine

/-! ## part S3 -/
namespace Mine
open PySem PySem.NumText

/-! texts as lists of signs -/
noncomputable def tx (l : List Nat) : Str := ⟨l.toArray⟩
theorem tx_list (x : Str) : tx x.cps.toList = x := by cases x; rfl
theorem tx_cps {l : List Nat} : (tx l).cps.toList = l := rfl
theorem tx_app {a b : List Nat} : tx a ++ tx b = tx (a ++ b) := by
  apply Str.ext'
  apply Array.toList_inj.mp
  rw [Str.cps_append, Array.toList_append]; rfl
theorem tx_length {l : List Nat} : (tx l).length = l.length := by show l.toArray.size = _; exact List.size_toArray ..
theorem app_tx (x : Str) (c : Nat) : x ++ ⟨#[c]⟩ = tx (x.cps.toList ++ [c]) := by
  conv => lhs; rw [← tx_list x]
  exact tx_app
theorem str_len {x y : Str} : (x ++ y).length = x.length + y.length := by simp [Str.length, Str.cps_append]
theorem list_len {x : Str} : x.cps.toList.length = x.length := Array.length_toList
noncomputable abbrev SP : Str := ⟨#[32]⟩
theorem SP_eq : (Str.ofString " ") = SP := by decide +kernel

/-! the law's own cutting -/
noncomputable def cutS (st : List Str × Str) (c : Nat) : List Str × Str := if c = 32 then (st.1 ++ [st.2], ⟨#[]⟩) else (st.1, st.2 ++ ⟨#[c]⟩)
theorem cut_free : ∀ (l : List Nat) (acc : List Str) (cur : Str), 32 ∉ l → l.foldl cutS (acc, cur) = (acc, cur ++ tx l)
  | [], acc, cur, _ => by
    show (acc, cur) = (acc, cur ++ tx [])
    have : cur ++ tx [] = cur := by
      conv => lhs; rw [← tx_list cur]
      rw [tx_app, List.append_nil, tx_list]
    rw [this]
  | c :: r, acc, cur, h => by
    rw [List.foldl_cons]
    have hc : c ≠ 32 := fun e => h (e ▸ .head _)
    have e : cutS (acc, cur) c = (acc, cur ++ ⟨#[c]⟩) := if_neg hc
    rw [e, cut_free r acc _ fun m => h (.tail _ m)]
    have : cur ++ (⟨#[c]⟩ : Str) ++ tx r = cur ++ tx (c :: r) := by
      rw [← tx_list cur]
      show tx _ ++ tx [c] ++ tx r = _
      rw [tx_app, tx_app, tx_app, List.append_assoc]; rfl
    rw [this]
theorem cut_join : ∀ (ps : List Str) (p : Str) (acc : List Str) (cur : Str), (∀ q ∈ p :: ps, 32 ∉ q.cps.toList) → ((Str.join SP (p :: ps)).cps.toList ++ [32]).foldl cutS (acc, cur) = (acc ++ ((cur ++ p) :: ps), ⟨#[]⟩)
  | [], p, acc, cur, h => by
    rw [List.foldl_append]
    show [32].foldl cutS (p.cps.toList.foldl cutS (acc, cur)) = _
    rw [cut_free _ _ _ (h p (.head _)), tx_list]
    rfl
  | q :: r, p, acc, cur, h => by
    have e : (Str.join SP (p :: q :: r)).cps.toList = p.cps.toList ++ (32 :: (Str.join SP (q :: r)).cps.toList) := by
      show (p ++ SP ++ Str.join SP (q :: r)).cps.toList = _
      rw [Str.cps_append, Str.cps_append, Array.toList_append, Array.toList_append, List.append_assoc]; rfl
    rw [e, List.append_assoc, List.foldl_append, cut_free _ _ _ (h p (.head _)), tx_list]
    show ((Str.join SP (q :: r)).cps.toList ++ [32]).foldl cutS (cutS (acc, cur ++ p) 32) = _
    have e2 : cutS (acc, cur ++ p) 32 = (acc ++ [cur ++ p], ⟨#[]⟩) := if_pos rfl
    rw [e2, cut_join r q _ _ fun y hy => h y (.tail _ hy)]
    have e3 : (⟨#[]⟩ : Str) ++ q = q := by
      show tx [] ++ q = q
      conv => lhs; rw [← tx_list q]
      rw [tx_app, List.nil_append, tx_list]
    rw [e3, List.append_assoc]; rfl
theorem cut_split (x : Str) : (x.cps.toList ++ [32]).foldl cutS ([], ⟨#[]⟩) = (Txt.split x SP, ⟨#[]⟩) := by
  have hj := StrLaws.join_split x SP
  have hf := StrLaws.split_free x 32
  have hp := PyProof.Rows.split_pos x SP
  cases hs : Txt.split x SP with
  | nil => rw [hs] at hp; exact absurd hp (by decide)
  | cons p r =>
    rw [hs] at hj
    have hf : ∀ q ∈ p :: r, 32 ∉ q.cps.toList := by rw [← hs]; exact hf
    conv => lhs; rw [← hj]
    rw [cut_join r p [] ⟨#[]⟩ hf]
    have e3 : (⟨#[]⟩ : Str) ++ p = p := by
      show tx [] ++ p = p
      conv => lhs; rw [← tx_list p]
      rw [tx_app, List.nil_append, tx_list]
    rw [e3]; rfl

/-! numbers as they are written -/
noncomputable def mns (l : List Nat) : Bool := l.head? == some 45
noncomputable def fig (l : List Nat) : List Nat := if mns l then l.tail else l
noncomputable def isFig (c : Nat) : Bool := decide (48 ≤ c) && decide (c ≤ 57)
noncomputable def numV (l : List Nat) : Option Int := if fig l = [] then none else if !((fig l).all isFig) then none else if (fig l).head? = some 48 ∧ l ≠ [48] then none else intText? (tx l)
theorem allFig {l : List Nat} : l.all isFig = true ↔ AllDigits l := by
  unfold AllDigits isFig
  simp [List.all_eq_true]
theorem ofString_list (s : String) : (Str.ofString s).cps.toList = s.toList.map Char.toNat := PyProof.Rows.signs_ofString s
theorem toNat_ofNat {c : Nat} (h : 48 ≤ c ∧ c ≤ 57) : (Char.ofNat c).toNat = c := by
  obtain ⟨k, rfl⟩ : ∃ k, c = 48 + k := ⟨c - 48, by decreasing_trivial⟩
  have hk : k < 10 := by decreasing_trivial
  have key : ∀ k : Nat, k < 10 → (Char.ofNat (48 + k)).toNat = 48 + k := by decide
  exact key k hk
theorem text_nat {l : List Nat} (h : AllDigits l) (hn : l ≠ []) (hc : l.head? ≠ some 48 ∨ l = [48]) : (Nat.repr (digitsVal l)).toList.map Char.toNat = l := by
  rw [Nat.toList_repr]
  have e : Nat.toDigits 10 (digitsVal l) = l.map Char.ofNat := by
    cases l with
    | nil => exact absurd rfl hn
    | cons c r =>
      refine toDigits_digitsVal r.length (c :: r) rfl h ?_
      rcases hc with hc | hc
      · exact .inr ⟨c, r, rfl, by
          have := h.head
          have : c ≠ 48 := fun q => hc (by rw [q]; rfl)
          decreasing_trivial⟩
      · cases hc; exact .inl rfl
  rw [e, List.map_map]
  refine (List.map_congr_left fun c hc => ?_).trans (List.map_id _)
  exact toNat_ofNat (h c hc)
theorem text_pos {l : List Nat} (h : AllDigits l) (hn : l ≠ []) (hc : l.head? ≠ some 48 ∨ l = [48]) : Str.ofString (toString ((digitsVal l : Nat) : Int)) = tx l := by
  apply Str.ext'
  apply Array.toList_inj.mp
  rw [ofString_list]
  exact text_nat h hn hc
theorem text_neg {l : List Nat} (h : AllDigits l) (hn : l ≠ []) (hc : l.head? ≠ some 48) : Str.ofString (toString (-((digitsVal l : Nat) : Int))) = tx (45 :: l) := by
  have hp : 0 < digitsVal l := by
    cases l with
    | nil => exact absurd rfl hn
    | cons c r =>
      have := h.head
      have : c ≠ 48 := fun q => hc (by rw [q]; rfl)
      exact digitsVal_pos (by decreasing_trivial)
  obtain ⟨m, hm⟩ : ∃ m, digitsVal l = m + 1 := ⟨digitsVal l - 1, by decreasing_trivial⟩
  apply Str.ext'
  apply Array.toList_inj.mp
  rw [ofString_list, hm]
  show ("-" ++ Nat.repr (m + 1)).toList.map Char.toNat = _
  rw [← hm, String.toList_append, List.map_append, text_nat h hn (.inl hc)]; rfl
theorem fold_lt : ∀ (l : List Nat) (a : Nat), AllDigits l → l.foldl (fun acc c => acc * 10 + (c - 48)) a < (a + 1) * 10 ^ l.length
  | [], a, _ => by show a < (a + 1) * 10 ^ 0; rw [Nat.pow_zero, Nat.mul_one]; exact Nat.lt_succ_self _
  | c :: r, a, h => by
    have ih := fold_lt r (a * 10 + (c - 48)) h.tail
    have hc := h.head
    refine Nat.lt_of_lt_of_le ih ?_
    show (a * 10 + (c - 48) + 1) * 10 ^ r.length ≤ (a + 1) * 10 ^ (r.length + 1)
    rw [Nat.pow_succ, Nat.mul_comm (10 ^ r.length) 10, ← Nat.mul_assoc]
    exact Nat.mul_le_mul_right _ (by decreasing_trivial)
theorem digitsVal_lt {l : List Nat} (h : AllDigits l) : digitsVal l < 10 ^ l.length := by
  have := fold_lt l 0 h
  rwa [Nat.zero_add, Nat.one_mul] at this
theorem log_lt {n k : Nat} (h : n < 10 ^ k) (hk : k ≤ 400) : n.log2 < 1920 := by
  by_cases h0 : n = 0
  · subst h0; decide
  · rw [Nat.log2_lt h0]
    refine Nat.lt_of_lt_of_le h (Nat.le_trans (Nat.pow_le_pow_right (by decide) hk) ?_)
    decide +kernel
theorem numV_inv {l : List Nat} {n : Int} (h : numV l = some n) : fig l ≠ [] ∧ AllDigits (fig l) ∧ ((fig l).head? ≠ some 48 ∨ l = [48]) ∧ intText? (tx l) = some n := by
  unfold numV at h
  split at h
  · cases h
  · rename_i h1
    split at h
    · cases h
    · rename_i h2
      split at h
      · cases h
      · rename_i h3
        refine ⟨h1, allFig.mp (by simpa using h2), ?_, h⟩
        by_cases q : (fig l).head? = some 48
        · exact .inr (Classical.byContradiction fun z => h3 ⟨q, z⟩)
        · exact .inl q
theorem mns_cons {l : List Nat} (h : mns l = true) : l = 45 :: fig l := by
  cases l with
  | nil => cases h
  | cons c r =>
    have hc : c = 45 := by
      have : (some c == some 45) = true := h
      simpa using this
    subst hc
    rfl
theorem fig_no {l : List Nat} (h : mns l = false) : fig l = l := by unfold fig; rw [h]; rfl
theorem numV_some {l : List Nat} {n : Int} (h : numV l = some n) (hl : l.length ≤ 400) : Str.ofString (toString n) = tx l ∧ n.natAbs.log2 < 1920 := by
  obtain ⟨h1, h2, h3, h4⟩ := numV_inv h
  cases hm : mns l with
  | true =>
    have e := mns_cons hm
    have hx : (tx l).cps.toList = 45 :: fig l := e
    rw [intText_neg hx h2 h1 (by rw [tx_length]; decreasing_trivial)] at h4
    cases h4
    have hne : l ≠ [48] := fun q => by rw [q] at hm; cases hm
    have h3 : (fig l).head? ≠ some 48 := h3.resolve_right hne
    refine ⟨(text_neg h2 h1 h3).trans (congrArg tx e.symm), ?_⟩
    rw [Int.natAbs_neg, Int.natAbs_natCast]
    refine log_lt (digitsVal_lt h2) ?_
    have := congrArg List.length e
    rw [List.length_cons] at this
    decreasing_trivial
  | false =>
    have e := fig_no hm
    rw [e] at h1 h2 h3
    rw [intText_digits (x := tx l) h2 h1 (by rw [tx_length]; decreasing_trivial)] at h4
    cases h4
    exact ⟨text_pos h2 h1 h3, by rw [Int.natAbs_natCast]; exact log_lt (digitsVal_lt h2) hl⟩
theorem numV_all {l : List Nat} (h1 : fig l ≠ []) (h2 : AllDigits (fig l)) (h3 : ¬ ((fig l).head? = some 48 ∧ l ≠ [48])) (hl : l.length ≤ 400) : ∃ n, numV l = some n ∧ intText? (tx l) = some n := by
  have e0 : numV l = intText? (tx l) := by
    unfold numV
    rw [if_neg h1, if_neg (by rw [allFig.mpr h2]; decide), if_neg h3]
  rw [e0]
  cases hm : mns l with
  | true => exact ⟨_, intText_neg (x := tx l) (mns_cons hm) h2 h1 (by rw [tx_length]; decreasing_trivial), intText_neg (x := tx l) (mns_cons hm) h2 h1 (by rw [tx_length]; decreasing_trivial)⟩
  | false =>
    have e := fig_no hm
    rw [e] at h1 h2
    exact ⟨_, intText_digits (x := tx l) h2 h1 (by rw [tx_length]; decreasing_trivial), intText_digits (x := tx l) h2 h1 (by rw [tx_length]; decreasing_trivial)⟩
/-- the law's own test comes to the same -/
theorem lawTest {l : List Nat} (h2 : AllDigits (fig l)) : (fig l = [] ∨ l = [45, 48] ∨ (1 < (fig l).length ∧ (fig l).head? = some 48)) ↔ (fig l = [] ∨ ((fig l).head? = some 48 ∧ l ≠ [48])) := by
  constructor
  · rintro (h | h | ⟨h, h'⟩)
    · exact .inl h
    · subst h; exact .inr ⟨rfl, by decide⟩
    · refine .inr ⟨h', fun q => ?_⟩
      subst q
      exact absurd h (by decide)
  · rintro (h | ⟨h, h'⟩)
    · exact .inl h
    · by_cases q : 1 < (fig l).length
      · exact .inr (.inr ⟨q, h⟩)
      · have e : fig l = [48] := by
          cases hf : fig l with
          | nil => rw [hf] at h; cases h
          | cons c r =>
            rw [hf] at h q
            cases r with
            | nil => cases h; rfl
            | cons _ _ => exact absurd (show 1 < _ from Nat.succ_lt_succ (Nat.succ_pos _)) q
        cases hm : mns l with
        | true => exact .inr (.inl ((mns_cons hm).trans (by rw [e])))
        | false => exact absurd ((fig_no hm).symm.trans e) h'
end Mine

/-! ## part S2 -/
namespace Mine
open PySem

/-! the evaluator's rules -/
section
variable {P : Pg} {Φ : Calls} {ρ ρ' : Rho} {H H₁ H₂ H₃ H₄ : AH} {a b e : ME} {x y z v w : AV} {r : Res AV} {es : List ME} {vs : List AV}
theorem e_cI {i : Int} : ev P Φ (.cI i) ρ H = .ok (.int i) H := rfl
theorem e_cN : ev P Φ .cN ρ H = .ok .none H := rfl
theorem e_cB {i : Bool} : ev P Φ (.cB i) ρ H = .ok (.bool i) H := rfl
theorem e_var {k : Nat} (h : ρ[k]?.join = some v) : ev P Φ (.var k) ρ H = .ok v H := congrArg (fun o => optR o fun v => .ok v H) h
theorem e_glob {k : Str} (h : P.cst.lookup k = some v) : ev P Φ (.glob k) ρ H = .ok v H := congrArg (fun o => optR o fun v => .ok v H) h
theorem Res.to {α β : Type} {q : Res α} {a : α} {f : α → AH → Res β} {r : Res β} (h : q = .ok a H₁) (h' : f a H₁ = r) : q.bind f = r := by rw [h]; exact h'
theorem e_bin {op : BOp} (h1 : ev P Φ a ρ H = .ok x H₁) (h2 : ev P Φ b ρ H₁ = .ok y H₂) (h3 : binA op x y H₂ = r) : ev P Φ (.bin op a b) ρ H = r := Res.to h1 (Res.to h2 h3)
theorem e_cmp {op : COp} (h1 : ev P Φ a ρ H = .ok x H₁) (h2 : ev P Φ b ρ H₁ = .ok y H₂) (h3 : cmpA op x y H₂ = r) : ev P Φ (.cmp op a b) ρ H = r := Res.to h1 (Res.to h2 h3)
theorem e_idx (h0 : dctOf P a = none) (h1 : ev P Φ a ρ H = .ok x H₁) (h2 : ev P Φ b ρ H₁ = .ok y H₂) (h3 : idxA x y H₂ = r) : ev P Φ (.idx a b) ρ H = r := by
  show orD (dctOf P a) _ _ = r
  rw [h0]
  exact Res.to h1 (Res.to h2 h3)
theorem e_sl (h1 : ev P Φ a ρ H = .ok x H₁) (h2 : ev P Φ b ρ H₁ = .ok y H₂) (h3 : ev P Φ e ρ H₂ = .ok z H₃) (h4 : sliceA x y z H₃ = r) : ev P Φ (.sl a b e) ρ H = r := Res.to h1 (Res.to h2 (Res.to h3 h4))
theorem e_attr {n : Nat} (h1 : ev P Φ a ρ H = .ok x H₁) (h2 : attrA x n H₁ = r) : ev P Φ (.attr a n) ρ H = r := Res.to h1 h2
theorem e_isi {t : Ty} (h1 : ev P Φ a ρ H = .ok x H₁) (h2 : isiA x t H₁ = r) : ev P Φ (.isi a t) ρ H = r := Res.to h1 h2
theorem e_not {t : Bool} (h1 : ev P Φ a ρ H = .ok (.bool t) H₁) : ev P Φ (.not_ a) ρ H = .ok (.bool (!t)) H₁ := Res.to h1 rfl
theorem e_notT (h1 : ev P Φ a ρ H = .ok (.bool true) H₁) : ev P Φ (.not_ a) ρ H = .ok (.bool false) H₁ := Res.to h1 rfl
theorem e_notF (h1 : ev P Φ a ρ H = .ok (.bool false) H₁) : ev P Φ (.not_ a) ρ H = .ok (.bool true) H₁ := Res.to h1 rfl
theorem e_andT (h1 : ev P Φ a ρ H = .ok (.bool true) H₁) (h2 : ev P Φ b ρ H₁ = r) : ev P Φ (.and_ a b) ρ H = r := Res.to h1 h2
theorem e_andF (h1 : ev P Φ a ρ H = .ok (.bool false) H₁) : ev P Φ (.and_ a b) ρ H = .ok (.bool false) H₁ := Res.to h1 rfl
theorem e_orT (h1 : ev P Φ a ρ H = .ok (.bool true) H₁) : ev P Φ (.or_ a b) ρ H = .ok (.bool true) H₁ := Res.to h1 rfl
theorem e_orF (h1 : ev P Φ a ρ H = .ok (.bool false) H₁) (h2 : ev P Φ b ρ H₁ = r) : ev P Φ (.or_ a b) ρ H = r := Res.to h1 h2
theorem es_nil : evs P Φ [] ρ H = .ok [] H := rfl
theorem es_cons (h1 : ev P Φ e ρ H = .ok v H₁) (h2 : evs P Φ es ρ H₁ = .ok vs H₂) : evs P Φ (e :: es) ρ H = .ok (v :: vs) H₂ := Res.to h1 (Res.to h2 rfl)
theorem es_1 (h1 : ev P Φ e ρ H = .ok v H₁) : evs P Φ [e] ρ H = .ok [v] H₁ := es_cons h1 rfl
theorem es_2 {e₂ : ME} (h1 : ev P Φ e ρ H = .ok v H₁) (h2 : ev P Φ e₂ ρ H₁ = .ok w H₂) : evs P Φ [e, e₂] ρ H = .ok [v, w] H₂ := es_cons h1 (es_1 h2)
theorem es_3 {e₂ e₃ : ME} (h1 : ev P Φ e ρ H = .ok v H₁) (h2 : ev P Φ e₂ ρ H₁ = .ok w H₂) (h3 : ev P Φ e₃ ρ H₂ = .ok z H₃) : evs P Φ [e, e₂, e₃] ρ H = .ok [v, w, z] H₃ := es_cons h1 (es_2 h2 h3)
theorem e_lst (h1 : evs P Φ es ρ H = .ok vs H₁) : ev P Φ (.lst es) ρ H = .ok (.ref H₁.length) (H₁ ++ [.list true vs]) := Res.to h1 rfl
theorem e_tup (h1 : evs P Φ es ρ H = .ok vs H₁) : ev P Φ (.tup es) ρ H = .ok (.ref H₁.length) (H₁ ++ [.tup vs]) := Res.to h1 rfl
theorem e_bk (h1 : evs P Φ es ρ H = .ok [x, y, z] H₁) : ev P Φ (.bk es) ρ H = .ok (.ref H₁.length) (H₁ ++ [.book x y z]) := Res.to h1 rfl
theorem e_listOf {m : MI} {it : It} (h1 : evI P Φ m ρ H = .ok it H₁) (h2 : listOfA it H₁ = r) : ev P Φ (.listOf m) ρ H = r := Res.to h1 h2
theorem e_lcomp {m : MI} {it : It} {xs : List AV} (h1 : evI P Φ m ρ H = .ok it H₁) (h2 : compA it ρ noCond (ev P Φ e) it.len 0 [] H₁ = .ok xs H₂) : ev P Φ (.lcomp m e) ρ H = .ok (.ref H₂.length) (H₂ ++ [.list true xs]) := Res.to (Res.to h1 h2) rfl
theorem e_call {f : Str} {d : AFun} (h0 : P.fns.lookup f = some d) (h1 : evs P Φ es ρ H = .ok vs H₁) (h2 : Φ f vs H₁ = r) : ev P Φ (.call f es) ρ H = r := by
  show chk (P.fns.lookup f).isSome _ = _
  rw [h0]; exact Res.to h1 h2
theorem e_bi {o : Bi} (h1 : evs P Φ es ρ H = .ok vs H₁) (h2 : biA o vs H₁ = r) : ev P Φ (.bi o es) ρ H = r := Res.to h1 h2
theorem e_meth {m : Mt} (h1 : ev P Φ a ρ H = .ok x H₁) (h2 : isLst x H₁ = true) (h3 : ev P Φ b ρ H₁ = .ok y H₂) (h4 : methA m x y H₂ = r) : ev P Φ (.meth m a b) ρ H = r := Res.to h1 (by
  show chk (isLst x H₁) _ = _
  rw [h2]; exact Res.to h3 h4)
theorem i_seq {it : It} (h1 : ev P Φ e ρ H = .ok v H₁) (h2 : itOf v H₁ = .ok it H₁) : evI P Φ (.seq e) ρ H = .ok it H₁ := Res.to h1 h2
theorem i_rng {it : It} (h1 : evs P Φ es ρ H = .ok vs H₁) (h2 : itRange vs H₁ = .ok it H₁) : evI P Φ (.rng es) ρ H = .ok it H₁ := Res.to h1 h2

theorem x_assign {k : Nat} (h1 : ev P Φ e ρ H = .ok v H₁) : ex P Φ (.assign k e) ρ H = .ok (.next (ρ.set k (some v))) H₁ := Res.to h1 rfl
theorem x_expr (h1 : ev P Φ e ρ H = .ok v H₁) : ex P Φ (.expr e) ρ H = .ok (.next ρ) H₁ := Res.to h1 rfl
theorem x_ret (h1 : ev P Φ e ρ H = .ok v H₁) : ex P Φ (.ret e) ρ H = .ok (.ret v) H₁ := Res.to h1 rfl
theorem x_set (h1 : ev P Φ e ρ H = .ok z H₁) (h2 : ev P Φ a ρ H₁ = .ok x H₂) (h3 : ev P Φ b ρ H₂ = .ok y H₃) (h4 : setItemA x y z H₃ = .ok v H₄) : ex P Φ (.setItem a b e) ρ H = .ok (.next ρ) H₄ := Res.to h1 (Res.to h2 (Res.to h3 (Res.to h4 rfl)))
theorem x_if {s t : List MS} {c : Bool} {q : Res Fl} (h1 : ev P Φ e ρ H = .ok (.bool c) H₁) (h2 : exs P Φ (if c then s else t) ρ H₁ = q) : ex P Φ (.ite e s t) ρ H = q := by
  show ((ev P Φ e ρ H).bind truth).bind (fun t' H₁ => if t' then exs P Φ s ρ H₁ else exs P Φ t ρ H₁) = q
  rw [h1]
  cases c <;> exact h2
theorem x_for {k : Nat} {m : MI} {it : It} {body : List MS} {q : Res Fl} (h1 : evI P Φ m ρ H = .ok it H₁) (h2 : loopA it k (exs P Φ body) it.len 0 ρ H₁ = q) : ex P Φ (.for_ k m body) ρ H = q := Res.to h1 h2
theorem x_nil : exs P Φ [] ρ H = .ok (.next ρ) H := rfl
theorem x_seq {t : MS} {s : List MS} {q : Res Fl} (h1 : ex P Φ t ρ H = .ok (.next ρ') H₁) (h2 : exs P Φ s ρ' H₁ = q) : exs P Φ (t :: s) ρ H = q := Res.to h1 h2
theorem x_stop {t : MS} {s : List MS} (h1 : ex P Φ t ρ H = .ok (.ret v) H₁) : exs P Φ (t :: s) ρ H = .ok (.ret v) H₁ := Res.to h1 rfl
/-- a test that does not hold, nothing else -/
theorem x_not {s : List MS} (h1 : ev P Φ e ρ H = .ok (.bool false) H₁) : ex P Φ (.ite e s []) ρ H = .ok (.next ρ) H₁ := x_if h1 rfl

theorem callN_at {n : Nat} {f : Str} {d : AFun} {args : List AV} {fl : Fl} (h : P.fns.lookup f = some d) (hl : args.length = d.np) (h2 : exs P (callN P n) d.body (args.map some ++ List.replicate (d.ns - d.np) none) H = .ok fl H₁) : callN P (n + 1) f args H = .ok (fin fl) H₁ := by
  show optR (P.fns.lookup f) _ = _
  rw [h]
  show chk (decide (args.length = d.np)) _ = _
  rw [decide_eq_true hl]
  exact Res.to h2 rfl
end

/-! plain tools -/
theorem pre_at {H K : AH} {i : Nat} {o : AObj} (h : H[i]? = some o) : (H ++ K)[i]? = some o := by
  rw [List.getElem?_append_left (List.getElem?_eq_some_iff.mp h).1]; exact h
theorem at_len {H : AH} {o : AObj} {K : AH} : (H ++ o :: K)[H.length]? = some o := by
  rw [List.getElem?_append_right (Nat.le_refl _), Nat.sub_self]; rfl

section
variable {it : It} {x : Nat} {run : Rho → AH → Res Fl} {r k : Nat} {ρ ρ' : Rho} {H H' : AH} {v w : AV} {q : Res Fl} {ys : List AV}
theorem l_next (h1 : (it.all H).bind (·[k]?) = some v) (h2 : run (ρ.set x (some v)) H = .ok (.next ρ') H') (h3 : loopA it x run r (k + 1) ρ' H' = q) : loopA it x run (r + 1) k ρ H = q := by
  show optR ((it.all H).bind (·[k]?)) _ = _
  rw [h1]; exact Res.to h2 h3
theorem l_ret (h1 : (it.all H).bind (·[k]?) = some v) (h2 : run (ρ.set x (some v)) H = .ok (.ret w) H') : loopA it x run (r + 1) k ρ H = .ok (.ret w) H' := by
  show optR ((it.all H).bind (·[k]?)) _ = _
  rw [h1]; exact Res.to h2 rfl
theorem l_end (h1 : it.all H = some ys) : loopA it x run 0 k ρ H = .ok (.next ρ) H := by
  show optR (it.all H) _ = _
  rw [h1]; rfl
end
/-- a for without an early end -/
theorem loop_inv {it : It} {x : Nat} {run : Rho → AH → Res Fl} {n : Nat} (J : Nat → Rho → AH → Prop) (hstep : ∀ k ρ H, k < n → J k ρ H → ∃ v ρ' H', (it.all H).bind (·[k]?) = some v ∧ run (ρ.set x (some v)) H = .ok (.next ρ') H' ∧ J (k + 1) ρ' H')
    (hend : ∀ ρ H, J n ρ H → ∃ ys, it.all H = some ys) : ∀ (r k : Nat) (ρ : Rho) (H : AH), k + r = n → J k ρ H → ∃ ρ' H', loopA it x run r k ρ H = .ok (.next ρ') H' ∧ J n ρ' H'
  | 0, k, ρ, H, hk, h => by
    have hk : k = n := hk
    subst hk
    obtain ⟨ys, e⟩ := hend ρ H h
    exact ⟨ρ, H, l_end e, h⟩
  | r + 1, k, ρ, H, hk, h => by
    obtain ⟨v, ρ', H', e1, e2, h'⟩ := hstep k ρ H (by decreasing_trivial) h
    obtain ⟨ρ₂, H₂, e3, h₂⟩ := loop_inv J hstep hend r (k + 1) ρ' H' (by decreasing_trivial) h'
    exact ⟨ρ₂, H₂, l_next e1 e2 e3, h₂⟩
/-- a comprehension whose items leave the heap as it is -/
theorem comp_map {it : It} {ρ : Rho} {run : Rho → AH → Res AV} {H : AH} {xs : List AV} (g : Nat → AV) (hx : it.all H = some xs) (hstep : ∀ k v, xs[k]? = some v → run (ρ ++ [some v]) H = .ok (g k) H) :
    ∀ (r k : Nat) (acc : List AV), k + r = xs.length → compA it ρ noCond run r k acc H = .ok (acc ++ (List.range' k r).map g) H
  | 0, k, acc, _ => by
    show optR (it.all H) _ = _
    rw [hx, List.range'_zero, List.map_nil, List.append_nil]; rfl
  | r + 1, k, acc, hk => by
    have hlt : k < xs.length := by decreasing_trivial
    show optR ((it.all H).bind (·[k]?)) _ = _
    rw [hx]
    show optR (xs[k]?) _ = _
    rw [List.getElem?_eq_getElem hlt]
    show (run (ρ ++ [some xs[k]]) H).bind _ = _
    refine Res.to (hstep k _ (List.getElem?_eq_getElem hlt)) ?_
    show compA it ρ noCond run r (k + 1) (acc ++ [g k]) H = _
    rw [comp_map g hx hstep r (k + 1) _ (by decreasing_trivial), List.range'_succ, List.map_cons, List.append_assoc]; rfl

theorem bin_mul {x y : Int} (h : mulOk x y = true) (H : AH) : binA .mul (.int x) (.int y) H = .ok (.int (x * y)) H := by show chk (mulOk x y) _ = _; rw [h]; rfl
theorem bin_fdiv {x y : Int} (h : divOk y = true) (H : AH) : binA .fdiv (.int x) (.int y) H = .ok (.int (x.fdiv y)) H := by show chk (divOk y) _ = _; rw [h]; rfl
theorem bin_mod {x y : Int} (h : divOk y = true) (H : AH) : binA .mod (.int x) (.int y) H = .ok (.int (x.fmod y)) H := by show chk (divOk y) _ = _; rw [h]; rfl
theorem cmp_eq (x y : Int) (H : AH) : cmpA .eq (.int x) (.int y) H = .ok (.bool (decide (x = y))) H := rfl
theorem cmp_ne (x y : Int) (H : AH) : cmpA .ne (.int x) (.int y) H = .ok (.bool (!decide (x = y))) H := rfl

theorem lt_yes {x y : Int} {H : AH} (h : x < y) : cmpA .lt (.int x) (.int y) H = .ok (.bool true) H := congrArg (fun b => Res.ok (AV.bool b) H) (decide_eq_true h)
theorem lt_no {x y : Int} {H : AH} (h : ¬ x < y) : cmpA .lt (.int x) (.int y) H = .ok (.bool false) H := congrArg (fun b => Res.ok (AV.bool b) H) (decide_eq_false h)
theorem le_yes {x y : Int} {H : AH} (h : x ≤ y) : cmpA .le (.int x) (.int y) H = .ok (.bool true) H := congrArg (fun b => Res.ok (AV.bool b) H) (decide_eq_true h)
theorem le_no {x y : Int} {H : AH} (h : ¬ x ≤ y) : cmpA .le (.int x) (.int y) H = .ok (.bool false) H := congrArg (fun b => Res.ok (AV.bool b) H) (decide_eq_false h)
theorem gt_yes {x y : Int} {H : AH} (h : y < x) : cmpA .gt (.int x) (.int y) H = .ok (.bool true) H := congrArg (fun b => Res.ok (AV.bool b) H) (decide_eq_true h)
theorem gt_no {x y : Int} {H : AH} (h : ¬ y < x) : cmpA .gt (.int x) (.int y) H = .ok (.bool false) H := congrArg (fun b => Res.ok (AV.bool b) H) (decide_eq_false h)
theorem ge_yes {x y : Int} {H : AH} (h : y ≤ x) : cmpA .ge (.int x) (.int y) H = .ok (.bool true) H := congrArg (fun b => Res.ok (AV.bool b) H) (decide_eq_true h)
theorem ge_no {x y : Int} {H : AH} (h : ¬ y ≤ x) : cmpA .ge (.int x) (.int y) H = .ok (.bool false) H := congrArg (fun b => Res.ok (AV.bool b) H) (decide_eq_false h)
theorem eq_yes {x y : Int} {H : AH} (h : x = y) : cmpA .eq (.int x) (.int y) H = .ok (.bool true) H := congrArg (fun b => Res.ok (AV.bool b) H) (decide_eq_true h)
theorem eq_no {x y : Int} {H : AH} (h : ¬ x = y) : cmpA .eq (.int x) (.int y) H = .ok (.bool false) H := congrArg (fun b => Res.ok (AV.bool b) H) (decide_eq_false h)
theorem ne_yes {x y : Int} {H : AH} (h : x ≠ y) : cmpA .ne (.int x) (.int y) H = .ok (.bool true) H := congrArg (fun b => Res.ok (AV.bool (!b)) H) (decide_eq_false h)
theorem ne_no {x y : Int} {H : AH} (h : x = y) : cmpA .ne (.int x) (.int y) H = .ok (.bool false) H := congrArg (fun b => Res.ok (AV.bool (!b)) H) (decide_eq_true h)
theorem is_yes {H : AH} : cmpA .is_ .none .none H = .ok (.bool true) H := rfl
theorem is_int {x : Int} {H : AH} : cmpA .is_ (.int x) .none H = .ok (.bool false) H := rfl
theorem is_ref {x : Nat} {H : AH} : cmpA .is_ (.ref x) .none H = .ok (.bool false) H := rfl

theorem items_ref {i : Nat} {mt : Bool} {xs : List AV} {H : AH} (h : H[i]? = some (.list mt xs)) : items (.ref i) H = some xs := by show (H[i]?).bind _ = _; rw [h]; rfl
theorem lst_ref {i : Nat} {mt : Bool} {xs : List AV} {H : AH} (h : H[i]? = some (.list mt xs)) : lstOf (.ref i) H = some xs := by show (H[i]?).bind _ = _; rw [h]; rfl
theorem isLst_ref {i : Nat} {mt : Bool} {xs : List AV} {H : AH} (h : H[i]? = some (.list mt xs)) : isLst (.ref i) H = true := by unfold isLst; rw [lst_ref h]; rfl
theorem bi_len {i : Nat} {mt : Bool} {xs : List AV} {H : AH} (h : H[i]? = some (.list mt xs)) (hl : xs.length ≤ 1000000) : biA .len [.ref i] H = .ok (.int xs.length) H := by
  show optR (items (.ref i) H) _ = _
  rw [items_ref h]
  show chk (decide _) _ = _
  rw [decide_eq_true (Nat.le_trans hl (by decide))]; rfl
theorem upto_nat {a b : Int} (h : -1000000000000000 ≤ a ∧ a ≤ 1000000000000000 ∧ -1000000000000000 ≤ b ∧ b ≤ 1000000000000000) (hl : (b - a).toNat ≤ 1000000) (H : AH) (vs : List AV) (hv : rangeL vs = upto a b) : itRange vs H = .ok (.fix ((List.range (b - a).toNat).map fun k => .int (a + (k : Nat)))) H := by
  show optR (rangeL vs) _ = _
  rw [hv]
  unfold upto
  rw [if_pos h]
  show chk (decide _) _ = _
  rw [List.length_map, List.length_range, decide_eq_true (Nat.le_trans hl (by decide)), List.map_map]; rfl
theorem itRange_nat {k : Nat} (h : k ≤ 1000000) {H : AH} : itRange [.int k] H = .ok (.fix ((List.range k).map fun (k : Nat) => AV.int k)) H := by
  have := upto_nat (a := 0) (b := k) (by decreasing_trivial) (by decreasing_trivial) H [.int k] rfl
  rw [this]
  simp

theorem getI_nat {k : Nat} {xs : List AV} {v : AV} (h1 : k ≤ 100000000) (hv : xs[k]? = some v) : getI xs (k : Int) = some v := by
  unfold getI
  rw [if_pos (Int.natCast_nonneg k), if_pos (show (k : Int) < ixLine by unfold ixLine; decreasing_trivial), Int.toNat_natCast]; exact hv
theorem idx_it {a : AV} {H : AH} {xs : List AV} {i : Int} {k : Nat} {v : AV} (hs : a.s? = none) (h : items a H = some xs) (hi : i = k) (hk : k ≤ 100000000) (hv : xs[k]? = some v) : idxA a (.int i) H = .ok v H := by
  show orS a _ (optR ((items a H).bind _) _) = _
  unfold orS
  rw [hs, h, hi, Option.bind_some, getI_nat hk hv]; rfl
theorem idx_at {i : Nat} {mt : Bool} {H : AH} {xs : List AV} {k : Int} {n : Nat} {v : AV} (h : H[i]? = some (.list mt xs)) (hi : k = n) (hk : n ≤ 100000000) (hv : xs[n]? = some v) : idxA (.ref i) (.int k) H = .ok v H := idx_it rfl (items_ref h) hi hk hv
theorem attr_at {b : Nat} {x y z : AV} {H : AH} (n : Nat) (h : H[b]? = some (.book x y z)) : attrA (.ref b) n H = .ok (pick3 n (x, y, z)) H := by
  show optR ((H[b]?).bind _) _ = _
  rw [h]; rfl
theorem itOf_at {i : Nat} {mt : Bool} {xs : List AV} {H : AH} (h : H[i]? = some (.list mt xs)) (hl : xs.length ≤ 1000000) : itOf (.ref i) H = .ok (.seq false i xs.length) H := by
  show optR (H[i]?) _ = _
  rw [h]
  show chk (decide _) _ = _
  rw [decide_eq_true (Nat.le_trans hl (by decide))]; rfl
theorem all_at {i : Nat} {mt : Bool} {xs : List AV} {H : AH} (h : H[i]? = some (.list mt xs)) : (It.seq false i xs.length).all H = some xs := by
  show ((H[i]?).bind _).bind _ = _
  rw [h]; exact if_pos rfl
theorem listOf_at {i : Nat} {mt : Bool} {xs : List AV} {H : AH} (h : H[i]? = some (.list mt xs)) (hl : xs.length ≤ 1000000) : listOfA (.seq false i xs.length) H = .ok (.ref H.length) (H ++ [.list true xs]) := by
  show optR (It.all _ _) _ = _
  rw [all_at h]
  show chk (decide _) _ = _
  rw [decide_eq_true (Nat.le_trans hl (by decide))]; rfl
theorem mut_at {i : Nat} {xs : List AV} {H : AH} {k : Nat → List AV → Res AV} (h : H[i]? = some (.list true xs)) : mutAt (.ref i) H k = k i xs := by
  show optR ((H[i]?).bind _) _ = _
  rw [h]; rfl
theorem append_at {H : AH} {i : Nat} {xs : List AV} {v : AV} (h : H[i]? = some (.list true xs)) (hl : xs.length ≤ 1000000) : methA .append (.ref i) v H = .ok .none (H.set i (.list true (xs ++ [v]))) := by
  unfold methA
  rw [mut_at h]
  show chk (decide _) _ = _
  rw [decide_eq_true (Nat.le_trans hl (by decide))]; rfl
theorem extend_at {H : AH} {i j : Nat} {mt : Bool} {xs ys : List AV} (hij : i ≠ j) (h : H[i]? = some (.list true xs)) (h' : H[j]? = some (.list mt ys)) (hl : xs.length + ys.length ≤ 10000000) : methA .extend (.ref i) (.ref j) H = .ok .none (H.set i (.list true (xs ++ ys))) := by
  unfold methA
  rw [mut_at h]
  show optR (lstOf (.ref j) H) _ = _
  rw [lst_ref h']
  show chk (decide _) _ = _
  rw [decide_eq_true ⟨hij, Nat.le_trans hl (by decide)⟩]; rfl
theorem setItem_at {H : AH} {i k : Nat} {xs : List AV} {v : AV} (h : H[i]? = some (.list true xs)) (hk : k < xs.length) (hl : xs.length ≤ 1000000) : setItemA (.ref i) (.int k) v H = .ok .none (H.set i (.list true (xs.set k v))) := by
  unfold setItemA
  rw [mut_at h]
  show chk (decide _) _ = _
  rw [decide_eq_true ⟨Int.natCast_nonneg k, by decreasing_trivial, by unfold ixLine; decreasing_trivial⟩]; rfl
theorem mul_one {H : AH} {i : Nat} {mt : Bool} {x : AV} {k : Int} (h : H[i]? = some (.list mt [x])) (h1 : 0 ≤ k) (h2 : k ≤ 1000000) : binA .mul (.ref i) (.int k) H = .ok (.ref H.length) (H ++ [.list true (List.replicate k.toNat x)]) := by
  show optR ((lstOf (.ref i) H).bind one?) _ = _
  rw [lst_ref h]
  show chk (decide _) _ = _
  rw [decide_eq_true ⟨h1, h2⟩]; rfl
theorem slice_at {H : AH} {i : Nat} {mt : Bool} {xs : List AV} {l h : Nat} (hi : H[i]? = some (.list mt xs)) (h1 : l ≤ h) (h2 : h ≤ xs.length) (h3 : xs.length ≤ 1000000) : sliceA (.ref i) (.int l) (.int h) H = .ok (.ref H.length) (H ++ [.list true ((xs.drop l).take (h - l))]) := by
  show optR (lstOf (.ref i) H) _ = _
  rw [lst_ref hi]
  show chk (decide _) _ = _
  rw [decide_eq_true ⟨Int.natCast_nonneg l, by decreasing_trivial, by decreasing_trivial, Nat.le_trans h3 (by decide)⟩]; rfl
theorem isi_int {i : Int} {H : AH} : isiA (.int i) .int_ H = .ok (.bool true) H := rfl
theorem isi_list {i : Nat} {mt : Bool} {xs : List AV} {H : AH} (h : H[i]? = some (.list mt xs)) : isiA (.ref i) .list_ H = .ok (.bool true) H := by
  show optR ((H[i]?).bind _) _ = _
  rw [h]; rfl

theorem small_lit {y : Int} (h1 : y ≠ 0) (h2 : y.natAbs < 2 ^ 64) : divOk y = true := by
  unfold divOk
  rw [decide_eq_true h1, decide_eq_true (Nat.lt_of_lt_of_le h2 (Nat.pow_le_pow_right (by decide) (by decide)))]; rfl
theorem md {x y : Int} (H : AH) (h1 : 0 < y) (h2 : y < 18446744073709551616) : binA .mod (.int x) (.int y) H = .ok (.int (x.fmod y)) H := bin_mod (small_lit (by decreasing_trivial) (by decreasing_trivial)) H
theorem dv {x y : Int} (H : AH) (h1 : 0 < y) (h2 : y < 18446744073709551616) : binA .fdiv (.int x) (.int y) H = .ok (.int (x.fdiv y)) H := bin_fdiv (small_lit (by decreasing_trivial) (by decreasing_trivial)) H
theorem bin_pow {x : Int} {k : Nat} (h : k ≤ 1000000) (hx : x.natAbs < 2 ^ 64) (H : AH) : binA .pow (.int x) (.int k) H = .ok (.int (x ^ k)) H := by
  show chk (powOk x k) _ = _
  unfold powOk
  rw [decide_eq_true (show (0 : Int) ≤ (k : Int) ∧ (k : Int) ≤ 1000000 by decreasing_trivial), decide_eq_true hx]; rfl
theorem mulOk_right {x y : Int} (h : y.natAbs < 2 ^ 64) : mulOk x y = true := by unfold mulOk; rw [decide_eq_true h, Bool.or_true, Bool.true_or]
theorem mulOk_left {x y : Int} (h : x.natAbs < 2 ^ 64) : mulOk x y = true := by unfold mulOk; rw [decide_eq_true h, Bool.true_or, Bool.true_or]
theorem mulOk_mid {x y : Int} (h : x.natAbs < 2 ^ 1000) (h' : y.natAbs < 2 ^ 1000) : mulOk x y = true := by unfold mulOk; rw [decide_eq_true h, decide_eq_true h', Bool.and_true, Bool.or_true]
theorem fmod_bd {x y : Int} (h : 0 < y) : 0 ≤ x.fmod y ∧ x.fmod y < y := ⟨Int.fmod_nonneg_of_pos x h, Int.fmod_lt_of_pos x h⟩
end Mine

/-! ## part S4 -/
namespace Mine
open PySem PySem.NumText

/-! texts in the evaluator -/
noncomputable def ascB (x : Str) : Bool := x.cps.toList.all (· < 128)
noncomputable def Asc (x : Str) : Prop := ∀ c ∈ x.cps.toList, c < 128
theorem asc_of {x : Str} (h : ascB x = true) : Asc x := fun c hc => of_decide_eq_true (List.all_eq_true.mp h c hc)
theorem Asc.ok {x : Str} (h : Asc x) : PyData.strOk x = true := by
  unfold PyData.strOk
  rw [← Array.all_toList, List.all_eq_true]
  exact fun c hc => decide_eq_true (Nat.lt_trans (h c hc) (by decide))
theorem Asc.all {x : Str} (h : Asc x) : x.cps.all (· < 128) = true := by
  rw [← Array.all_toList, List.all_eq_true]
  exact fun c hc => decide_eq_true (h c hc)
theorem Asc.app {x y : Str} (h : Asc x) (k : Asc y) : Asc (x ++ y) := fun c hc => by
  rw [Str.cps_append, Array.toList_append] at hc
  rcases List.mem_append.mp hc with q | q
  · exact h c q
  · exact k c q
theorem Asc.tx {l : List Nat} (h : ∀ c ∈ l, c < 128) : Asc (tx l) := h
theorem Asc.sg {c : Nat} (h : c < 128) : Asc ⟨#[c]⟩ := fun d hd => by
  have : d = c := by simpa using hd
  subst this; exact h
theorem Asc.nil : Asc ⟨#[]⟩ := fun c hc => by cases hc
section
variable {P : Pg} {Φ : Calls} {ρ : Rho} {H H₁ H₂ : AH} {a b e : ME} {u v w : AV} {x y : Str} {r : Res AV}
theorem e_cS : ev P Φ (.cS x) ρ H = .ok (.str x) H := rfl
theorem e_str_ (h1 : ev P Φ a ρ H = .ok v H₁) (h2 : strA v H₁ = r) : ev P Φ (.str_ a) ρ H = r := Res.to h1 h2
theorem e_tupOf (h1 : ev P Φ a ρ H = .ok v H₁) (h2 : tupOfA v H₁ = r) : ev P Φ (.tupOf a) ρ H = r := Res.to h1 h2
theorem e_toInt (h1 : ev P Φ a ρ H = .ok v H₁) (h2 : toIntA v H₁ = r) : ev P Φ (.toInt a) ρ H = r := Res.to h1 h2
theorem e_slU (h1 : ev P Φ a ρ H = .ok v H₁) (h2 : ev P Φ b ρ H₁ = .ok w H₂) (h3 : sliceU v w H₂ = r) : ev P Φ (.slU a b) ρ H = r := Res.to h1 (Res.to h2 h3)
theorem e_slF (h1 : ev P Φ a ρ H = .ok v H₁) (h2 : ev P Φ b ρ H₁ = .ok w H₂) (h3 : sliceF v w H₂ = r) : ev P Φ (.slF a b) ρ H = r := Res.to h1 (Res.to h2 h3)
theorem e_neg (h1 : ev P Φ a ρ H = .ok v H₁) (h2 : negA v H₁ = r) : ev P Φ (.neg a) ρ H = r := Res.to h1 h2
theorem e_cin {neg : Bool} (h0 : dctOf P b = none) (h1 : ev P Φ a ρ H = .ok v H₁) (h2 : ev P Φ b ρ H₁ = .ok w H₂) (h3 : cinA neg v w H₂ = r) : ev P Φ (.cin neg a b) ρ H = r := by
  show orD (dctOf P b) _ _ = r
  rw [h0]
  exact Res.to h1 (Res.to h2 h3)
theorem e_din {neg : Bool} {D : List (Str × Int)} (h0 : dctOf P b = some D) (h1 : ev P Φ a ρ H = .ok v H₁) (h3 : dinA neg D v H₁ = r) : ev P Φ (.cin neg a b) ρ H = r := by
  show orD (dctOf P b) _ _ = r
  rw [h0]
  exact Res.to h1 h3
theorem e_dget {D : List (Str × Int)} (h0 : dctOf P b = some D) (h1 : ev P Φ a ρ H = .ok v H₁) (h3 : dgetA D v H₁ = r) : ev P Φ (.idx b a) ρ H = r := by
  show orD (dctOf P b) _ _ = r
  rw [h0]
  exact Res.to h1 h3
theorem e_sm {k : Sm} (h1 : ev P Φ a ρ H = .ok (.str x) H₁) (h2 : ev P Φ b ρ H₁ = .ok w H₂) (h3 : smA k (.str x) w H₂ = r) : ev P Φ (.smeth k a b) ρ H = r := Res.to h1 (Res.to h2 h3)

theorem dat_str (h : Asc x) : datA 5 H (.str x) = some (.str x) := by
  show (if PyData.strOk x = true then some (PyData.str x) else none) = _
  rw [if_pos h.ok]
theorem eqA_str (hx : Asc x) (hy : Asc y) : eqA H (.str x) (.str y) = some (x == y) := by
  unfold eqA
  rw [dat_str hx, dat_str hy]; rfl
theorem eq_str (hx : Asc x) (hy : Asc y) : cmpA .eq (.str x) (.str y) H = .ok (.bool (x == y)) H := by
  show optR (eqA H _ _) _ = _
  rw [eqA_str hx hy]; rfl
theorem ne_str (hx : Asc x) (hy : Asc y) : cmpA .ne (.str x) (.str y) H = .ok (.bool (!(x == y))) H := by
  show optR (eqA H _ _) _ = _
  rw [eqA_str hx hy]; rfl
theorem add_str (h : x.length + y.length ≤ 100000) : binA .add (.str x) (.str y) H = .ok (.str (x ++ y)) H := by
  show chk (decide _) _ = _
  rw [decide_eq_true (Nat.le_trans h (by decide))]; rfl
theorem len_str (h : x.length ≤ 100000) : biA .len [.str x] H = .ok (.int x.length) H := by
  show chk (decide _) _ = _
  rw [decide_eq_true (Nat.le_trans h (by decide))]; rfl
theorem idx_str {k : Nat} {i : Int} {c : Nat} (hi : i = k) (hk : k ≤ 100000) (hc : x.cps.toList[k]? = some c) : idxA (.str x) (.int i) H = .ok (.str ⟨#[c]⟩) H := by
  show optR (sgAt x i) _ = _
  unfold sgAt
  subst hi
  rw [if_pos ⟨Int.natCast_nonneg k, by unfold ixLine; decreasing_trivial⟩, Int.toNat_natCast, show x.cps[k]? = some c by simpa using hc]; rfl
theorem slice_to (k : Nat) : Txt.slice x none (some (k : Int)) = tx (x.cps.toList.take k) := by
  rw [beq_iff_eq.mp (PyProof.Rows.slice_to_min_closes (x := x) (n := (k : Int)) (Int.natCast_nonneg k) rfl)]
  show tx _ = tx _
  congr 1
  show List.take _ (x.cps.toList.drop 0) = _
  rw [List.drop_zero]
  by_cases h : (x.length : Int) < k
  · rw [if_pos h, List.take_of_length_le (by rw [list_len]; decreasing_trivial), List.take_of_length_le (by rw [list_len]; decreasing_trivial)]
  · rw [if_neg h, Int.sub_zero, Int.toNat_natCast]
theorem slice_from (k : Nat) : Txt.slice x (some (k : Int)) none = tx (x.cps.toList.drop k) := by
  by_cases h : (x.length : Int) ≤ k
  · rw [PyProof.Rows.slice_from_beyond h, List.drop_eq_nil_of_le (by rw [list_len]; decreasing_trivial)]; rfl
  · rw [PyProof.Rows.slice_from_eq (b := x.length) (Int.natCast_nonneg k) (by decreasing_trivial) rfl]
    show tx _ = tx _
    congr 1
    rw [Int.toNat_natCast, List.take_of_length_le (by rw [List.length_drop, list_len]; decreasing_trivial)]
theorem slU_str {k : Nat} (h : x.length ≤ 100000) : sliceU (.str x) (.int k) H = .ok (.str (tx (x.cps.toList.take k))) H := by
  show chk (decide _) _ = _
  rw [decide_eq_true ⟨Int.natCast_nonneg k, Nat.le_trans h (by decide)⟩, slice_to]; rfl
theorem slF_str {k : Nat} (h : x.length ≤ 100000) : sliceF (.str x) (.int k) H = .ok (.str (tx (x.cps.toList.drop k))) H := by
  show chk (decide _) _ = _
  rw [decide_eq_true ⟨Int.natCast_nonneg k, Nat.le_trans h (by decide)⟩, slice_from]; rfl
theorem minus_eq : Str.ofString "-" = ⟨#[45]⟩ := by decide +kernel
theorem sw_minus : Txt.startswith x ⟨#[45]⟩ = mns x.cps.toList := by
  unfold Txt.startswith mns
  cases hx : x.cps.toList with
  | nil =>
    have : x.length = 0 := by rw [← list_len, hx]; rfl
    rw [this]; rfl
  | cons c r =>
    have hl : x.length = r.length + 1 := by rw [← list_len, hx]; rfl
    have h1 : (decide (0 + Str.length ⟨#[45]⟩ ≤ x.length)) = true := decide_eq_true (by rw [hl]; show 0 + 1 ≤ _; decreasing_trivial)
    rw [h1, Bool.true_and, StrLaws.subAt_eq, hx]
    show ([c] == [45]) = (some c == some 45)
    by_cases q : c = 45 <;> simp [q]
theorem sw_str : smA .startswith (.str x) (.str (Str.ofString "-")) H = .ok (.bool (mns x.cps.toList)) H := by
  rw [minus_eq, ← sw_minus]; rfl
theorem in_fig : ∀ c : Nat, c < 128 → Txt.contains (Str.ofString "0123456789") ⟨#[c]⟩ = isFig c := by decide +kernel
theorem cin_fig {c : Nat} (h : c < 128) : cinA true (.str ⟨#[c]⟩) (.str (Str.ofString "0123456789")) H = .ok (.bool (!(isFig c))) H := by
  show Res.ok (AV.bool (!(Txt.contains _ _))) H = _
  rw [in_fig c h]
theorem str_int {n : Int} (h : n.natAbs.log2 < 1920) : strA (.int n) H = .ok (.str (Str.ofString (toString n))) H := by
  show chk (decide _) _ = _
  rw [decide_eq_true h]; rfl
theorem int_str {n : Int} (hl : x.length ≤ 640) (h : intText? x = some n) : toIntA (.str x) H = .ok (.int n) H := by
  show chk (decide _) (optR (intText? x) _) = _
  rw [decide_eq_true hl, h]; rfl
theorem it_str (h : Asc x) (hl : x.length ≤ 100000) : itOf (.str x) H = .ok (.txt x) H := by
  show chk (decide (x.cps.size ≤ sLine) && _) _ = _
  rw [h.all, decide_eq_true (Nat.le_trans (show x.cps.size ≤ 100000 from hl) (by decide))]; rfl
theorem all_txt : (It.txt x).all H = some (sgs x) := rfl
theorem sgs_at {k c : Nat} (h : x.cps.toList[k]? = some c) : (sgs x)[k]? = some (.str ⟨#[c]⟩) := by
  unfold sgs
  rw [List.getElem?_map, h]; rfl
theorem sgs_len : (It.txt x).len = x.cps.toList.length := by show x.cps.size = _; simp
theorem tup_at {i : Nat} {mt : Bool} {xs : List AV} (h : H[i]? = some (.list mt xs)) (hl : xs.length ≤ 100000) : tupOfA (.ref i) H = .ok (.ref H.length) (H ++ [.tup xs]) := by
  show optR (lstOf (.ref i) H) _ = _
  rw [lst_ref h]
  show chk (decide _) _ = _
  rw [decide_eq_true (Nat.le_trans hl (by decide))]; rfl
theorem slF_tup {i k : Nat} {xs : List AV} (h : H[i]? = some (.tup xs)) (h1 : 1 ≤ k) (h2 : k ≤ xs.length) (hl : xs.length ≤ 100000) : sliceF (.ref i) (.int k) H = .ok (.ref H.length) (H ++ [.tup (xs.drop k)]) := by
  have e : tupAt (.ref i) H = some xs := by show (H[i]?).bind _ = _; rw [h]; rfl
  show sliceT (.ref i) (.int k) H _ = _
  unfold sliceT
  rw [e]
  show chk (decide _) _ = _
  rw [decide_eq_true ⟨by decreasing_trivial, by decreasing_trivial, Nat.le_trans hl (by decide)⟩, Int.toNat_natCast]; rfl
theorem slF_lst {i k : Nat} {mt : Bool} {xs : List AV} (h : H[i]? = some (.list mt xs)) (h2 : k ≤ xs.length) (hl : xs.length ≤ 100000) : sliceF (.ref i) (.int k) H = .ok (.ref H.length) (H ++ [.list true (xs.drop k)]) := by
  have e : tupAt (.ref i) H = none := by show (H[i]?).bind _ = _; rw [h]; rfl
  show sliceT (.ref i) (.int k) H _ = _
  unfold sliceT
  rw [e]
  show optR (lstOf (.ref i) H) _ = _
  rw [lst_ref h]
  show chk (decide _) _ = _
  rw [decide_eq_true ⟨Int.natCast_nonneg k, by decreasing_trivial, Nat.le_trans hl (by decide)⟩, Int.toNat_natCast]; rfl
theorem items_tup {i : Nat} {xs : List AV} (h : H[i]? = some (.tup xs)) : items (.ref i) H = some xs := by show (H[i]?).bind _ = _; rw [h]; rfl
theorem idx_tup {i : Nat} {xs : List AV} {k : Int} {n : Nat} (h : H[i]? = some (.tup xs)) (hi : k = n) (hk : n ≤ 100000000) (hv : xs[n]? = some v) : idxA (.ref i) (.int k) H = .ok v H := idx_it rfl (items_tup h) hi hk hv
theorem len_tup {i : Nat} {xs : List AV} (h : H[i]? = some (.tup xs)) (hl : xs.length ≤ 1000000) : biA .len [.ref i] H = .ok (.int xs.length) H := by
  show optR (items (.ref i) H) _ = _
  rw [items_tup h]
  show chk (decide _) _ = _
  rw [decide_eq_true (Nat.le_trans hl (by decide))]; rfl
theorem it_tup {i : Nat} {xs : List AV} (h : H[i]? = some (.tup xs)) (hl : xs.length ≤ 1000000) : itOf (.ref i) H = .ok (.seq true i xs.length) H := by
  show optR (H[i]?) _ = _
  rw [h]
  show chk (decide _) _ = _
  rw [decide_eq_true (Nat.le_trans hl (by decide))]; rfl
theorem all_tup {i : Nat} {xs : List AV} (h : H[i]? = some (.tup xs)) : (It.seq true i xs.length).all H = some xs := by
  show ((H[i]?).bind _).bind _ = _
  rw [h]; exact if_pos rfl
theorem isi_tup {i : Nat} {xs : List AV} (h : H[i]? = some (.tup xs)) : isiA (.ref i) .tup_ H = .ok (.bool true) H := by
  show optR ((H[i]?).bind _) _ = _
  rw [h]; rfl
theorem split_ok (h : x.length ≤ 100000) : splitOk x SP = true := by
  unfold splitOk
  have h1 : (Builtin.Str.partsBetween x (Builtin.Str.occurrences x SP 0 x.length (x.length + 1)) SP.length).length ≤ sLine := by
    rw [PyProof.Rows.len_partsBetween]
    have := StrLaws.occ_length_le x SP 0 x.length (x.length + 1)
    have hs : sLine = 16777216 := rfl
    rw [hs]; decreasing_trivial
  rw [decide_eq_true (Nat.le_trans h (by decide)), decide_eq_true h1]; rfl
theorem split_at (h : x.length ≤ 100000) : smA .split (.str x) (.str (Str.ofString " ")) H = .ok (.ref H.length) (H ++ [.list true ((Txt.split x SP).map .str)]) := by
  rw [SP_eq]
  show chk (splitOk x SP) _ = _
  rw [split_ok h]; rfl
theorem strsOf_map : ∀ ys : List Str, strsOf (ys.map .str) = some ys
  | [] => rfl
  | y :: r => by
    show (some y).bind (fun x => (strsOf (r.map .str)).map (x :: ·)) = _
    rw [strsOf_map r]; rfl
theorem join_at {i : Nat} {mt : Bool} {ys : List Str} (h : H[i]? = some (.list mt (ys.map .str))) (hl : (ys.map (·.length)).sum + ys.length ≤ 100000) : smA .join (.str (Str.ofString " ")) (.ref i) H = .ok (.str (Str.join SP ys)) H := by
  rw [SP_eq]
  show optR ((lstOf (.ref i) H).bind strsOf) _ = _
  rw [lst_ref h]
  show optR (strsOf (ys.map .str)) _ = _
  rw [strsOf_map]
  show chk (decide _) _ = _
  rw [decide_eq_true (show (ys.map (·.length)).sum + ys.length * SP.length ≤ 16777216 by show _ + ys.length * 1 ≤ _; decreasing_trivial)]; rfl
end
end Mine

/-! ## part S5 -/
namespace Mine
open PySem PySem.NumText

noncomputable def cntD : List (Str × Int) := [("add", 3), ("fill", 3), ("total", 2), ("least", 2), ("place", 2), ("first", 2), ("list", 2), ("back", 0)]
/-- the functions and the constants at hand -/
structure PK (P : Pg) : Prop where
  shown : P.fns.lookup ("shown" : Str) = some f_shown
  num : P.fns.lookup ("number_of" : Str) = some f_number_of
  read : P.fns.lookup ("read" : Str) = some f_read
  whole : P.fns.lookup ("_law_whole" : Str) = some f_law_whole
  cell : P.fns.lookup ("_law_cell_at" : Str) = some f_law_cell_at
  word : P.fns.lookup ("_law_word_by" : Str) = some f_law_word_by
  count : P.fns.lookup ("_law_count" : Str) = some f_law_count
  figs : P.fns.lookup ("_law_figures_by" : Str) = some f_law_figures_by
  signs : P.fns.lookup ("_law_signs" : Str) = some f_law_signs
  lnum : P.fns.lookup ("_law_number_of" : Str) = some f_law_number_of
  deed : P.fns.lookup ("_law_deed_of" : Str) = some f_law_deed_of
  ref : P.fns.lookup ("_law_refused_by_any" : Str) = some f_law_refused_by_any
  fg : P.cst.lookup ("FIGURES" : Str) = some (.str "0123456789")
  fd : P.dct.lookup ("FIGURES" : Str) = none
  cd : P.dct.lookup ("COUNTS" : Str) = some cntD
theorem pk : PK PP := ⟨rfl, rfl, rfl, rfl, rfl, rfl, rfl, rfl, rfl, rfl, rfl, rfl, rfl, rfl, rfl⟩

theorem take_minus (l : List Nat) : (tx (l.take 1) == Str.ofString "-") = mns l := by
  rw [minus_eq]
  cases l with
  | nil => rfl
  | cons c r =>
    show (tx [c] == ⟨#[45]⟩) = (some c == some 45)
    by_cases q : c = 45
    · subst q; rfl
    · have : (tx [c] == (⟨#[45]⟩ : Str)) = false := by
        rw [beq_eq_false_iff_ne]
        intro e
        have := congrArg (fun s : Str => s.cps.toList) e
        exact q (by simpa [tx] using this)
      rw [this]; simp [q]
theorem fig_drop {l : List Nat} (h : mns l = true) : l.drop 1 = fig l := by
  unfold fig; rw [h]; simp
theorem tx_eq {a b : List Nat} : (tx a == tx b) = decide (a = b) := by
  by_cases h : a = b
  · subst h; simp
  · rw [decide_eq_false h, beq_eq_false_iff_ne]
    intro e
    exact h (congrArg (fun s : Str => s.cps.toList) e)
theorem lit0 : Str.ofString "" = tx [] := by decide +kernel
theorem litz : Str.ofString "0" = tx [48] := by decide +kernel
theorem litmz : Str.ofString "-0" = tx [45, 48] := by decide +kernel
theorem fig_asc {l : List Nat} (h : ∀ c ∈ l, c < 128) : ∀ c ∈ fig l, c < 128 := by
  intro c hc
  unfold fig at hc
  split at hc
  · exact h c (List.mem_of_mem_tail hc)
  · exact h c hc
theorem fig_len {l : List Nat} : (fig l).length ≤ l.length := by
  unfold fig
  split
  · rw [List.length_tail]; decreasing_trivial
  · exact Nat.le_refl _

section
variable {P : Pg} {Φ : Calls} {H : AH} {a b : Option AV}
/-- over the figures, where a sign that is none stops -/
theorem fig_loop {y : List Nat} {run : Rho → AH → Res Fl} (hy : ∀ c ∈ y, c < 128) (h1 : ∀ (c : Nat), c < 128 → isFig c = true → run [a, b, some (.str ⟨#[c]⟩)] H = .ok (.next [a, b, some (.str ⟨#[c]⟩)]) H) (h2 : ∀ (c : Nat), c < 128 → isFig c = false → run [a, b, some (.str ⟨#[c]⟩)] H = .ok (.ret .none) H) :
    ∀ (r k : Nat) (v : Option AV), k + r = y.length → ((y.drop k).all isFig = true → ∃ v', loopA (.txt (tx y)) 2 run r k [a, b, v] H = .ok (.next [a, b, v']) H) ∧ ((y.drop k).all isFig = false → loopA (.txt (tx y)) 2 run r k [a, b, v] H = .ok (.ret .none) H)
  | 0, k, v, hk => by
    rw [List.drop_eq_nil_of_le (by decreasing_trivial)]
    exact ⟨fun _ => ⟨v, l_end (it := .txt (tx y)) rfl⟩, fun h => by cases h⟩
  | r + 1, k, v, hk => by
    have hlt : k < y.length := by decreasing_trivial
    have hg : y[k]? = some y[k] := List.getElem?_eq_getElem hlt
    have hc := hy _ (List.getElem_mem hlt)
    have it1 : ((It.txt (tx y)).all H).bind (·[k]?) = some (.str ⟨#[y[k]]⟩) := sgs_at (x := tx y) hg
    rw [List.drop_eq_getElem_cons hlt, List.all_cons]
    cases hf : isFig y[k] with
    | true =>
      obtain ⟨i1, i2⟩ := fig_loop hy h1 h2 r (k + 1) (some (.str ⟨#[y[k]]⟩)) (by decreasing_trivial)
      refine ⟨fun h => ?_, fun h => ?_⟩
      · obtain ⟨v', e⟩ := i1 (by simpa using h)
        exact ⟨v', l_next it1 (h1 _ hc hf) e⟩
      · exact l_next it1 (h1 _ hc hf) (i2 (by simpa using h))
    | false => exact ⟨fun h => by simp at h, fun _ => l_ret it1 (h2 _ hc hf)⟩
end

noncomputable def numAV : Option Int → AV
  | none => .none
  | some n => .int n

section
variable {P : Pg} {H : AH} {x : Str} {n : Nat}
theorem lawNum (K : PK P) (hx : Asc x) (hl : x.length ≤ 400) : callN P (n + 1) "_law_number_of" [.str x] H = .ok (numAV (numV x.cps.toList)) H := by
  generalize hL : x.cps.toList = l
  have hxl : x = tx l := by rw [← hL, tx_list]
  subst hxl
  have hA : ∀ c ∈ l, c < 128 := hx
  have hll : l.length ≤ 400 := by rw [← tx_length]; exact hl
  have hfa := fig_asc hA
  have hfl : (fig l).length ≤ 400 := Nat.le_trans fig_len hll
  have s1 : ex P (callN P n) (.assign 1 (.var 0)) [some (.str (tx l)), none, none] H = .ok (.next [some (.str (tx l)), some (.str (tx l)), none]) H := x_assign (e_var rfl)
  have s2 : ex P (callN P n) (.ite (.cmp .eq (.slU (.var 0) (.cI 1)) (.cS "-")) [.assign 1 (.slF (.var 0) (.cI 1))] []) [some (.str (tx l)), some (.str (tx l)), none] H = .ok (.next [some (.str (tx l)), some (.str (tx (fig l))), none]) H := by
    refine x_if (e_cmp (e_slU (e_var rfl) e_cI (slU_str (k := 1) (by decreasing_trivial))) e_cS (eq_str (Asc.tx fun c hc => hA c (List.mem_of_mem_take hc)) (asc_of (by decide +kernel)))) ?_
    rw [show (tx ((tx l).cps.toList.take 1) == Str.ofString "-") = mns l from take_minus l]
    cases hm : mns l with
    | true =>
      refine x_seq (x_assign (e_slF (e_var rfl) e_cI (slF_str (k := 1) (by decreasing_trivial)))) ?_
      show exs P _ [] [some (.str (tx l)), some (.str (tx (l.drop 1))), none] H = _
      rw [fig_drop hm]; rfl
    | false => rw [fig_no hm]; rfl
  have hT : ∃ T : Bool, (T = true ↔ (fig l = [] ∨ l = [45, 48] ∨ (1 < (fig l).length ∧ (fig l).head? = some 48))) ∧ ev P (callN P n) (.or_ (.cmp .eq (.var 1) (.cS "")) (.or_ (.cmp .eq (.var 0) (.cS "-0")) (.and_ (.cmp .gt (.bi .len [(.var 1)]) (.cI 1)) (.cmp .eq (.idx (.var 1) (.cI 0)) (.cS "0"))))) [some (.str (tx l)), some (.str (tx (fig l))), none] H = .ok (.bool T) H := by
    have c1 : ev P (callN P n) (.cmp .eq (.var 1) (.cS "")) [some (.str (tx l)), some (.str (tx (fig l))), none] H = .ok (.bool (decide (fig l = []))) H :=
      e_cmp (e_var rfl) e_cS ((eq_str (Asc.tx hfa) (asc_of (by decide +kernel))).trans (by rw [lit0, tx_eq]))
    have c2 : ev P (callN P n) (.cmp .eq (.var 0) (.cS "-0")) [some (.str (tx l)), some (.str (tx (fig l))), none] H = .ok (.bool (decide (l = [45, 48]))) H :=
      e_cmp (e_var rfl) e_cS ((eq_str hx (asc_of (by decide +kernel))).trans (by rw [litmz, tx_eq]))
    by_cases q1 : fig l = []
    · exact ⟨true, ⟨fun _ => .inl q1, fun _ => rfl⟩, e_orT (c1.trans (by rw [decide_eq_true q1]))⟩
    · by_cases q2 : l = [45, 48]
      · exact ⟨true, ⟨fun _ => .inr (.inl q2), fun _ => rfl⟩, e_orF (c1.trans (by rw [decide_eq_false q1])) (e_orT (c2.trans (by rw [decide_eq_true q2])))⟩
      · have c3 : ev P (callN P n) (.bi .len [(.var 1)]) [some (.str (tx l)), some (.str (tx (fig l))), none] H = .ok (.int (fig l).length) H := by
          refine e_bi (es_1 (e_var rfl)) ((len_str (by rw [tx_length]; decreasing_trivial)).trans ?_)
          rw [tx_length]
        by_cases q3 : 1 < (fig l).length
        · obtain ⟨c, r, hc⟩ : ∃ c r, fig l = c :: r := by
            cases hf : fig l with
            | nil => exact absurd hf q1
            | cons c r => exact ⟨c, r, rfl⟩
          refine ⟨decide (c = 48), ⟨fun h => .inr (.inr ⟨q3, by rw [hc, of_decide_eq_true h]; rfl⟩), fun h => ?_⟩, e_orF (c1.trans (by rw [decide_eq_false q1])) (e_orF (c2.trans (by rw [decide_eq_false q2])) (e_andT (e_cmp c3 e_cI (gt_yes (by decreasing_trivial))) (e_cmp (e_idx rfl (e_var rfl) e_cI (idx_str (k := 0) rfl (by decide) (by show (fig l)[0]? = _; rw [hc]; rfl))) e_cS ((eq_str (Asc.sg (hfa c (by rw [hc]; exact .head _))) (asc_of (by decide +kernel))).trans ?_))))⟩
          · rcases h with h | h | ⟨_, h⟩
            · exact absurd h q1
            · exact absurd h q2
            · rw [hc] at h
              cases h
              rfl
          · rw [litz]
            show Res.ok (AV.bool (tx [c] == tx [48])) H = _
            rw [tx_eq]
            by_cases q : c = 48 <;> simp [q]
        · have hn : (fig l = [] ∨ l = [45, 48] ∨ (1 < (fig l).length ∧ (fig l).head? = some 48)) → false = true := fun h => by
            rcases h with h | h | ⟨h, _⟩
            · exact absurd h q1
            · exact absurd h q2
            · exact absurd h q3
          exact ⟨false, ⟨(fun h => by cases h), hn⟩, e_orF (c1.trans (by rw [decide_eq_false q1])) (e_orF (c2.trans (by rw [decide_eq_false q2])) (e_andF (e_cmp c3 e_cI (gt_no (by decreasing_trivial)))))⟩
  obtain ⟨T, hTi, hTe⟩ := hT
  refine callN_at K.lnum rfl (fl := .ret (numAV (numV l))) (x_seq s1 (x_seq s2 ?_))
  cases T with
  | true =>
    have e0 : numV l = none := by
      unfold numV
      by_cases q1 : fig l = []
      · rw [if_pos q1]
      · rw [if_neg q1]
        by_cases q2 : (!((fig l).all isFig)) = true
        · rw [if_pos q2]
        · rw [if_neg q2]
          rcases (lawTest (allFig.mp (by simpa using q2))).mp (hTi.mp rfl) with q | q
          · exact absurd q q1
          · rw [if_pos q]
    rw [e0]
    exact x_stop (x_if hTe (x_stop (x_ret e_cN)))
  | false =>
    have hno : ¬ (fig l = [] ∨ l = [45, 48] ∨ (1 < (fig l).length ∧ (fig l).head? = some 48)) := fun h => by have := hTi.mpr h; cases this
    refine x_seq (x_not hTe) ?_
    have hb1 : ∀ c, c < 128 → isFig c = true → exs P (callN P n) [.ite (.cin true (.var 2) (.cS "0123456789")) [.ret .cN] []] [some (.str (tx l)), some (.str (tx (fig l))), some (.str ⟨#[c]⟩)] H = .ok (.next [some (.str (tx l)), some (.str (tx (fig l))), some (.str ⟨#[c]⟩)]) H := fun c hc hf =>
      x_seq (x_not (e_cin rfl (e_var rfl) e_cS ((cin_fig hc).trans (congrArg (fun b => Res.ok (AV.bool (!b)) H) hf)))) rfl
    have hb2 : ∀ c, c < 128 → isFig c = false → exs P (callN P n) [.ite (.cin true (.var 2) (.cS "0123456789")) [.ret .cN] []] [some (.str (tx l)), some (.str (tx (fig l))), some (.str ⟨#[c]⟩)] H = .ok (.ret .none) H := fun c hc hf =>
      x_stop (x_if (c := true) (e_cin rfl (e_var rfl) e_cS ((cin_fig hc).trans (congrArg (fun b => Res.ok (AV.bool (!b)) H) hf))) (x_stop (x_ret e_cN)))
    obtain ⟨L1, L2⟩ := fig_loop (y := fig l) (H := H) hfa hb1 hb2 (fig l).length 0 none (Nat.zero_add _)
    have hit : evI P (callN P n) (.seq (.var 1)) [some (.str (tx l)), some (.str (tx (fig l))), none] H = .ok (.txt (tx (fig l))) H := i_seq (e_var rfl) (it_str (Asc.tx hfa) (by rw [tx_length]; decreasing_trivial))
    have hlen : (It.txt (tx (fig l))).len = (fig l).length := sgs_len
    cases hall : (fig l).all isFig with
    | true =>
      obtain ⟨v', e⟩ := L1 (by rw [List.drop_zero]; exact hall)
      have h2 := allFig.mp hall
      have h3 : ¬ ((fig l).head? = some 48 ∧ l ≠ [48]) := fun q => hno ((lawTest h2).mpr (.inr q))
      obtain ⟨m, e1, e2⟩ := numV_all (fun q => hno (.inl q)) h2 h3 hll
      rw [e1]
      exact x_seq (x_for hit (by rw [hlen]; exact e)) (x_stop (x_ret (e_toInt (e_var rfl) (int_str (by decreasing_trivial) e2))))
    | false =>
      have e0 : numV l = none := by
        unfold numV
        rw [if_neg fun q => hno (.inl q), hall]; rfl
      rw [e0]
      exact x_stop (x_for hit (by rw [hlen]; exact L2 (by rw [List.drop_zero]; exact hall)))
end
end Mine

/-! ## part S6 -/
namespace Mine
open PySem PySem.NumText

section
variable {P : Pg} {Φ : Calls} {H : AH} {a b : Option AV}
theorem fig_to {y : List Nat} {body : List MS} (hy : ∀ c ∈ y, c < 128) (h1 : ∀ (c : Nat), c < 128 → isFig c = true → exs P Φ body [a, b, some (.str ⟨#[c]⟩)] H = .ok (.next [a, b, some (.str ⟨#[c]⟩)]) H) :
    ∀ (j k : Nat) (v : Option AV), k + j ≤ y.length → (∀ i, k ≤ i → i < k + j → ∀ c, y[i]? = some c → isFig c = true) → ∃ v', LoopTo P Φ (.txt (tx y)) 2 body k j [a, b, v] H [a, b, v'] H
  | 0, k, v, _, _ => ⟨v, .done⟩
  | j + 1, k, v, hk, hf => by
    have hlt : k < y.length := by decreasing_trivial
    have hg : y[k]? = some y[k] := List.getElem?_eq_getElem hlt
    obtain ⟨v', e⟩ := fig_to hy h1 j (k + 1) (some (.str ⟨#[y[k]]⟩)) (by decreasing_trivial) fun i h2 h3 => hf i (by decreasing_trivial) (by decreasing_trivial)
    exact ⟨v', .step (v := .str ⟨#[y[k]]⟩) (sgs_at (x := tx y) hg) (h1 _ (hy _ (List.getElem_mem hlt)) (hf k (Nat.le_refl _) (by decreasing_trivial) _ hg)) e⟩
end
theorem first_bad : ∀ y : List Nat, y.all isFig = false → ∃ (k c : Nat), y[k]? = some c ∧ isFig c = false ∧ ∀ i : Nat, i < k → ∀ d, y[i]? = some d → isFig d = true
  | [], h => by cases h
  | c :: r, h => by
    cases hc : isFig c with
    | false => exact ⟨0, c, rfl, hc, fun i hi => absurd hi (Nat.not_lt_zero _)⟩
    | true =>
      obtain ⟨k, d, e1, e2, e3⟩ := first_bad r (by rw [List.all_cons, hc] at h; simpa using h)
      refine ⟨k + 1, d, by rw [List.getElem?_cons_succ]; exact e1, e2, fun i hi d' hd => ?_⟩
      cases i with
      | zero => cases hd; exact hc
      | succ i => rw [List.getElem?_cons_succ] at hd; exact e3 i (by decreasing_trivial) d' hd

section
variable {P : Pg} {H : AH} {l : List Nat} {n : Nat}
theorem num_s2 (hA : ∀ c ∈ l, c < 128) (hll : l.length ≤ 400) {Φ : Calls} : ex P Φ (.ite (.smeth .startswith (.var 0) (.cS "-")) [.assign 1 (.slF (.var 0) (.cI 1))] []) [some (.str (tx l)), some (.str (tx l)), none] H = .ok (.next [some (.str (tx l)), some (.str (tx (fig l))), none]) H := by
  refine x_if (e_sm (e_var rfl) e_cS sw_str) ?_
  show exs P _ (if mns l = true then _ else _) _ _ = _
  cases hm : mns l with
  | true =>
    refine x_seq (x_assign (e_slF (e_var rfl) e_cI (slF_str (k := 1) (by rw [tx_length]; decreasing_trivial)))) ?_
    show exs P _ [] [some (.str (tx l)), some (.str (tx (l.drop 1))), none] H = _
    rw [fig_drop hm]; rfl
  | false => rw [fig_no hm]; rfl
theorem num_s3 (hA : ∀ c ∈ l, c < 128) {Φ : Calls} : ev P Φ (.cmp .eq (.var 1) (.cS "")) [some (.str (tx l)), some (.str (tx (fig l))), none] H = .ok (.bool (decide (fig l = []))) H :=
  e_cmp (e_var rfl) e_cS ((eq_str (Asc.tx (fig_asc hA)) (asc_of (by decide +kernel))).trans (by rw [lit0, tx_eq]))
theorem num_s5 (hA : ∀ c ∈ l, c < 128) (hf : fig l ≠ []) {v : Option AV} {Φ : Calls} : ev P Φ (.and_ (.cmp .eq (.idx (.var 1) (.cI 0)) (.cS "0")) (.cmp .ne (.var 0) (.cS "0"))) [some (.str (tx l)), some (.str (tx (fig l))), v] H = .ok (.bool (decide ((fig l).head? = some 48 ∧ l ≠ [48]))) H := by
  obtain ⟨c, r, hc⟩ : ∃ c r, fig l = c :: r := by
    cases hf' : fig l with
    | nil => exact absurd hf' hf
    | cons c r => exact ⟨c, r, rfl⟩
  have c1 : ev P Φ (.cmp .eq (.idx (.var 1) (.cI 0)) (.cS "0")) [some (.str (tx l)), some (.str (tx (fig l))), v] H = .ok (.bool (decide (c = 48))) H := by
    refine e_cmp (e_idx rfl (e_var rfl) e_cI (idx_str (k := 0) (c := c) rfl (by decide) (by show (fig l)[0]? = _; rw [hc]; rfl))) e_cS ((eq_str (Asc.sg (fig_asc hA c (by rw [hc]; exact .head _))) (asc_of (by decide +kernel))).trans ?_)
    rw [litz]
    show Res.ok (AV.bool (tx [c] == tx [48])) H = _
    rw [tx_eq]
    by_cases q : c = 48 <;> simp [q]
  by_cases q : c = 48
  · rw [decide_eq_true q] at c1
    refine (e_andT c1 (e_cmp (e_var rfl) e_cS ((ne_str (Asc.tx hA) (asc_of (by decide +kernel))).trans ?_)))
    rw [litz, tx_eq, hc, q]
    by_cases z : l = [48] <;> simp [z]
  · rw [decide_eq_false q] at c1
    refine (e_andF c1).trans ?_
    rw [hc]
    simp [q]
theorem num_b1 (K : PK P) {a b : Option AV} {Φ : Calls} (c : Nat) (hc : c < 128) (hf : isFig c = true) : exs P Φ [.ite (.cin true (.var 2) (.glob "FIGURES")) [.raise "NoDeed"] []] [a, b, some (.str ⟨#[c]⟩)] H = .ok (.next [a, b, some (.str ⟨#[c]⟩)]) H :=
  x_seq (x_not (e_cin K.fd (e_var rfl) (e_glob K.fg) ((cin_fig hc).trans (congrArg (fun b => Res.ok (AV.bool (!b)) H) hf)))) rfl
theorem fig_next {y : List Nat} {a b : Option AV} {run : Rho → AH → Res Fl} (hy : ∀ c ∈ y, c < 128) (h1 : ∀ (c : Nat), c < 128 → isFig c = true → run [a, b, some (.str ⟨#[c]⟩)] H = .ok (.next [a, b, some (.str ⟨#[c]⟩)]) H) :
    ∀ (r k : Nat) (v : Option AV), k + r = y.length → (y.drop k).all isFig = true → ∃ v', loopA (.txt (tx y)) 2 run r k [a, b, v] H = .ok (.next [a, b, v']) H
  | 0, k, v, hk, _ => ⟨v, l_end (it := .txt (tx y)) rfl⟩
  | r + 1, k, v, hk, h => by
    have hlt : k < y.length := by decreasing_trivial
    have hg : y[k]? = some y[k] := List.getElem?_eq_getElem hlt
    rw [List.drop_eq_getElem_cons hlt, List.all_cons, Bool.and_eq_true] at h
    obtain ⟨v', e⟩ := fig_next hy h1 r (k + 1) (some (.str ⟨#[y[k]]⟩)) (by decreasing_trivial) h.2
    exact ⟨v', l_next (sgs_at (x := tx y) hg : ((It.txt (tx y)).all H).bind (·[k]?) = _) (h1 _ (hy _ (List.getElem_mem hlt)) h.1) e⟩

theorem num_ok (K : PK P) (hA : ∀ c ∈ l, c < 128) (hll : l.length ≤ 400) {m : Int} (h : numV l = some m) : callN P (n + 1) "number_of" [.str (tx l)] H = .ok (.int m) H := by
  obtain ⟨h1, h2, h3, h4⟩ := numV_inv h
  have hfa := fig_asc hA
  have hfl : (fig l).length ≤ 400 := Nat.le_trans fig_len hll
  obtain ⟨v', e⟩ := fig_next (H := H) (a := some (.str (tx l))) (b := some (.str (tx (fig l)))) hfa (num_b1 (Φ := callN P n) K) (fig l).length 0 none (Nat.zero_add _) (by rw [List.drop_zero]; exact allFig.mpr h2)
  have s5 : ev P (callN P n) (.and_ (.cmp .eq (.idx (.var 1) (.cI 0)) (.cS "0")) (.cmp .ne (.var 0) (.cS "0"))) [some (.str (tx l)), some (.str (tx (fig l))), v'] H = .ok (.bool false) H := by
    rw [num_s5 hA h1, decide_eq_false]
    rintro ⟨z1, z2⟩
    exact h3.elim (fun q => q z1) z2
  have s4 : loopA (It.txt (tx (fig l))) 2 (exs P (callN P n) [MS.ite (ME.cin true (ME.var 2) (ME.glob "FIGURES")) [MS.raise "NoDeed"] []]) (It.txt (tx (fig l))).len 0 [some (AV.str (tx l)), some (AV.str (tx (fig l))), none] H = .ok (.next [some (.str (tx l)), some (.str (tx (fig l))), v']) H := by
    rw [show (It.txt (tx (fig l))).len = (fig l).length from sgs_len]; exact e
  exact callN_at K.num rfl (fl := .ret (.int m)) (x_seq (x_assign (e_var rfl)) (x_seq (num_s2 hA hll) (x_seq (x_not ((num_s3 hA).trans (by rw [decide_eq_false h1]))) (x_seq (x_for (i_seq (e_var rfl) (it_str (Asc.tx hfa) (by rw [tx_length]; decreasing_trivial))) s4) (x_seq (x_not s5) (x_stop (x_ret (e_toInt (e_var rfl) (int_str (by rw [tx_length]; decreasing_trivial) h4)))))))))
theorem num_no (K : PK P) (hA : ∀ c ∈ l, c < 128) (hll : l.length ≤ 400) (h : numV l = none) : RxF P (n + 1) "number_of" [.str (tx l)] H "NoDeed" H := by
  have hfa := fig_asc hA
  have hfl : (fig l).length ≤ 400 := Nat.le_trans fig_len hll
  have hd := K.num
  by_cases q1 : fig l = []
  · exact ⟨f_number_of, _, _, hd, rfl, .later (x_assign (e_var rfl)) (.later (num_s2 hA hll) (.ite ((num_s3 hA).trans (by rw [decide_eq_true q1])) .raise))⟩
  · have s3 : ex P (callN P n) (.ite (.cmp .eq (.var 1) (.cS "")) [.raise "NoDeed"] []) [some (.str (tx l)), some (.str (tx (fig l))), none] H = .ok (.next [some (.str (tx l)), some (.str (tx (fig l))), none]) H := x_not ((num_s3 hA).trans (by rw [decide_eq_false q1]))
    have hit : evI P (callN P n) (.seq (.var 1)) [some (.str (tx l)), some (.str (tx (fig l))), none] H = .ok (.txt (tx (fig l))) H := i_seq (e_var rfl) (it_str (Asc.tx hfa) (by rw [tx_length]; decreasing_trivial))
    cases hall : (fig l).all isFig with
    | false =>
      obtain ⟨k, c, e1, e2, e3⟩ := first_bad _ hall
      have hk := (List.getElem?_eq_some_iff.mp e1).1
      have hc : c < 128 := hfa c (List.mem_of_getElem? e1)
      obtain ⟨v', e⟩ := fig_to (H := H) (Φ := callN P n) (a := some (.str (tx l))) (b := some (.str (tx (fig l)))) hfa (num_b1 K) k 0 none (by decreasing_trivial) fun i _ hi => e3 i (by decreasing_trivial)
      exact ⟨f_number_of, _, _, hd, rfl, .later (x_assign (e_var rfl)) (.later (num_s2 hA hll) (.later s3 (.for_ hit e (v := .str ⟨#[c]⟩) (sgs_at (x := tx (fig l)) e1) (.ite (t := true) (e_cin K.fd (e_var rfl) (e_glob K.fg) ((cin_fig hc).trans (congrArg (fun b => Res.ok (AV.bool (!b)) H) e2))) .raise))))⟩
    | true =>
      have hbad : (fig l).head? = some 48 ∧ l ≠ [48] := Classical.byContradiction fun z => by
        obtain ⟨m, e, _⟩ := numV_all q1 (allFig.mp hall) z hll
        rw [h] at e; cases e
      obtain ⟨v', e⟩ := fig_next (H := H) (a := some (.str (tx l))) (b := some (.str (tx (fig l)))) hfa (num_b1 (Φ := callN P n) K) (fig l).length 0 none (Nat.zero_add _) (by rw [List.drop_zero]; exact hall)
      exact ⟨f_number_of, _, _, hd, rfl, .later (x_assign (e_var rfl)) (.later (num_s2 hA hll) (.later s3 (.later (x_for hit (by rw [show (It.txt (tx (fig l))).len = (fig l).length from sgs_len]; exact e)) (.ite ((num_s5 (v := v') hA q1).trans (by rw [decide_eq_true hbad])) .raise))))⟩
end
end Mine

/-! ## part S7 -/
namespace Mine
open PySem PySem.NumText

noncomputable def numS (p : Str) : Option Int := numV p.cps.toList
/-- what a line says -/
noncomputable def deedW (ps : List Str) : Option (Str × List Int) := match ps with
  | [] => none
  | w :: r => if cntD.lookup w = some (r.length : Int) then (optAll numS r).map fun ns => (w, ns) else none
noncomputable def deedV (x : Str) : Option (Str × List Int) := deedW (Txt.split x SP)

theorem mem_join : ∀ (ps : List Str) (p : Str), p ∈ ps → ∀ c ∈ p.cps.toList, c ∈ (Str.join SP ps).cps.toList
  | [], p, h => by cases h
  | [q], p, h => by
    rw [List.mem_singleton.mp h]
    exact fun c hc => hc
  | q :: q2 :: r, p, h => fun c hc => by
    have e : (Str.join SP (q :: q2 :: r)).cps.toList = q.cps.toList ++ [32] ++ (Str.join SP (q2 :: r)).cps.toList := by
      show (q ++ SP ++ Str.join SP (q2 :: r)).cps.toList = _
      rw [Str.cps_append, Str.cps_append, Array.toList_append, Array.toList_append]
    rw [e]
    rcases List.mem_cons.mp h with rfl | h
    · exact List.mem_append_left _ (List.mem_append_left _ hc)
    · exact List.mem_append_right _ (mem_join (q2 :: r) p h c hc)
structure Parts (x : Str) (ps : List Str) : Prop where
  asc : ∀ p ∈ ps, Asc p
  len : ∀ p ∈ ps, p.length ≤ x.length
  num : ps.length ≤ x.length + 1
  sum : (ps.map (·.length)).sum + ps.length ≤ x.length + 1
  ne : ps ≠ []
  join : Str.join SP ps = x
theorem sum_mem {ps : List Str} {p : Str} (h : p ∈ ps) : p.length ≤ (ps.map (·.length)).sum := by
  induction ps with
  | nil => cases h
  | cons q r ih =>
    rw [List.map_cons, List.sum_cons]
    rcases List.mem_cons.mp h with rfl | h
    · decreasing_trivial
    · have := ih h; decreasing_trivial
theorem parts_of {x : Str} (hx : Asc x) : Parts x (Txt.split x SP) := by
  have hw := PyProof.Rows.split_weight x SP (Nat.le_refl 1)
  have hj := StrLaws.join_split x SP
  refine ⟨fun p hp c hc => hx c (by rw [← hj]; exact mem_join _ p hp c hc), fun p hp => ?_, by decreasing_trivial, hw, fun e => ?_, hj⟩
  · have := sum_mem hp
    have h1 : 0 < (Txt.split x SP).length := List.length_pos_of_mem hp
    decreasing_trivial
  · have := PyProof.Rows.split_pos x SP
    rw [e] at this; exact absurd this (by decide)

theorem optAll_cons {α β : Type} {f : α → Option β} {a : α} {r : List α} : optAll f (a :: r) = (f a).bind fun x => (optAll f r).map (x :: ·) := rfl
theorem optAll_none {α β : Type} {f : α → Option β} : ∀ {l : List α}, optAll f l = none → ∃ pre p post ys, l = pre ++ p :: post ∧ optAll f pre = some ys ∧ f p = none
  | [], h => by cases h
  | a :: r, h => by
    rw [optAll_cons] at h
    cases ha : f a with
    | none => exact ⟨[], a, r, [], rfl, rfl, ha⟩
    | some x =>
      rw [ha] at h
      have h : (optAll f r).map (x :: ·) = none := h
      obtain ⟨pre, p, post, ys, e1, e2, e3⟩ := optAll_none (Option.map_eq_none_iff.mp h)
      refine ⟨a :: pre, p, post, x :: ys, by rw [e1]; rfl, ?_, e3⟩
      rw [optAll_cons, ha, e2]; rfl
theorem optAll_len {α β : Type} {f : α → Option β} : ∀ {l : List α} {ys : List β}, optAll f l = some ys → ys.length = l.length
  | [], ys, h => by cases h; rfl
  | a :: r, ys, h => by
    obtain ⟨x, _, h⟩ := bind_some h
    obtain ⟨zs, h', rfl⟩ := Option.map_eq_some_iff.mp h
    rw [List.length_cons, List.length_cons, optAll_len h']

/-! a loop by its turns -/
theorem loop_of {P : Pg} {Φ : Calls} {it : It} {x : Nat} {body : List MS} {k j : Nat} {ρ ρ' : Rho} {H H' : AH} (h : LoopTo P Φ it x body k j ρ H ρ' H') : ∀ r, loopA it x (exs P Φ body) (j + r) k ρ H = loopA it x (exs P Φ body) r (k + j) ρ' H' := by
  induction h with
  | done => intro r; rw [Nat.zero_add, Nat.add_zero]
  | @step k j v ρ ρ₁ ρ' H H₁ H' h1 h2 h3 ih =>
    intro r
    have e : j + 1 + r = (j + r) + 1 := by decreasing_trivial
    rw [e]
    have := ih r
    rw [show k + 1 + j = k + (j + 1) by decreasing_trivial] at this
    exact l_next h1 h2 this
theorem loop_all {P : Pg} {Φ : Calls} {it : It} {x : Nat} {body : List MS} {n : Nat} {ρ ρ' : Rho} {H H' : AH} {ys : List AV} (h : LoopTo P Φ it x body 0 n ρ H ρ' H') (hl : it.len = n) (he : it.all H' = some ys) : loopA it x (exs P Φ body) it.len 0 ρ H = .ok (.next ρ') H' := by
  have := loop_of h 0
  rw [Nat.add_zero] at this
  rw [hl, this]
  exact l_end he

/-! three lists behind the heap -/
noncomputable def H3 (H : AH) (a b c : List AV) : AH := H ++ [.list true a, .list true b, .list true c]
section
variable {H : AH} {a b c d : List AV}
theorem h3a : (H3 H a b c)[H.length]? = some (.list true a) := at_len
theorem h3b : (H3 H a b c)[H.length + 1]? = some (.list true b) := by
  unfold H3
  rw [List.getElem?_append_right (by decreasing_trivial), show H.length + 1 - H.length = 1 by decreasing_trivial]; rfl
theorem h3c : (H3 H a b c)[H.length + 2]? = some (.list true c) := by
  unfold H3
  rw [List.getElem?_append_right (by decreasing_trivial), show H.length + 2 - H.length = 2 by decreasing_trivial]; rfl
theorem h3set : (H3 H a b c).set (H.length + 1) (.list true d) = H3 H a d c := by
  unfold H3
  rw [List.set_append_right _ _ (by decreasing_trivial), show H.length + 1 - H.length = 1 by decreasing_trivial]; rfl
theorem h3len : (H3 H a b c).length = H.length + 3 := by unfold H3; rw [List.length_append]; rfl
end

section
variable {P : Pg} {H : AH} {n : Nat}
/-- the numbers behind the word -/
theorem read_to (K : PK P) {r : List Str} {line : AV} {w : AV} {ps : List AV} (hr : ∀ p ∈ r, Asc p ∧ p.length ≤ 400) (hrl : r.length ≤ 1000) : ∀ (rs : List Str) (ns : List Int) (k : Nat) (ds : List AV) (v : Option AV) (post : List Str), r.drop k = rs ++ post → optAll numS rs = some ns → ds.length + rs.length ≤ 1000 →
    ∃ v', LoopTo P (callN P (n + 1)) (.seq false (H.length + 2) r.length) 4 [.expr (.meth .append (.var 3) (.call "number_of" [(.var 4)]))] k rs.length [some line, some (.ref H.length), some w, some (.ref (H.length + 1)), v] (H3 H ps ds (r.map .str)) [some line, some (.ref H.length), some w, some (.ref (H.length + 1)), v'] (H3 H ps (ds ++ ns.map .int) (r.map .str))
  | [], ns, k, ds, v, post, h, e, _ => by
    cases e
    exact ⟨v, by rw [List.map_nil, List.append_nil]; exact .done⟩
  | p :: rs, ns, k, ds, v, post, h, e, hd => by
    obtain ⟨m, e1, e2⟩ := bind_some e
    obtain ⟨ms, e3, rfl⟩ := Option.map_eq_some_iff.mp e2
    have hk : r[k]? = some p := by
      have := congrArg (·[0]?) h
      rw [List.getElem?_drop] at this
      simpa using this
    have hp := hr p (List.mem_of_getElem? hk)
    have hdr : r.drop (k + 1) = rs ++ post := by
      rw [← List.drop_drop, h]; rfl
    have hc : callN P (n + 1) "number_of" [.str p] (H3 H ps ds (r.map .str)) = .ok (.int m) (H3 H ps ds (r.map .str)) := by
      have := num_ok (n := n) (H := H3 H ps ds (r.map .str)) K hp.1 (by rw [list_len]; exact hp.2) e1
      rwa [tx_list] at this
    obtain ⟨v', L⟩ := read_to (line := line) (w := w) (ps := ps) K hr hrl rs ms (k + 1) (ds ++ [.int m]) (some (.str p)) post hdr e3 (by rw [List.length_append, List.length_singleton]; rw [List.length_cons] at hd; decreasing_trivial)
    refine ⟨v', .step (v := .str p) ?_ (x_seq (x_expr (e_meth (e_var rfl) (isLst_ref h3b) (e_call K.num (es_1 (e_var rfl)) hc) ((append_at h3b (by rw [List.length_cons] at hd; decreasing_trivial)).trans (by rw [h3set])))) rfl) ?_⟩
    · rw [show r.length = (r.map AV.str).length from (List.length_map ..).symm, all_at h3c]
      show (r.map AV.str)[k]? = _
      rw [List.getElem?_map, hk]; rfl
    · rw [List.append_assoc] at L
      exact L

theorem read_head {x : Str} {Φ : Calls} (hx : Asc x) (hl : x.length ≤ 400) {w : Str} {r : List Str} (hs : Txt.split x SP = w :: r) : exs P Φ [.assign 1 (.smeth .split (.var 0) (.cS " ")), .assign 2 (.idx (.var 1) (.cI 0))] [some (.str x), none, none, none, none] H = .ok (.next [some (.str x), some (.ref H.length), some (.str w), none, none]) (H ++ [.list true ((w :: r).map .str)]) := by
  have e1 := split_at (H := H) (x := x) (by decreasing_trivial)
  rw [hs] at e1
  exact x_seq (x_assign (e_sm (e_var rfl) e_cS e1)) (x_seq (x_assign (e_idx rfl (e_var rfl) e_cI (idx_at at_len (n := 0) rfl (by decide) rfl))) rfl)
end
end Mine

/-! ## part S8 -/
namespace Mine
open PySem PySem.NumText

section
variable {P : Pg} {Φ : Calls} {H : AH} {n : Nat}
theorem exs_app : ∀ {a b : List MS} {ρ ρ' : Rho} {H H' : AH}, exs P Φ a ρ H = .ok (.next ρ') H' → exs P Φ (a ++ b) ρ H = exs P Φ b ρ' H'
  | [], b, ρ, ρ', H, H', h => by cases h; rfl
  | t :: r, b, ρ, ρ', H, H', h => by
    have h : ((ex P Φ t ρ H).bind fun fl H₁ => match fl with
      | .next ρ' => exs P Φ r ρ' H₁
      | .ret v => .ok (.ret v) H₁) = .ok (.next ρ') H' := h
    cases q : ex P Φ t ρ H with
    | stuck => rw [q] at h; cases h
    | ok fl H₁ =>
      rw [q] at h
      cases fl with
      | ret v => cases h
      | next ρ₁ => exact (x_seq q rfl).trans (exs_app (a := r) h)
theorem rxL_app {F : Str → List AV → AH → Str → AH → Prop} {c : Str} {ρo : Rho} {fl : Bool} {H₂ : AH} : ∀ {a b : List MS} {ρ ρ' : Rho} {H H' : AH}, exs P Φ a ρ H = .ok (.next ρ') H' → RxL P Φ F b ρ' H' c H₂ ρo fl → RxL P Φ F (a ++ b) ρ H c H₂ ρo fl
  | [], b, ρ, ρ', H, H', h, k => by cases h; exact k
  | t :: r, b, ρ, ρ', H, H', h, k => by
    have h : ((ex P Φ t ρ H).bind fun fl H₁ => match fl with
      | .next ρ' => exs P Φ r ρ' H₁
      | .ret v => .ok (.ret v) H₁) = .ok (.next ρ') H' := h
    cases q : ex P Φ t ρ H with
    | stuck => rw [q] at h; cases h
    | ok fl H₁ =>
      rw [q] at h
      cases fl with
      | ret v => cases h
      | next ρ₁ => exact .later q (rxL_app (a := r) h k)
theorem cnt_glob (K : PK P) : dctOf P (.glob "COUNTS") = some cntD := K.cd
theorem din_cnt (K : PK P) {ρ : Rho} {w : Str} (hw : ρ[2]?.join = some (.str w)) : ev P Φ (.cin true (.var 2) (.glob "COUNTS")) ρ H = .ok (.bool (!(cntD.lookup w).isSome)) H := e_din (cnt_glob K) (e_var hw) rfl
theorem dget_cnt (K : PK P) {ρ : Rho} {w : Str} {c : Int} (hw : ρ[2]?.join = some (.str w)) (hc : cntD.lookup w = some c) : ev P Φ (.idx (.glob "COUNTS") (.var 2)) ρ H = .ok (.int c) H := by
  refine e_dget (cnt_glob K) (e_var hw) ?_
  show optR (cntD.lookup w) _ = _
  rw [hc]; rfl
theorem len1 {ρ : Rho} {xs : List AV} {i : Nat} (hi : ρ[1]?.join = some (.ref i)) (h : H[i]? = some (.list true xs)) (hl : xs.length ≤ 1000000) : ev P Φ (.bin .sub (.bi .len [(.var 1)]) (.cI 1)) ρ H = .ok (.int ((xs.length : Int) - 1)) H :=
  e_bin (e_bi (es_1 (e_var hi)) (bi_len h hl)) e_cI rfl

/-- the parts that say a deed -/
theorem deedW_some {w : Str} {r : List Str} {w' : Str} {ns : List Int} (h : deedW (w :: r) = some (w', ns)) : w' = w ∧ cntD.lookup w = some (r.length : Int) ∧ optAll numS r = some ns := by
  unfold deedW at h
  simp only at h
  split at h
  · rename_i hc
    obtain ⟨ms, e, h⟩ := Option.map_eq_some_iff.mp h
    cases h
    exact ⟨rfl, hc, e⟩
  · cases h
theorem deedW_none {w : Str} {r : List Str} (h : deedW (w :: r) = none) : cntD.lookup w ≠ some (r.length : Int) ∨ (cntD.lookup w = some (r.length : Int) ∧ optAll numS r = none) := by
  unfold deedW at h
  simp only at h
  split at h
  · rename_i hc
    exact .inr ⟨hc, Option.map_eq_none_iff.mp h⟩
  · rename_i hc; exact .inl hc

section
variable {x w : Str} {r : List Str}
/-- read, up to the numbers -/
theorem read_mid (K : PK P) (hc : cntD.lookup w = some (r.length : Int)) (hrl : r.length ≤ 1000) : exs P Φ [.ite (.cin true (.var 2) (.glob "COUNTS")) [.raise "NoDeed"] [], .ite (.cmp .ne (.bin .sub (.bi .len [(.var 1)]) (.cI 1)) (.idx (.glob "COUNTS") (.var 2))) [.raise "NoDeed"] [], .assign 3 (.lst [(.var 2)])]
    [some (.str x), some (.ref H.length), some (.str w), none, none] (H ++ [.list true ((w :: r).map .str)]) = .ok (.next [some (.str x), some (.ref H.length), some (.str w), some (.ref (H.length + 1)), none]) (H ++ [.list true ((w :: r).map .str)] ++ [.list true [.str w]]) := by
  refine x_seq (x_not ((din_cnt K rfl).trans (by rw [hc]; rfl))) (x_seq (x_not (e_cmp (len1 rfl at_len (by simp only [List.length_map, List.length_cons]; decreasing_trivial)) (dget_cnt K rfl hc) (ne_no ?_))) (x_seq (x_assign (e_lst (es_1 (e_var rfl)))) ?_))
  · simp only [List.length_map, List.length_cons]; decreasing_trivial
  · rw [List.length_append]; rfl
theorem read_it (hrl : r.length ≤ 1000) : evI P Φ (.seq (.slF (.var 1) (.cI 1))) [some (.str x), some (.ref H.length), some (.str w), some (.ref (H.length + 1)), none] (H ++ [.list true ((w :: r).map .str)] ++ [.list true [.str w]]) = .ok (.seq false (H.length + 2) r.length) (H3 H ((w :: r).map .str) [.str w] (r.map .str)) := by
  have e0 : (H ++ [AObj.list true ((w :: r).map .str)] ++ [AObj.list true [AV.str w]])[H.length]? = some (.list true ((w :: r).map .str)) := pre_at at_len
  have e1 := slF_lst (k := 1) e0 (by simp only [List.length_map, List.length_cons]; decreasing_trivial) (by simp only [List.length_map, List.length_cons]; decreasing_trivial)
  have e2 : H ++ [AObj.list true ((w :: r).map .str)] ++ [AObj.list true [AV.str w]] ++ [AObj.list true (((w :: r).map AV.str).drop 1)] = H3 H ((w :: r).map .str) [.str w] (r.map .str) := by
    unfold H3
    rw [List.append_assoc, List.append_assoc]; rfl
  have e3 : (H ++ [AObj.list true ((w :: r).map .str)] ++ [AObj.list true [AV.str w]]).length = H.length + 2 := by rw [List.length_append, List.length_append]; rfl
  rw [e2, e3] at e1
  have e4 : r.length = (r.map AV.str).length := (List.length_map ..).symm
  refine Res.to (e_slF (e_var rfl) e_cI e1) ?_
  rw [e4]
  exact itOf_at h3c (by rw [← e4]; decreasing_trivial)

theorem read_ok (K : PK P) (hx : Asc x) (hl : x.length ≤ 400) {ns : List Int} (h : deedV x = some (w, ns)) : ∃ G d, callN P (n + 2) "read" [.str x] H = .ok (.ref d) (H ++ G) ∧ (H ++ G)[d]? = some (.tup (.str w :: ns.map .int)) := by
  have hp := parts_of hx
  unfold deedV at h
  cases hs : Txt.split x SP with
  | nil => exact absurd hs hp.ne
  | cons w' r =>
    rw [hs] at h hp
    obtain ⟨rfl, hc, hn⟩ := deedW_some h
    have hnum := hp.num
    rw [List.length_cons] at hnum
    have hrl : r.length ≤ 1000 := by decreasing_trivial
    have hr : ∀ p ∈ r, Asc p ∧ p.length ≤ 400 := fun p q => ⟨hp.asc p (.tail _ q), Nat.le_trans (hp.len p (.tail _ q)) hl⟩
    obtain ⟨v', L⟩ := read_to (n := n) (H := H) (line := .str x) (w := .str w) (ps := ((w :: r).map AV.str)) K hr hrl r ns 0 [.str w] none [] (by rw [List.drop_zero, List.append_nil]) hn (by show 1 + _ ≤ _; decreasing_trivial)
    have hlen := optAll_len hn
    have e1 := read_head (P := P) (Φ := callN P (n + 1)) (H := H) hx hl hs
    have e2 := read_mid (P := P) (Φ := callN P (n + 1)) (H := H) (x := x) K hc hrl
    have e3 := read_it (P := P) (Φ := callN P (n + 1)) (H := H) (x := x) (w := w) hrl
    have e4 : r.length = (r.map AV.str).length := (List.length_map ..).symm
    have e5 : ([AV.str w] ++ ns.map AV.int) = .str w :: ns.map .int := rfl
    rw [e5] at L
    have ha : (It.seq false (H.length + 2) r.length).all (H3 H ((w :: r).map .str) (.str w :: ns.map .int) (r.map .str)) = some (r.map .str) := by rw [e4]; exact all_at h3c
    have e6 := loop_all L rfl ha
    have e7 : H3 H ((w :: r).map .str) (.str w :: ns.map .int) (r.map .str) ++ [AObj.tup (.str w :: ns.map .int)] = H ++ [.list true ((w :: r).map .str), .list true (.str w :: ns.map .int), .list true (r.map .str), .tup (.str w :: ns.map .int)] := by
      unfold H3; rw [List.append_assoc]; rfl
    have e8 := tup_at (H := H3 H ((w :: r).map .str) (.str w :: ns.map .int) (r.map .str)) h3b (by rw [List.length_cons, List.length_map]; decreasing_trivial)
    rw [e7, h3len] at e8
    refine ⟨[.list true ((w :: r).map .str), .list true (.str w :: ns.map .int), .list true (r.map .str), .tup (.str w :: ns.map .int)], H.length + 3, callN_at K.read rfl (fl := .ret _) ((exs_app (b := [.ite (.cin true (.var 2) (.glob "COUNTS")) [.raise "NoDeed"] [], .ite (.cmp .ne (.bin .sub (.bi .len [(.var 1)]) (.cI 1)) (.idx (.glob "COUNTS") (.var 2))) [.raise "NoDeed"] [], .assign 3 (.lst [(.var 2)]), .for_ 4 (.seq (.slF (.var 1) (.cI 1))) [.expr (.meth .append (.var 3) (.call "number_of" [(.var 4)]))], .ret (.tupOf (.var 3))]) e1).trans ((exs_app (b := [.for_ 4 (.seq (.slF (.var 1) (.cI 1))) [.expr (.meth .append (.var 3) (.call "number_of" [(.var 4)]))], .ret (.tupOf (.var 3))]) e2).trans (x_seq (x_for e3 e6) (x_stop (x_ret (e_tupOf (e_var rfl) e8)))))), ?_⟩
    rw [List.getElem?_append_right (by decreasing_trivial), show H.length + 3 - H.length = 3 by decreasing_trivial]; rfl
theorem read_no (K : PK P) (hx : Asc x) (hl : x.length ≤ 400) (h : deedV x = none) : ∃ G, RxF P (n + 2) "read" [.str x] H "NoDeed" (H ++ G) := by
  have hp := parts_of hx
  unfold deedV at h
  cases hs : Txt.split x SP with
  | nil => exact absurd hs hp.ne
  | cons w r =>
    rw [hs] at h hp
    have hnum := hp.num
    rw [List.length_cons] at hnum
    have hrl : r.length ≤ 1000 := by decreasing_trivial
    have hr : ∀ p ∈ r, Asc p ∧ p.length ≤ 400 := fun p q => ⟨hp.asc p (.tail _ q), Nat.le_trans (hp.len p (.tail _ q)) hl⟩
    have e1 := read_head (P := P) (Φ := callN P (n + 1)) (H := H) hx hl hs
    have go : ∀ {ρo : Rho} {fl : Bool} {H₂ : AH}, RxL P (callN P (n + 1)) (RxF P (n + 1)) [.ite (.cin true (.var 2) (.glob "COUNTS")) [.raise "NoDeed"] [], .ite (.cmp .ne (.bin .sub (.bi .len [(.var 1)]) (.cI 1)) (.idx (.glob "COUNTS") (.var 2))) [.raise "NoDeed"] [], .assign 3 (.lst [(.var 2)]), .for_ 4 (.seq (.slF (.var 1) (.cI 1))) [.expr (.meth .append (.var 3) (.call "number_of" [(.var 4)]))], .ret (.tupOf (.var 3))] [some (.str x), some (.ref H.length), some (.str w), none, none] (H ++ [.list true ((w :: r).map .str)]) "NoDeed" H₂ ρo fl → RxF P (n + 2) "read" [.str x] H "NoDeed" H₂ := fun k => ⟨f_read, _, _, K.read, rfl, rxL_app e1 k⟩
    cases hc : cntD.lookup w with
    | none => exact ⟨_, go (.ite (t := true) ((din_cnt K rfl).trans (congrArg (fun o : Option Int => Res.ok (AV.bool (!o.isSome)) _) hc)) .raise)⟩
    | some c =>
      have s3 : ex P (callN P (n + 1)) (.ite (.cin true (.var 2) (.glob "COUNTS")) [.raise "NoDeed"] []) [some (.str x), some (.ref H.length), some (.str w), none, none] (H ++ [.list true ((w :: r).map .str)]) = .ok (.next [some (.str x), some (.ref H.length), some (.str w), none, none]) (H ++ [.list true ((w :: r).map .str)]) := x_not ((din_cnt K rfl).trans (by rw [hc]; rfl))
      by_cases hq : c = (r.length : Int)
      · subst hq
        have hn : optAll numS r = none := by
          rcases deedW_none h with q | ⟨_, q⟩
          · exact absurd hc q
          · exact q
        obtain ⟨pre, p, post, ys, d1, d2, d3⟩ := optAll_none hn
        have e2 := read_mid (P := P) (Φ := callN P (n + 1)) (H := H) (x := x) K hc hrl
        have e3 := read_it (P := P) (Φ := callN P (n + 1)) (H := H) (x := x) (w := w) hrl
        have hpl : pre.length ≤ r.length := by rw [d1, List.length_append]; decreasing_trivial
        obtain ⟨v', L⟩ := read_to (n := n) (H := H) (line := .str x) (w := .str w) (ps := ((w :: r).map AV.str)) K hr hrl pre ys 0 [.str w] none (p :: post) (by rw [List.drop_zero]; exact d1) d2 (by show 1 + _ ≤ _; decreasing_trivial)
        have hk : r[pre.length]? = some p := by rw [d1, List.getElem?_append_right (Nat.le_refl _), Nat.sub_self]; rfl
        have hp' := hr p (List.mem_of_getElem? hk)
        have e4 : r.length = (r.map AV.str).length := (List.length_map ..).symm
        have hg : ((It.seq false (H.length + 2) r.length).all (H3 H ((w :: r).map .str) ([.str w] ++ ys.map .int) (r.map .str))).bind (·[pre.length]?) = some (.str p) := by
          rw [e4, all_at h3c]
          show (r.map AV.str)[pre.length]? = _
          rw [List.getElem?_map, hk]; rfl
        have hF : RxF P (n + 1) "number_of" [.str p] (H3 H ((w :: r).map .str) ([.str w] ++ ys.map .int) (r.map .str)) "NoDeed" (H3 H ((w :: r).map .str) ([.str w] ++ ys.map .int) (r.map .str)) := by
          have := num_no (n := n) (H := H3 H ((w :: r).map .str) ([.str w] ++ ys.map .int) (r.map .str)) K hp'.1 (by rw [list_len]; exact hp'.2) d3
          rwa [tx_list] at this
        exact ⟨_, go (rxL_app (a := [.ite (.cin true (.var 2) (.glob "COUNTS")) [.raise "NoDeed"] [], .ite (.cmp .ne (.bin .sub (.bi .len [(.var 1)]) (.cI 1)) (.idx (.glob "COUNTS") (.var 2))) [.raise "NoDeed"] [], .assign 3 (.lst [(.var 2)])]) e2 (.for_ e3 L hg (.expr (.arg (e_var rfl) (isLst_ref h3b) (.call (by rw [K.num]; rfl) (es_1 (e_var rfl)) hF)))))⟩
      · refine ⟨_, go (.later s3 (.ite (t := true) (e_cmp (len1 rfl at_len (by simp only [List.length_map, List.length_cons]; decreasing_trivial)) (dget_cnt K rfl hc) (ne_yes ?_)) .raise))⟩
        simp only [List.length_map, List.length_cons]
        intro z; apply hq; decreasing_trivial
end
end
end Mine

/-! ## part S9 -/
namespace Mine
open PySem PySem.NumText

noncomputable def five : List Str := ["total", "least", "place", "first", "list"]
theorem beq_comm' (a b : Str) : (a == b) = (b == a) := by
  by_cases h : a = b
  · subst h; rfl
  · rw [beq_eq_false_iff_ne.mpr h, beq_eq_false_iff_ne.mpr (Ne.symm h)]
noncomputable def cntI (w : Str) : Int := (cntD.lookup w).getD (-1)
theorem cnt_eq (w : Str) : cntI w = if (w == Str.ofString "add" || w == Str.ofString "fill") then 3 else if five.any (· == w) then 2 else if w == Str.ofString "back" then 0 else -1 := by
  have hf : five.any (· == w) = (w == Str.ofString "total" || (w == Str.ofString "least" || (w == Str.ofString "place" || (w == Str.ofString "first" || (w == Str.ofString "list" || false))))) := by
    show (Str.ofString "total" == w || (Str.ofString "least" == w || (Str.ofString "place" == w || (Str.ofString "first" == w || (Str.ofString "list" == w || false))))) = _
    rw [beq_comm' (Str.ofString "total") w, beq_comm' (Str.ofString "least") w, beq_comm' (Str.ofString "place") w, beq_comm' (Str.ofString "first") w, beq_comm' (Str.ofString "list") w]
  rw [hf]
  unfold cntI cntD
  simp only [List.lookup_cons, List.lookup_nil]
  cases w == Str.ofString "add" with
  | true => rfl
  | false =>
  cases w == Str.ofString "fill" with
  | true => rfl
  | false =>
  cases w == Str.ofString "total" with
  | true => rfl
  | false =>
  cases w == Str.ofString "least" with
  | true => rfl
  | false =>
  cases w == Str.ofString "place" with
  | true => rfl
  | false =>
  cases w == Str.ofString "first" with
  | true => rfl
  | false =>
  cases w == Str.ofString "list" with
  | true => rfl
  | false =>
  cases w == Str.ofString "back" with
  | true => rfl
  | false => rfl
theorem cnt_bd (w : Str) : -1 ≤ cntI w ∧ cntI w ≤ 3 := by
  rw [cnt_eq]
  split
  · decide
  · split
    · decide
    · split <;> decide
/-- the law's count is the book's -/
theorem cnt_iff (w : Str) (k : Nat) : cntI w = (k : Int) ↔ cntD.lookup w = some (k : Int) := by
  unfold cntI
  cases cntD.lookup w with
  | none => exact ⟨fun h => by exact absurd (show (-1 : Int) = k from h) (by decreasing_trivial), fun h => by cases h⟩
  | some c => exact ⟨fun h => congrArg some h, fun h => Option.some.inj h⟩

section
variable {P : Pg} {H : AH} {n : Nat} {w : Str}
theorem count_ok (K : PK P) (hw : Asc w) : ∃ G, callN P (n + 1) "_law_count" [.str w] H = .ok (.int (cntI w)) (H ++ G) := by
  have lit : ∀ {s : Str} {G : AH}, ascB s = true → ev P (callN P n) (.cmp .eq (.var 0) (.cS s)) [some (.str w)] G = .ok (.bool (w == s)) G := fun hs => e_cmp (e_var rfl) e_cS (eq_str hw (asc_of hs))
  have hin : ev P (callN P n) (.cin false (.var 0) (.lst [(.cS "total"), (.cS "least"), (.cS "place"), (.cS "first"), (.cS "list")])) [some (.str w)] H = .ok (.bool (five.any (· == w))) (H ++ [.list true (five.map .str)]) := by
    refine e_cin rfl (e_var rfl) (e_lst (vs := five.map .str) rfl) ?_
    show optR ((lstOf (.ref H.length) (H ++ [.list true (five.map .str)])).bind strsOf) _ = _
    rw [lst_ref at_len]
    show optR (strsOf (five.map .str)) _ = _
    rw [strsOf_map]; rfl
  have e := cnt_eq w
  have done : ∀ {v : AV} {G : AH}, exs P (callN P n) f_law_count.body [some (.str w)] H = .ok (.ret v) (H ++ G) → ∃ G, callN P (n + 1) "_law_count" [.str w] H = .ok v (H ++ G) := fun {v G} h => ⟨G, callN_at K.count rfl (fl := .ret v) h⟩
  rw [e]
  cases h1 : w == Str.ofString "add" with
  | true => exact done (G := []) (by rw [List.append_nil]; exact x_stop (x_if (e_orT ((lit (by decide +kernel)).trans (by rw [h1]))) (x_stop (x_ret e_cI))))
  | false =>
    have a1 : ev P (callN P n) (.cmp .eq (.var 0) (.cS "add")) [some (.str w)] H = .ok (.bool false) H := (lit (by decide +kernel)).trans (by rw [h1])
    cases h2 : w == Str.ofString "fill" with
    | true => exact done (G := []) (by rw [List.append_nil]; exact x_stop (x_if (c := true) (e_orF a1 ((lit (by decide +kernel)).trans (by rw [h2]))) (x_stop (x_ret e_cI))))
    | false =>
      have a2 : ex P (callN P n) (.ite (.or_ (.cmp .eq (.var 0) (.cS "add")) (.cmp .eq (.var 0) (.cS "fill"))) [.ret (.cI 3)] []) [some (.str w)] H = .ok (.next [some (.str w)]) H := x_not (e_orF a1 ((lit (by decide +kernel)).trans (by rw [h2])))
      cases h3 : five.any (· == w) with
      | true => exact done (x_seq a2 (x_stop (x_if (c := true) (hin.trans (by rw [h3])) (x_stop (x_ret e_cI)))))
      | false =>
        have a3 : ex P (callN P n) (.ite (.cin false (.var 0) (.lst [(.cS "total"), (.cS "least"), (.cS "place"), (.cS "first"), (.cS "list")])) [.ret (.cI 2)] []) [some (.str w)] H = .ok (.next [some (.str w)]) (H ++ [.list true (five.map .str)]) := x_not (hin.trans (by rw [h3]))
        cases h4 : w == Str.ofString "back" with
        | true => exact done (x_seq a2 (x_seq a3 (x_stop (x_if (c := true) ((lit (by decide +kernel)).trans (by rw [h4])) (x_stop (x_ret e_cI))))))
        | false => exact done (x_seq a2 (x_seq a3 (x_seq (x_not ((lit (by decide +kernel)).trans (by rw [h4]))) (x_stop (x_ret (e_neg e_cI rfl))))))
end
end Mine

/-! ## part S10 -/
namespace Mine
open PySem PySem.NumText

/-! two lists behind the heap -/
noncomputable def H2 (H : AH) (b c : List AV) : AH := H ++ [.list true b, .list true c]
section
variable {H : AH} {b c d : List AV}
theorem h2b : (H2 H b c)[H.length]? = some (.list true b) := at_len
theorem h2c : (H2 H b c)[H.length + 1]? = some (.list true c) := by
  unfold H2
  rw [List.getElem?_append_right (by decreasing_trivial), show H.length + 1 - H.length = 1 by decreasing_trivial]; rfl
theorem h2set : (H2 H b c).set H.length (.list true d) = H2 H d c := by
  unfold H2
  rw [List.set_append_right _ _ (by decreasing_trivial), Nat.sub_self]; rfl
theorem h2len : (H2 H b c).length = H.length + 2 := by unfold H2; rw [List.length_append]; rfl
theorem h1set {e : AObj} : (H ++ [AObj.list true b]).set H.length e = H ++ [e] := by
  rw [List.set_append_right _ _ (by decreasing_trivial), Nat.sub_self]; rfl
end
theorem sg_sp (c : Nat) : ((⟨#[c]⟩ : Str) == Str.ofString " ") = decide (c = 32) := by
  rw [SP_eq]
  show (tx [c] == tx [32]) = _
  rw [tx_eq]
  by_cases q : c = 32 <;> simp [q]

section
variable {P : Pg} {H : AH} {n : Nat}
/-- the law cuts the line -/
theorem cut_loop {Φ : Calls} {line : AV} {y : List Nat} (hy : ∀ c ∈ y, c < 128) : ∀ (r k : Nat) (acc : List Str) (cur : Str) (v : Option AV), k + r = y.length → acc.length + cur.length + r ≤ 1000 →
    ∃ v', loopA (.txt (tx y)) 3 (exs P Φ [.ite (.cmp .eq (.var 3) (.cS " ")) [.expr (.meth .append (.var 1) (.var 2)), .assign 2 (.cS "")] [.assign 2 (.bin .add (.var 2) (.var 3))]]) r k [some line, some (.ref H.length), some (.str cur), v, none, none] (H ++ [.list true (acc.map .str)])
      = .ok (.next [some line, some (.ref H.length), some (.str ((y.drop k).foldl cutS (acc, cur)).2), v', none, none]) (H ++ [.list true (((y.drop k).foldl cutS (acc, cur)).1.map .str)])
  | 0, k, acc, cur, v, hk, _ => by
    rw [List.drop_eq_nil_of_le (by decreasing_trivial)]
    exact ⟨v, l_end (it := .txt (tx y)) rfl⟩
  | r + 1, k, acc, cur, v, hk, hb => by
    have hlt : k < y.length := by decreasing_trivial
    have hg : y[k]? = some y[k] := List.getElem?_eq_getElem hlt
    have hc := hy _ (List.getElem_mem hlt)
    have it1 : ∀ G : AH, ((It.txt (tx y)).all G).bind (·[k]?) = some (.str ⟨#[y[k]]⟩) := fun G => sgs_at (x := tx y) hg
    rw [List.drop_eq_getElem_cons hlt, List.foldl_cons]
    have c1 : ∀ {G : AH}, ev P Φ (.cmp .eq (.var 3) (.cS " ")) [some line, some (.ref H.length), some (.str cur), some (.str ⟨#[y[k]]⟩), none, none] G = .ok (.bool (decide (y[k] = 32))) G := fun {G} => e_cmp (e_var rfl) e_cS ((eq_str (Asc.sg hc) (asc_of (by decide +kernel))).trans (by rw [sg_sp]))
    by_cases q : y[k] = 32
    · have e : cutS (acc, cur) y[k] = (acc ++ [cur], ⟨#[]⟩) := if_pos q
      rw [e]
      obtain ⟨v', L⟩ := cut_loop (Φ := Φ) (line := line) hy r (k + 1) (acc ++ [cur]) ⟨#[]⟩ (some (.str ⟨#[y[k]]⟩)) (by decreasing_trivial) (by rw [List.length_append, List.length_singleton]; show _ + 0 + _ ≤ _; decreasing_trivial)
      have ap : methA .append (.ref H.length) (.str cur) (H ++ [AObj.list true (acc.map .str)]) = .ok .none (H ++ [AObj.list true ((acc ++ [cur]).map .str)]) := by
        rw [append_at at_len (by rw [List.length_map]; decreasing_trivial), h1set, List.map_append]; rfl
      have st : exs P Φ [.ite (.cmp .eq (.var 3) (.cS " ")) [.expr (.meth .append (.var 1) (.var 2)), .assign 2 (.cS "")] [.assign 2 (.bin .add (.var 2) (.var 3))]] [some line, some (.ref H.length), some (.str cur), some (.str ⟨#[y[k]]⟩), none, none] (H ++ [AObj.list true (acc.map .str)]) = .ok (.next [some line, some (.ref H.length), some (.str ⟨#[]⟩), some (.str ⟨#[y[k]]⟩), none, none]) (H ++ [AObj.list true ((acc ++ [cur]).map .str)]) := by
        refine x_seq (x_if (c := true) (c1.trans (by rw [decide_eq_true q])) (x_seq (x_expr (e_meth (e_var rfl) (isLst_ref at_len) (e_var rfl) ap)) (x_seq (x_assign e_cS) rfl))) ?_
        rw [lit0]; rfl
      exact ⟨v', l_next (it1 _) st L⟩
    · have e : cutS (acc, cur) y[k] = (acc, cur ++ ⟨#[y[k]]⟩) := if_neg q
      rw [e]
      have hl1 : (cur ++ (⟨#[y[k]]⟩ : Str)).length = cur.length + 1 := str_len
      obtain ⟨v', L⟩ := cut_loop (Φ := Φ) (line := line) hy r (k + 1) acc (cur ++ ⟨#[y[k]]⟩) (some (.str ⟨#[y[k]]⟩)) (by decreasing_trivial) (by rw [hl1]; decreasing_trivial)
      exact ⟨v', l_next (it1 _) (x_seq (x_if (c := false) (c1.trans (by rw [decide_eq_false q])) (x_seq (x_assign (e_bin (e_var rfl) (e_var rfl) (add_str (by show _ + 1 ≤ _; decreasing_trivial)))) rfl)) rfl) L⟩

/-- the law reads the numbers -/
theorem ln_loop (K : PK P) {a b c e4 : Option AV} {r : List Str} {d0 : Nat} (hd0 : d0 = H.length) (hr : ∀ p ∈ r, Asc p ∧ p.length ≤ 400) : ∀ (m k : Nat) (ds : List AV) (v : Option AV), k + m = r.length → ds.length + m ≤ 1000 →
    (∀ ns, optAll numS (r.drop k) = some ns → ∃ v', loopA (.seq false (H.length + 1) r.length) 5 (exs P (callN P (n + 1)) [.ite (.cmp .is_ (.call "_law_number_of" [(.var 5)]) .cN) [.ret .cN] [], .expr (.meth .append (.var 4) (.call "_law_number_of" [(.var 5)]))]) m k [a, b, c, e4, some (.ref d0), v] (H2 H ds (r.map .str)) = .ok (.next [a, b, c, e4, some (.ref d0), v']) (H2 H (ds ++ ns.map .int) (r.map .str)))
    ∧ (optAll numS (r.drop k) = none → ∃ ds', loopA (.seq false (H.length + 1) r.length) 5 (exs P (callN P (n + 1)) [.ite (.cmp .is_ (.call "_law_number_of" [(.var 5)]) .cN) [.ret .cN] [], .expr (.meth .append (.var 4) (.call "_law_number_of" [(.var 5)]))]) m k [a, b, c, e4, some (.ref d0), v] (H2 H ds (r.map .str)) = .ok (.ret .none) (H2 H ds' (r.map .str)))
  | 0, k, ds, v, hk, _ => by
    rw [List.drop_eq_nil_of_le (by decreasing_trivial)]
    refine ⟨fun ns h => ?_, (fun h => by cases h)⟩
    cases h
    refine ⟨v, ?_⟩
    rw [List.map_nil, List.append_nil]
    have e4 : r.length = (r.map AV.str).length := (List.length_map ..).symm
    exact l_end (by rw [e4]; exact all_at h2c)
  | m + 1, k, ds, v, hk, hb => by
    have hlt : k < r.length := by decreasing_trivial
    have hp := hr _ (List.getElem_mem hlt)
    have e4' : r.length = (r.map AV.str).length := (List.length_map ..).symm
    have it1 : ∀ ds, ((It.seq false (H.length + 1) r.length).all (H2 H ds (r.map .str))).bind (·[k]?) = some (.str r[k]) := fun ds => by
      rw [e4', all_at h2c]
      show (r.map AV.str)[k]? = _
      rw [List.getElem?_map, List.getElem?_eq_getElem hlt]; rfl
    have hn : ∀ {ρ : Rho} (ds : List AV), ρ[5]?.join = some (.str r[k]) → ev P (callN P (n + 1)) (.call "_law_number_of" [(.var 5)]) ρ (H2 H ds (r.map .str)) = .ok (numAV (numS r[k])) (H2 H ds (r.map .str)) := fun ds h5 => e_call K.lnum (es_1 (e_var h5)) (lawNum (n := n) K hp.1 hp.2)
    rw [List.drop_eq_getElem_cons hlt, optAll_cons]
    cases hs : numS r[k] with
    | none =>
      refine ⟨(fun ns h => by cases h), fun _ => ⟨ds, l_ret (it1 ds) (x_stop (x_if (c := true) (e_cmp (hn ds rfl) e_cN ?_) (x_stop (x_ret e_cN))))⟩⟩
      rw [hs]; rfl
    | some z =>
      obtain ⟨I1, I2⟩ := ln_loop K (a := a) (b := b) (c := c) (e4 := e4) hd0 hr m (k + 1) (ds ++ [.int z]) (some (.str r[k])) (by decreasing_trivial) (by rw [List.length_append, List.length_singleton]; decreasing_trivial)
      have st : exs P (callN P (n + 1)) [.ite (.cmp .is_ (.call "_law_number_of" [(.var 5)]) .cN) [.ret .cN] [], .expr (.meth .append (.var 4) (.call "_law_number_of" [(.var 5)]))] [a, b, c, e4, some (.ref d0), some (.str r[k])] (H2 H ds (r.map .str)) = .ok (.next [a, b, c, e4, some (.ref d0), some (.str r[k])]) (H2 H (ds ++ [.int z]) (r.map .str)) := by
        subst hd0
        refine x_seq (x_not (e_cmp (hn ds rfl) e_cN ?_)) (x_seq (x_expr (v := .none) (e_meth (e_var rfl) (isLst_ref h2b) (hn ds rfl) ?_)) rfl)
        · rw [hs]; rfl
        · rw [hs, show numAV (some z) = .int z from rfl, append_at h2b (by decreasing_trivial), h2set]
      refine ⟨fun ns h => ?_, fun h => ?_⟩
      · obtain ⟨ms, h', rfl⟩ := Option.map_eq_some_iff.mp (show (optAll numS (r.drop (k + 1))).map (z :: ·) = some ns from h)
        obtain ⟨v', L⟩ := I1 ms h'
        refine ⟨v', l_next (it1 ds) st ?_⟩
        rw [List.append_assoc] at L
        exact L
      · obtain ⟨ds', L⟩ := I2 (Option.map_eq_none_iff.mp (show (optAll numS (r.drop (k + 1))).map (z :: ·) = none from h))
        exact ⟨ds', l_next (it1 ds) st L⟩

/-- the law's line, cut -/
theorem deed_head {Φ : Calls} {x : Str} (hx : Asc x) (hl : x.length ≤ 400) : ∃ v', exs P Φ [.assign 1 (.lst []), .assign 2 (.cS ""), .for_ 3 (.seq (.bin .add (.var 0) (.cS " "))) [.ite (.cmp .eq (.var 3) (.cS " ")) [.expr (.meth .append (.var 1) (.var 2)), .assign 2 (.cS "")] [.assign 2 (.bin .add (.var 2) (.var 3))]]] [some (.str x), none, none, none, none, none] H
    = .ok (.next [some (.str x), some (.ref H.length), some (.str ⟨#[]⟩), v', none, none]) (H ++ [.list true ((Txt.split x SP).map .str)]) := by
  have hy : ∀ c ∈ x.cps.toList ++ [32], c < 128 := fun c hc => by
    rcases List.mem_append.mp hc with q | q
    · exact hx c q
    · rw [List.mem_singleton.mp q]; decide
  have e0 : x ++ Str.ofString " " = tx (x.cps.toList ++ [32]) := by rw [SP_eq]; exact app_tx x 32
  have hlen : (x.cps.toList ++ [32]).length = x.length + 1 := by rw [List.length_append, list_len]; rfl
  obtain ⟨v', L⟩ := cut_loop (P := P) (H := H) (Φ := Φ) (line := .str x) hy (x.cps.toList ++ [32]).length 0 [] ⟨#[]⟩ none (Nat.zero_add _) (by rw [hlen]; show 0 + 0 + _ ≤ _; decreasing_trivial)
  rw [List.drop_zero, cut_split] at L
  refine ⟨v', x_seq (x_assign (e_lst es_nil)) (x_seq (x_assign e_cS) (x_seq (x_for (it := .txt (tx (x.cps.toList ++ [32]))) (i_seq (e_bin (e_var rfl) e_cS ((add_str (by rw [SP_eq]; show _ + 1 ≤ _; decreasing_trivial)).trans (by rw [e0]))) (it_str (Asc.tx hy) (by rw [tx_length, hlen]; decreasing_trivial))) ?_) rfl))⟩
  rw [show (It.txt (tx (x.cps.toList ++ [32]))).len = (x.cps.toList ++ [32]).length from sgs_len]
  rw [lit0]
  exact L
theorem deed_of (K : PK P) {x : Str} (hx : Asc x) (hl : x.length ≤ 400) : (∀ w ns, deedV x = some (w, ns) → ∃ G d, callN P (n + 2) "_law_deed_of" [.str x] H = .ok (.ref d) (H ++ G) ∧ (H ++ G)[d]? = some (.tup (.str w :: ns.map .int))) ∧ (deedV x = none → ∃ G, callN P (n + 2) "_law_deed_of" [.str x] H = .ok .none (H ++ G)) := by
  have hp := parts_of hx
  obtain ⟨v3, e1⟩ := deed_head (P := P) (H := H) (Φ := callN P (n + 1)) hx hl
  unfold deedV
  cases hs : Txt.split x SP with
  | nil => exact absurd hs hp.ne
  | cons w r =>
    rw [hs] at hp e1
    have hnum := hp.num
    rw [List.length_cons] at hnum
    have hrl : r.length ≤ 401 := by decreasing_trivial
    have hr : ∀ p ∈ r, Asc p ∧ p.length ≤ 400 := fun p q => ⟨hp.asc p (.tail _ q), Nat.le_trans (hp.len p (.tail _ q)) hl⟩
    obtain ⟨G1, ec⟩ := count_ok (n := n) (H := H ++ [.list true ((w :: r).map .str)]) K (hp.asc w (.head _))
    generalize hH' : H ++ [AObj.list true ((w :: r).map .str)] ++ G1 = H' at ec
    have hat : (H ++ [AObj.list true ((w :: r).map .str)])[H.length]? = some (.list true ((w :: r).map .str)) := at_len
    have hat' : H'[H.length]? = some (.list true ((w :: r).map .str)) := by rw [← hH']; exact pre_at hat
    have hi0 : ∀ {ρ : Rho} {G : AH}, ρ[1]?.join = some (.ref H.length) → G[H.length]? = some (.list true ((w :: r).map .str)) → ev P (callN P (n + 1)) (.idx (.var 1) (.cI 0)) ρ G = .ok (.str w) G := fun h1 h2 => e_idx rfl (e_var h1) e_cI (idx_at h2 (n := 0) rfl (by decide) rfl)
    have hln : ((w :: r).map AV.str).length = r.length + 1 := by rw [List.length_map, List.length_cons]
    have et : ev P (callN P (n + 1)) (.cmp .ne (.call "_law_count" [(.idx (.var 1) (.cI 0))]) (.bin .sub (.bi .len [(.var 1)]) (.cI 1))) [some (.str x), some (.ref H.length), some (.str ⟨#[]⟩), v3, none, none] (H ++ [.list true ((w :: r).map .str)]) = .ok (.bool (!decide (cntI w = (r.length : Int)))) H' := by
      refine e_cmp (e_call K.count (es_1 (hi0 rfl hat)) ec) (len1 rfl hat' (by rw [hln]; decreasing_trivial)) ?_
      rw [hln]
      show Res.ok (AV.bool (!decide (cntI w = ((r.length + 1 : Nat) : Int) - 1))) H' = _
      rw [show ((r.length + 1 : Nat) : Int) - 1 = (r.length : Int) by decreasing_trivial]
    have hg : ∀ G : AH, ∃ G0, H' ++ G = H ++ G0 := fun G => ⟨_, by rw [← hH', List.append_assoc, List.append_assoc]⟩
    by_cases hq : cntI w = (r.length : Int)
    · have hc := (cnt_iff w r.length).mp hq
      rw [decide_eq_true hq] at et
      -- the word, then the numbers
      have e3 : ex P (callN P (n + 1)) (.assign 4 (.lst [(.idx (.var 1) (.cI 0))])) [some (.str x), some (.ref H.length), some (.str ⟨#[]⟩), v3, none, none] H' = .ok (.next [some (.str x), some (.ref H.length), some (.str ⟨#[]⟩), v3, some (.ref H'.length), none]) (H' ++ [.list true [.str w]]) := x_assign (e_lst (es_1 (hi0 rfl hat')))
      have e4 : r.length = (r.map AV.str).length := (List.length_map ..).symm
      have e5 : evI P (callN P (n + 1)) (.seq (.slF (.var 1) (.cI 1))) [some (.str x), some (.ref H.length), some (.str ⟨#[]⟩), v3, some (.ref H'.length), none] (H' ++ [.list true [.str w]]) = .ok (.seq false (H'.length + 1) r.length) (H2 H' [.str w] (r.map .str)) := by
        have q1 := slF_lst (k := 1) (pre_at (K := [AObj.list true [AV.str w]]) hat') (by rw [hln]; decreasing_trivial) (by rw [hln]; decreasing_trivial)
        rw [List.append_assoc, show (H' ++ [AObj.list true [AV.str w]]).length = H'.length + 1 from List.length_append ..] at q1
        refine Res.to (e_slF (e_var rfl) e_cI q1) ?_
        rw [e4]
        exact itOf_at h2c (by rw [← e4]; decreasing_trivial)
      obtain ⟨L1, L2⟩ := ln_loop (n := n) (H := H') (a := some (.str x)) (b := some (.ref H.length)) (c := some (.str ⟨#[]⟩)) (e4 := v3) (d0 := H'.length) K rfl hr r.length 0 [.str w] none (Nat.zero_add _) (by show 1 + _ ≤ _; decreasing_trivial)
      rw [List.drop_zero] at L1 L2
      have run : ∀ {fl : Fl} {G : AH}, exs P (callN P (n + 1)) [.for_ 5 (.seq (.slF (.var 1) (.cI 1))) [.ite (.cmp .is_ (.call "_law_number_of" [(.var 5)]) .cN) [.ret .cN] [], .expr (.meth .append (.var 4) (.call "_law_number_of" [(.var 5)]))], .ret (.tupOf (.var 4))] [some (.str x), some (.ref H.length), some (.str ⟨#[]⟩), v3, some (.ref H'.length), none] (H' ++ [.list true [.str w]]) = .ok fl G → callN P (n + 2) "_law_deed_of" [.str x] H = .ok (fin fl) G := fun h => callN_at K.deed rfl ((exs_app (b := [.ite (.cmp .ne (.call "_law_count" [(.idx (.var 1) (.cI 0))]) (.bin .sub (.bi .len [(.var 1)]) (.cI 1))) [.ret .cN] [], .assign 4 (.lst [(.idx (.var 1) (.cI 0))]), .for_ 5 (.seq (.slF (.var 1) (.cI 1))) [.ite (.cmp .is_ (.call "_law_number_of" [(.var 5)]) .cN) [.ret .cN] [], .expr (.meth .append (.var 4) (.call "_law_number_of" [(.var 5)]))], .ret (.tupOf (.var 4))]) e1).trans (x_seq (x_not et) (x_seq e3 h)))
      refine ⟨fun w' ns h => ?_, fun h => ?_⟩
      · obtain ⟨hw, _, hn⟩ := deedW_some h
        rw [hw]
        obtain ⟨v', L⟩ := L1 ns hn
        have e6 := tup_at (H := H2 H' ([.str w] ++ ns.map .int) (r.map .str)) h2b (by have := optAll_len hn; rw [List.length_append, List.length_map]; show 1 + _ ≤ _; decreasing_trivial)
        have e7 : H2 H' ([.str w] ++ ns.map .int) (r.map .str) ++ [AObj.tup ([.str w] ++ ns.map .int)] = H' ++ [.list true ([.str w] ++ ns.map .int), .list true (r.map .str), .tup ([.str w] ++ ns.map .int)] := by unfold H2; rw [List.append_assoc]; rfl
        rw [e7, h2len] at e6
        obtain ⟨G0, hG0⟩ := hg [.list true ([.str w] ++ ns.map .int), .list true (r.map .str), .tup ([.str w] ++ ns.map .int)]
        refine ⟨G0, H'.length + 2, ?_, ?_⟩
        · rw [← hG0]
          exact run (fl := .ret _) (x_seq (x_for e5 L) (x_stop (x_ret (e_tupOf (e_var rfl) e6))))
        · rw [← hG0, List.getElem?_append_right (by decreasing_trivial), show H'.length + 2 - H'.length = 2 by decreasing_trivial]; rfl
      · have hn : optAll numS r = none := by
          rcases deedW_none h with q | ⟨_, q⟩
          · exact absurd hc q
          · exact q
        obtain ⟨ds', L⟩ := L2 hn
        obtain ⟨G0, hG0⟩ := hg [.list true ds', .list true (r.map .str)]
        refine ⟨G0, ?_⟩
        rw [← hG0]
        exact run (fl := .ret .none) (x_stop (x_for e5 L))
    · have hc : cntD.lookup w ≠ some (r.length : Int) := fun z => hq ((cnt_iff w r.length).mpr z)
      rw [decide_eq_false hq] at et
      refine ⟨fun w' ns h => absurd (deedW_some h).2.1 hc, fun _ => ?_⟩
      obtain ⟨G0, hG0⟩ := hg []
      rw [List.append_nil] at hG0
      refine ⟨G0, ?_⟩
      rw [← hG0]
      exact callN_at K.deed rfl (fl := .ret .none) ((exs_app (b := [.ite (.cmp .ne (.call "_law_count" [(.idx (.var 1) (.cI 0))]) (.bin .sub (.bi .len [(.var 1)]) (.cI 1))) [.ret .cN] [], .assign 4 (.lst [(.idx (.var 1) (.cI 0))]), .for_ 5 (.seq (.slF (.var 1) (.cI 1))) [.ite (.cmp .is_ (.call "_law_number_of" [(.var 5)]) .cN) [.ret .cN] [], .expr (.meth .append (.var 4) (.call "_law_number_of" [(.var 5)]))], .ret (.tupOf (.var 4))]) e1).trans (x_stop (x_if (c := true) et (x_stop (x_ret e_cN)))))
end
end Mine

/-! ## part S11 -/
namespace Mine
open PySem PySem.NumText

noncomputable def sh (n : Int) : Str := Str.ofString (toString n)
/-- a list and a tuple behind the heap -/
noncomputable def HT (H : AH) (b c : List AV) : AH := H ++ [.list true b, .tup c]
section
variable {H : AH} {b c d : List AV}
theorem htb : (HT H b c)[H.length]? = some (.list true b) := at_len
theorem htc : (HT H b c)[H.length + 1]? = some (.tup c) := by
  unfold HT
  rw [List.getElem?_append_right (by decreasing_trivial), show H.length + 1 - H.length = 1 by decreasing_trivial]; rfl
theorem htset : (HT H b c).set H.length (.list true d) = HT H d c := by
  unfold HT
  rw [List.set_append_right _ _ (by decreasing_trivial), Nat.sub_self]; rfl
end
section
variable {P : Pg} {Φ : Calls} {H : AH} {n : Nat}
theorem shown_loop {a : Option AV} {i : Nat} (hi : i = H.length) {ns : List Int} (hn : ∀ m ∈ ns, m.natAbs.log2 < 1920) : ∀ (m k : Nat) (ds : List Str) (v : Option AV), k + m = ns.length → ds.length + m ≤ 1000 →
    ∃ v', loopA (.seq true (H.length + 1) ns.length) 2 (exs P Φ [.expr (.meth .append (.var 1) (.str_ (.var 2)))]) m k [a, some (.ref i), v] (HT H (ds.map .str) (ns.map .int)) = .ok (.next [a, some (.ref i), v']) (HT H ((ds ++ (ns.drop k).map sh).map .str) (ns.map .int))
  | 0, k, ds, v, hk, _ => by
    rw [List.drop_eq_nil_of_le (by decreasing_trivial), List.map_nil, List.append_nil]
    have e4 : ns.length = (ns.map AV.int).length := (List.length_map ..).symm
    exact ⟨v, l_end (by rw [e4]; exact all_tup htc)⟩
  | m + 1, k, ds, v, hk, hb => by
    have hlt : k < ns.length := by decreasing_trivial
    have e4 : ns.length = (ns.map AV.int).length := (List.length_map ..).symm
    have it1 : ((It.seq true (H.length + 1) ns.length).all (HT H (ds.map .str) (ns.map .int))).bind (·[k]?) = some (.int ns[k]) := by
      rw [e4, all_tup htc]
      show (ns.map AV.int)[k]? = _
      rw [List.getElem?_map, List.getElem?_eq_getElem hlt]; rfl
    obtain ⟨v', L⟩ := shown_loop (a := a) hi hn m (k + 1) (ds ++ [sh ns[k]]) (some (.int ns[k])) (by decreasing_trivial) (by rw [List.length_append, List.length_singleton]; decreasing_trivial)
    rw [List.drop_eq_getElem_cons hlt]
    have ap : methA .append (.ref i) (.str (sh ns[k])) (HT H (ds.map .str) (ns.map .int)) = .ok .none (HT H ((ds ++ [sh ns[k]]).map .str) (ns.map .int)) := by
      subst hi
      rw [append_at htb (by rw [List.length_map]; decreasing_trivial), htset, List.map_append]; rfl
    have hl : isLst (.ref i) (HT H (ds.map .str) (ns.map .int)) = true := by subst hi; exact isLst_ref htb
    refine ⟨v', l_next it1 (x_seq (x_expr (e_meth (e_var rfl) hl (e_str_ (e_var rfl) (str_int (hn _ (List.getElem_mem hlt)))) ap)) rfl) ?_⟩
    rw [List.append_assoc] at L
    exact L
theorem shown_ok (K : PK P) {d : Nat} {w : Str} {ns : List Int} (hd : H[d]? = some (.tup (.str w :: ns.map .int))) (hn : ∀ m ∈ ns, m.natAbs.log2 < 1920) (hl : ns.length ≤ 500) (hs : ((w :: ns.map sh).map (·.length)).sum + (w :: ns.map sh).length ≤ 100000) :
    ∃ G, callN P (n + 1) "shown" [.ref d] H = .ok (.str (Str.join SP (w :: ns.map sh))) (H ++ G) := by
  have hdl : d < H.length := (List.getElem?_eq_some_iff.mp hd).1
  have hln : (AV.str w :: ns.map AV.int).length = ns.length + 1 := by rw [List.length_cons, List.length_map]
  have e1 : ex P (callN P n) (.assign 1 (.lst [(.idx (.var 0) (.cI 0))])) [some (.ref d), none, none] H = .ok (.next [some (.ref d), some (.ref H.length), none]) (H ++ [.list true [.str w]]) := x_assign (e_lst (es_1 (e_idx rfl (e_var rfl) e_cI (idx_tup hd (n := 0) rfl (by decide) rfl))))
  have q1 := slF_tup (k := 1) (pre_at (K := [AObj.list true [AV.str w]]) hd) (Nat.le_refl _) (by rw [hln]; decreasing_trivial) (by rw [hln]; decreasing_trivial)
  rw [List.append_assoc, show (H ++ [AObj.list true [AV.str w]]).length = H.length + 1 from List.length_append ..] at q1
  have e4 : ns.length = (ns.map AV.int).length := (List.length_map ..).symm
  have e5 : evI P (callN P n) (.seq (.slF (.var 0) (.cI 1))) [some (.ref d), some (.ref H.length), none] (H ++ [.list true [.str w]]) = .ok (.seq true (H.length + 1) ns.length) (HT H [.str w] (ns.map .int)) := by
    refine Res.to (e_slF (e_var rfl) e_cI q1) ?_
    rw [e4]
    exact it_tup htc (by rw [← e4]; decreasing_trivial)
  obtain ⟨v', L⟩ := shown_loop (P := P) (Φ := callN P n) (H := H) (a := some (.ref d)) (i := H.length) rfl hn ns.length 0 [w] none (Nat.zero_add _) (by show 1 + _ ≤ _; decreasing_trivial)
  rw [List.drop_zero] at L
  refine ⟨[.list true ((w :: ns.map sh).map .str), .tup (ns.map .int)], callN_at K.shown rfl (fl := .ret _) (x_seq e1 (x_seq (x_for e5 L) (x_stop (x_ret (e_sm e_cS (e_var rfl) (join_at (ys := w :: ns.map sh) htb hs))))))⟩
theorem whole_ok (K : PK P) {i : Int} : callN P (n + 1) "_law_whole" [.int i] H = .ok (.bool true) H := callN_at K.whole rfl (fl := .ret (.bool true)) (x_stop (x_ret (e_andT (e_isi (e_var rfl) rfl) (e_notF (e_isi (e_var rfl) rfl)))))
/-- the deed's text is the line -/
theorem deed_text {x w : Str} {ns : List Int} (hx : Asc x) (hl : x.length ≤ 400) (h : deedV x = some (w, ns)) : Str.join SP (w :: ns.map sh) = x ∧ (∀ m ∈ ns, m.natAbs.log2 < 1920) ∧ ns.length ≤ 401 ∧ ((w :: ns.map sh).map (·.length)).sum + (w :: ns.map sh).length ≤ 401 ∧ Asc w := by
  have hp := parts_of hx
  unfold deedV at h
  cases hs : Txt.split x SP with
  | nil => exact absurd hs hp.ne
  | cons w' r =>
    rw [hs] at h hp
    obtain ⟨rfl, hc, hn⟩ := deedW_some h
    have key : ∀ (r : List Str) (ns : List Int), (∀ p ∈ r, p.length ≤ 400) → optAll numS r = some ns → ns.map sh = r ∧ ∀ m ∈ ns, m.natAbs.log2 < 1920 := by
      intro r
      induction r with
      | nil => intro ns _ e; cases e; exact ⟨rfl, fun m hm => by cases hm⟩
      | cons p r ih =>
        intro ns hr e
        obtain ⟨m, e1, e2⟩ := bind_some e
        obtain ⟨ms, e3, rfl⟩ := Option.map_eq_some_iff.mp e2
        obtain ⟨i1, i2⟩ := ih ms (fun p hp => hr p (.tail _ hp)) e3
        obtain ⟨n1, n2⟩ := numV_some e1 (by rw [list_len]; exact hr p (.head _))
        refine ⟨?_, fun k hk => ?_⟩
        · rw [List.map_cons, i1, show sh m = p from n1.trans (tx_list p)]
        · rcases List.mem_cons.mp hk with rfl | hk
          · exact n2
          · exact i2 k hk
    obtain ⟨k1, k2⟩ := key r ns (fun p hp' => Nat.le_trans (hp.len p (.tail _ hp')) hl) hn
    rw [k1]
    have hnum := hp.num
    rw [List.length_cons] at hnum
    have := optAll_len hn
    exact ⟨hp.join, k2, by decreasing_trivial, Nat.le_trans hp.sum (by decreasing_trivial), hp.asc w (.head _)⟩

noncomputable def cell (ns : List Int) (k : Nat) : Int := ns.getD k 0
theorem cell_at (K : PK P) {i : Nat} {mt : Bool} {ns : List Int} (h : H[i]? = some (.list mt (ns.map .int))) (hn : ns.length ≤ 1000) (k : Nat) (hk : k ≤ 1000) : callN P (n + 1) "_law_cell_at" [.ref i, .int k] H = .ok (.int (cell ns k)) H := by
  have hln : (ns.map AV.int).length = ns.length := List.length_map ..
  by_cases q : k < ns.length
  · refine callN_at K.cell rfl (fl := .ret (.int (cell ns k))) (x_stop (x_if (c := true) (e_cmp (e_var rfl) (e_bi (es_1 (e_var rfl)) (bi_len h (by rw [hln]; decreasing_trivial))) (lt_yes (by rw [hln]; decreasing_trivial))) (x_stop (x_ret (e_idx rfl (e_var rfl) (e_var rfl) (idx_at h rfl (by decreasing_trivial) ?_))))))
    rw [List.getElem?_map, List.getElem?_eq_getElem q]
    unfold cell
    rw [List.getD_eq_getElem?_getD, List.getElem?_eq_getElem q]; rfl
  · have e : cell ns k = 0 := by
      unfold cell
      rw [List.getD_eq_getElem?_getD, List.getElem?_eq_none (by decreasing_trivial)]; rfl
    rw [e]
    exact callN_at K.cell rfl (fl := .ret (.int 0)) (x_seq (x_not (e_cmp (e_var rfl) (e_bi (es_1 (e_var rfl)) (bi_len h (by rw [hln]; decreasing_trivial))) (lt_no (by rw [hln]; decreasing_trivial)))) (x_stop (x_ret e_cI)))
end
end Mine

/-! ## part S12 -/
namespace Mine
open PySem PySem.NumText

noncomputable def W8 : List Str := ["add", "fill", "total", "least", "place", "first", "list", "back"]
noncomputable def W13 : List Str := ["", "Add", "adds", "ADD", "sum", "min", "undo", "length", "max", "mean", "sub", "set", "put"]
noncomputable def W10 : List Str := ["count", "made", "even", "added", "filled", "listed", "clear", "average", "reverse", "replace"]
noncomputable def WS : List Str := W8 ++ W13 ++ W10
noncomputable def goodB (m : Nat) (s : Str) : Bool := ascB s && decide (s.length ≤ m)
theorem good_of {m : Nat} {s : Str} (h : goodB m s = true) : Asc s ∧ s.length ≤ m := by
  have := Bool.and_eq_true_iff.mp h
  exact ⟨asc_of this.1, of_decide_eq_true this.2⟩
theorem WS_good : WS.all (goodB 10) = true := by decide +kernel
theorem WS_len : WS.length = 31 := rfl
/-- one of some words -/
theorem pick {l : List Str} {m : Nat} (hl : l.all (goodB m) = true) {k : Nat} (hk : k < l.length) : ∃ s, l[k]? = some s ∧ Asc s ∧ s.length ≤ m :=
  ⟨l[k], List.getElem?_eq_getElem hk, good_of (List.all_eq_true.mp hl _ (List.getElem_mem hk))⟩
theorem fm {x : Int} {y : Nat} (hy : 0 < y) : ∃ k : Nat, x.fmod y = k ∧ k < y := by
  have h := fmod_bd (x := x) (y := (y : Int)) (by decreasing_trivial)
  exact ⟨(x.fmod y).toNat, (Int.toNat_of_nonneg h.1).symm, by decreasing_trivial⟩

section
variable {P : Pg} {Φ : Calls} {H : AH} {n : Nat}
theorem add_lst {i j : Nat} {m m' : Bool} {xs ys : List AV} (h1 : H[i]? = some (.list m xs)) (h2 : H[j]? = some (.list m' ys)) (hl : xs.length + ys.length ≤ 100000) : binA .add (.ref i) (.ref j) H = .ok (.ref H.length) (H ++ [.list true (xs ++ ys)]) := by
  show optR (lstOf (.ref i) H) _ = _
  rw [lst_ref h1]
  show optR (lstOf (.ref j) H) _ = _
  rw [lst_ref h2]
  show chk (decide _) _ = _
  rw [decide_eq_true (Nat.le_trans hl (by decide))]; rfl
/-- two lists of words, joined -/
theorem join_lst {ρ : Rho} {x i : Nat} {l1 l2 : List Str} {es : List ME} (hx : ρ[x]?.join = some (.ref i)) (h1 : H[i]? = some (.list true (l1.map .str))) (h2 : evs P Φ es ρ H = .ok (l2.map .str) H) (hl : l1.length + l2.length ≤ 1000) :
    ∃ G j, ev P Φ (.bin .add (.var x) (.lst es)) ρ H = .ok (.ref j) (H ++ G) ∧ (H ++ G)[j]? = some (.list true ((l1 ++ l2).map .str)) := by
  refine ⟨[.list true (l2.map .str), .list true ((l1 ++ l2).map .str)], H.length + 1, ?_, ?_⟩
  · refine e_bin (e_var hx) (e_lst h2) ((add_lst (pre_at h1) at_len (by rw [List.length_map, List.length_map]; decreasing_trivial)).trans ?_)
    rw [List.map_append, List.length_append, List.append_assoc]; rfl
  · rw [List.getElem?_append_right (by decreasing_trivial), show H.length + 1 - H.length = 1 by decreasing_trivial]; rfl
theorem words_run {c : AV} : ∃ G j, exs P Φ [.assign 1 (.lst [(.cS "add"), (.cS "fill"), (.cS "total"), (.cS "least"), (.cS "place"), (.cS "first"), (.cS "list"), (.cS "back")]),
    .assign 1 (.bin .add (.var 1) (.lst [(.cS ""), (.cS "Add"), (.cS "adds"), (.cS "ADD"), (.cS "sum"), (.cS "min"), (.cS "undo"), (.cS "length"), (.cS "max"), (.cS "mean"), (.cS "sub"), (.cS "set"), (.cS "put")])),
    .assign 1 (.bin .add (.var 1) (.lst [(.cS "count"), (.cS "made"), (.cS "even"), (.cS "added"), (.cS "filled"), (.cS "listed"), (.cS "clear"), (.cS "average"), (.cS "reverse"), (.cS "replace")]))] [some c, none, none, none] H = .ok (.next [some c, some (.ref j), none, none]) (H ++ G) ∧ (H ++ G)[j]? = some (.list true (WS.map .str)) := by
  obtain ⟨G1, j1, a1, a2⟩ := join_lst (P := P) (Φ := Φ) (H := H ++ [.list true (W8.map .str)]) (ρ := [some c, some (.ref H.length), none, none]) (x := 1) (i := H.length) (l1 := W8) (l2 := W13) (es := [(.cS ""), (.cS "Add"), (.cS "adds"), (.cS "ADD"), (.cS "sum"), (.cS "min"), (.cS "undo"), (.cS "length"), (.cS "max"), (.cS "mean"), (.cS "sub"), (.cS "set"), (.cS "put")]) rfl at_len rfl (by decide)
  obtain ⟨G2, j2, b1, b2⟩ := join_lst (P := P) (Φ := Φ) (H := H ++ [.list true (W8.map .str)] ++ G1) (ρ := [some c, some (.ref j1), none, none]) (x := 1) (i := j1) (l1 := W8 ++ W13) (l2 := W10) (es := [(.cS "count"), (.cS "made"), (.cS "even"), (.cS "added"), (.cS "filled"), (.cS "listed"), (.cS "clear"), (.cS "average"), (.cS "reverse"), (.cS "replace")]) rfl a2 rfl (by decide)
  refine ⟨[.list true (W8.map .str)] ++ G1 ++ G2, j2, ?_, ?_⟩
  · rw [← List.append_assoc, ← List.append_assoc]
    exact x_seq (x_assign (e_lst (vs := W8.map .str) rfl)) (x_seq (x_assign a1) (x_seq (x_assign b1) rfl))
  · rw [← List.append_assoc, ← List.append_assoc]; exact b2
noncomputable def ABC : Str := "abcdefghijklmnopqrstuvwxyz"
theorem abc_good : ABC.cps.toList.all (· < 128) = true ∧ ABC.cps.toList.length = 26 := by decide +kernel
theorem sg_of {x : Str} (h : Asc x) {k : Nat} (hk : k < x.length) : ∃ c, x.cps.toList[k]? = some c ∧ c < 128 := by
  have hk : k < x.cps.toList.length := by rw [list_len]; exact hk
  exact ⟨x.cps.toList[k], List.getElem?_eq_getElem hk, h _ (List.getElem_mem hk)⟩
theorem word_ok (K : PK P) (c : Int) : ∃ w G, callN P (n + 1) "_law_word_by" [.int c] H = .ok (.str w) (H ++ G) ∧ Asc w ∧ w.length ≤ 10 := by
  obtain ⟨G, j, e1, hj⟩ := words_run (P := P) (Φ := callN P n) (H := H) (c := .int c)
  have mdv : ∀ {ρ : Rho} {G : AH} (a b : Int), ρ[0]?.join = some (.int c) → 0 < a → a < 18446744073709551616 → 0 < b → b < 18446744073709551616 → ev P (callN P n) (.bin .mod (.bin .fdiv (.var 0) (.cI a)) (.cI b)) ρ G = .ok (.int ((c.fdiv a).fmod b)) G := fun a b h0 h1 h2 h3 h4 => e_bin (e_bin (e_var h0) e_cI (dv _ h1 h2)) e_cI (md _ h3 h4)
  have run : ∀ {w : Str}, Asc w ∧ w.length ≤ 10 → exs P (callN P n) [.ite (.cmp .gt (.bin .mod (.var 0) (.cI 4)) (.cI 0)) [.ret (.idx (.var 1) (.bin .mod (.bin .fdiv (.var 0) (.cI 4)) (.cI 8)))] [],
      .ite (.cmp .eq (.bin .mod (.var 0) (.cI 8)) (.cI 0)) [.ret (.idx (.var 1) (.bin .add (.cI 8) (.bin .mod (.bin .fdiv (.var 0) (.cI 8)) (.cI 23))))] [],
      .assign 2 (.cS ""),
      .for_ 3 (.rng [(.bin .add (.cI 1) (.bin .mod (.bin .fdiv (.var 0) (.cI 8)) (.cI 10)))]) [.assign 2 (.bin .add (.var 2) (.idx (.cS "abcdefghijklmnopqrstuvwxyz") (.bin .mod (.bin .add (.bin .fdiv (.var 0) (.cI 48)) (.bin .mul (.var 3) (.bin .fdiv (.var 0) (.cI 7)))) (.cI 26))))],
      .ret (.var 2)] [some (.int c), some (.ref j), none, none] (H ++ G) = .ok (.ret (.str w)) (H ++ G) → ∃ w G, callN P (n + 1) "_law_word_by" [.int c] H = .ok (.str w) (H ++ G) ∧ Asc w ∧ w.length ≤ 10 := fun {w} hw h => ⟨w, G, callN_at K.word rfl (fl := .ret (.str w)) ((exs_app (b := _) e1).trans h), hw⟩
  by_cases q1 : c.fmod 4 > 0
  · obtain ⟨k, hk, hk'⟩ := fm (x := c.fdiv 4) (y := 8) (by decide)
    obtain ⟨s, hs, hg⟩ := pick WS_good (k := k) (by rw [WS_len]; decreasing_trivial)
    refine run hg (x_stop (x_if (c := true) (e_cmp (e_bin (e_var rfl) e_cI (md _ (by decide) (by decide))) e_cI (gt_yes q1)) (x_stop (x_ret (e_idx rfl (e_var rfl) (mdv 4 8 rfl (by decide) (by decide) (by decide) (by decide)) (idx_at hj (n := k) hk (by decreasing_trivial) ?_))))))
    rw [List.getElem?_map, hs]; rfl
  · have s1 : ex P (callN P n) (.ite (.cmp .gt (.bin .mod (.var 0) (.cI 4)) (.cI 0)) [.ret (.idx (.var 1) (.bin .mod (.bin .fdiv (.var 0) (.cI 4)) (.cI 8)))] []) [some (.int c), some (.ref j), none, none] (H ++ G) = .ok (.next [some (.int c), some (.ref j), none, none]) (H ++ G) := x_not (e_cmp (e_bin (e_var rfl) e_cI (md _ (by decide) (by decide))) e_cI (gt_no q1))
    by_cases q2 : c.fmod 8 = 0
    · obtain ⟨k, hk, hk'⟩ := fm (x := c.fdiv 8) (y := 23) (by decide)
      obtain ⟨s, hs, hg⟩ := pick WS_good (k := 8 + k) (by rw [WS_len]; decreasing_trivial)
      refine run hg (x_seq s1 (x_stop (x_if (c := true) (e_cmp (e_bin (e_var rfl) e_cI (md _ (by decide) (by decide))) e_cI (eq_yes q2)) (x_stop (x_ret (e_idx rfl (e_var rfl) (e_bin e_cI (mdv 8 23 rfl (by decide) (by decide) (by decide) (by decide)) rfl) (idx_at hj (n := 8 + k) ?_ (by decreasing_trivial) ?_)))))))
      · show (8 : Int) + (c.fdiv 8).fmod 23 = _
        have hk : (c.fdiv 8).fmod 23 = k := hk
        rw [hk]; decreasing_trivial
      · rw [List.getElem?_map, hs]; rfl
    · have s2 : ex P (callN P n) (.ite (.cmp .eq (.bin .mod (.var 0) (.cI 8)) (.cI 0)) [.ret (.idx (.var 1) (.bin .add (.cI 8) (.bin .mod (.bin .fdiv (.var 0) (.cI 8)) (.cI 23))))] []) [some (.int c), some (.ref j), none, none] (H ++ G) = .ok (.next [some (.int c), some (.ref j), none, none]) (H ++ G) := x_not (e_cmp (e_bin (e_var rfl) e_cI (md _ (by decide) (by decide))) e_cI (eq_no q2))
      obtain ⟨k, hk, hk'⟩ := fm (x := c.fdiv 8) (y := 10) (by decide)
      have hk : (c.fdiv 8).fmod 10 = k := hk
      have hrg : evI P (callN P n) (.rng [(.bin .add (.cI 1) (.bin .mod (.bin .fdiv (.var 0) (.cI 8)) (.cI 10)))]) [some (.int c), some (.ref j), some (.str (Str.ofString "")), none] (H ++ G) = .ok (.fix ((List.range (k + 1)).map fun (k : Nat) => AV.int k)) (H ++ G) := by
        refine i_rng (es_1 (e_bin e_cI (mdv 8 10 rfl (by decide) (by decide) (by decide) (by decide)) rfl)) ?_
        rw [hk, show (1 : Int) + (k : Int) = ((k + 1 : Nat) : Int) by decreasing_trivial]
        exact itRange_nat (by decreasing_trivial)
      obtain ⟨ρ', H', e2, hJ⟩ := loop_inv (it := .fix ((List.range (k + 1)).map fun (k : Nat) => AV.int k)) (x := 3) (run := exs P (callN P n) [.assign 2 (.bin .add (.var 2) (.idx (.cS "abcdefghijklmnopqrstuvwxyz") (.bin .mod (.bin .add (.bin .fdiv (.var 0) (.cI 48)) (.bin .mul (.var 3) (.bin .fdiv (.var 0) (.cI 7)))) (.cI 26))))]) (n := k + 1)
        (fun i ρ G' => ∃ s v, ρ = [some (.int c), some (.ref j), some (.str s), v] ∧ G' = H ++ G ∧ s.length = i ∧ Asc s) (fun i ρ G' hi hJ => by
          obtain ⟨s, v, rfl, rfl, hl, ha⟩ := hJ
          obtain ⟨m, hm, hm'⟩ := fm (x := c.fdiv 48 + (i : Int) * c.fdiv 7) (y := 26) (by decide)
          have hm : (c.fdiv 48 + (i : Int) * c.fdiv 7).fmod 26 = m := hm
          obtain ⟨z, hz, hz'⟩ := sg_of (x := ABC) (fun d hd => of_decide_eq_true (List.all_eq_true.mp abc_good.1 d hd)) (k := m) (by rw [← list_len, abc_good.2]; exact hm')
          refine ⟨.int i, _, _, ?_, x_seq (x_assign (e_bin (e_var rfl) (e_idx rfl e_cS (e_bin (e_bin (e_bin (e_var rfl) e_cI (dv _ (by decide) (by decide))) (e_bin (e_var rfl) (e_bin (e_var rfl) e_cI (dv _ (by decide) (by decide))) (bin_mul (mulOk_left (by decreasing_trivial)) _)) rfl) e_cI (md _ (by decide) (by decide))) (idx_str (x := ABC) (k := m) (c := z) hm (by decreasing_trivial) hz)) (add_str (by rw [hl]; show i + 1 ≤ _; decreasing_trivial)))) rfl, s ++ ⟨#[z]⟩, _, rfl, rfl, ?_, ha.app (Asc.sg hz')⟩
          · show ((List.range (k + 1)).map fun (k : Nat) => AV.int k)[i]? = _
            rw [List.getElem?_map, List.getElem?_range hi]; rfl
          · rw [str_len, hl]; rfl) (fun ρ G' _ => ⟨_, rfl⟩) (k + 1) 0 [some (.int c), some (.ref j), some (.str (Str.ofString "")), none] (H ++ G) (Nat.zero_add _) ⟨Str.ofString "", none, rfl, rfl, by decide +kernel, asc_of (by decide +kernel)⟩
      obtain ⟨s, v, rfl, rfl, hl, ha⟩ := hJ
      have hlen : (It.fix ((List.range (k + 1)).map fun (k : Nat) => AV.int k)).len = k + 1 := by show List.length _ = _; rw [List.length_map, List.length_range]
      have e3 := (congrArg (fun r => loopA (It.fix ((List.range (k + 1)).map fun (k : Nat) => AV.int k)) 3 (exs P (callN P n) [.assign 2 (.bin .add (.var 2) (.idx (.cS "abcdefghijklmnopqrstuvwxyz") (.bin .mod (.bin .add (.bin .fdiv (.var 0) (.cI 48)) (.bin .mul (.var 3) (.bin .fdiv (.var 0) (.cI 7)))) (.cI 26))))]) r 0 [some (.int c), some (.ref j), some (.str (Str.ofString "")), none] (H ++ G)) hlen).trans e2
      exact run ⟨ha, by decreasing_trivial⟩ (x_seq s1 (x_seq s2 (x_seq (x_assign e_cS) (x_seq (x_for hrg e3) (x_stop (x_ret (e_var rfl)))))))
end
end Mine

/-! ## part S13 -/
namespace Mine
open PySem PySem.NumText

theorem sh_asc {v : Int} (h : 0 ≤ v) : Asc (sh v) := by
  obtain ⟨m, rfl⟩ := Int.eq_ofNat_of_zero_le h
  intro c hc
  unfold sh at hc
  rw [PySem.W.KIN.signs_num] at hc
  obtain ⟨ch, hch, rfl⟩ := List.mem_map.mp hc
  have := Nat.isDigit_of_mem_toDigits (by decide) (by decide) hch
  unfold Char.isDigit at this
  have h2 := (Bool.and_eq_true_iff.mp this).2
  have h3 : ch.val ≤ 57 := of_decide_eq_true h2
  exact Nat.lt_of_le_of_lt (show ch.toNat ≤ 57 from h3) (by decide)
theorem sh_len {v : Int} (h : 0 ≤ v) {k : Nat} (hk : 0 < k) (hv : v < 10 ^ k) : (sh v).length ≤ k := PyProof.Rows.toString_length_le h hk hv
theorem sh_log {v : Int} (h : 0 ≤ v) (hv : v < 10 ^ 59) : v.natAbs.log2 < 1920 := by
  refine log_lt (k := 59) ?_ (by decide)
  have : (v.natAbs : Int) = v := by decreasing_trivial
  have h2 : ((v.natAbs : Nat) : Int) < ((10 ^ 59 : Nat) : Int) := by rw [this]; exact hv
  exact Int.ofNat_lt.mp h2
theorem sh_small : ∀ k : Nat, k < 41 → goodB 3 (sh ((k : Int) - 20)) = true := by decide +kernel
theorem small_log : ∀ k : Nat, k < 41 → ((k : Int) - 20).natAbs.log2 < 1920 := by decide +kernel
noncomputable def FZ : List Str := ["-0", "0", "00", "-00", "0", "-0"]
noncomputable def OD1 : List Str := ["", "-", "-0", "+1", "01", "-01", "00", "1.5", "--1", "1-"]
noncomputable def OD2 : List Str := ["a", "1a", "1e3", "0x1", "1_0", "None", "-+2", "1,0"]
theorem FZ_good : FZ.all (goodB 3) = true := by decide +kernel
theorem OD_good : (OD1 ++ OD2).all (goodB 4) = true := by decide +kernel
/-- the two lids of the numbers -/
structure Most (m : Int) : Prop where
  pos : 0 < m
  le : m ≤ 10 ^ 59
  ok : divOk m = true
  pos' : 0 < m.fdiv 1000
  le' : m.fdiv 1000 ≤ 10 ^ 56
  ok' : divOk (m.fdiv 1000) = true
theorem most59 : Most (10 ^ 59) := ⟨by decide +kernel, by decide +kernel, by decide +kernel, by decide +kernel, by decide +kernel, by decide +kernel⟩
theorem most29 : Most (10 ^ 29) := ⟨by decide +kernel, by decide +kernel, by decide +kernel, by decide +kernel, by decide +kernel, by decide +kernel⟩

section
variable {P : Pg} {H : AH} {n : Nat}
theorem figs_ok (K : PK P) (c : Int) {most : Int} (M : Most most) : ∃ x G, callN P (n + 1) "_law_figures_by" [.int c, .int most] H = .ok (.str x) (H ++ G) ∧ Asc x ∧ x.length ≤ 60 := by
  have done : ∀ {x : Str} {G : AH}, exs P (callN P n) f_law_figures_by.body [some (.int c), some (.int most), none, none] H = .ok (.ret (.str x)) (H ++ G) → Asc x → x.length ≤ 60 → ∃ x G, callN P (n + 1) "_law_figures_by" [.int c, .int most] H = .ok (.str x) (H ++ G) ∧ Asc x ∧ x.length ≤ 60 := fun {x G} h h1 h2 => ⟨x, G, callN_at K.figs rfl (fl := .ret (.str x)) h, h1, h2⟩
  have test : ∀ {G : AH} (k : Int), ev P (callN P n) (.cmp .eq (.bin .mod (.var 0) (.cI 8)) (.cI k)) [some (.int c), some (.int most), none, none] G = .ok (.bool (decide (c.fmod 8 = k))) G := fun k => e_cmp (e_bin (e_var rfl) e_cI (md _ (by decide) (by decide))) e_cI (cmp_eq _ _ _)
  have b1 := fmod_bd (x := c.fdiv 8) M.pos
  have l1 : (c.fdiv 8).fmod most < 10 ^ 59 := Int.lt_of_lt_of_le b1.2 M.le
  have n1 : ∀ {ρ : Rho} {G : AH}, ρ[0]?.join = some (.int c) → ρ[1]?.join = some (.int most) → ev P (callN P n) (.str_ (.bin .mod (.bin .fdiv (.var 0) (.cI 8)) (.var 1))) ρ G = .ok (.str (sh ((c.fdiv 8).fmod most))) G := fun h0 h1 => e_str_ (e_bin (e_bin (e_var h0) e_cI (dv _ (by decide) (by decide))) (e_var h1) (bin_mod M.ok _)) (str_int (sh_log b1.1 l1))
  have mdv : ∀ {ρ : Rho} {G : AH} (b : Int), ρ[0]?.join = some (.int c) → 0 < b → b < 18446744073709551616 → ev P (callN P n) (.bin .mod (.bin .fdiv (.var 0) (.cI 8)) (.cI b)) ρ G = .ok (.int ((c.fdiv 8).fmod b)) G := fun b h0 h3 h4 => e_bin (e_bin (e_var h0) e_cI (dv _ (by decide) (by decide))) e_cI (md _ h3 h4)
  by_cases q1 : c.fmod 8 = 1
  · exact done (G := []) (by rw [List.append_nil]; exact x_stop (x_if (c := true) ((test 1).trans (by rw [decide_eq_true q1])) (x_stop (x_ret (n1 rfl rfl))))) (sh_asc b1.1) (Nat.le_trans (sh_len b1.1 (by decide) l1) (by decide))
  have s1 : ex P (callN P n) (.ite (.cmp .eq (.bin .mod (.var 0) (.cI 8)) (.cI 1)) [.ret (.str_ (.bin .mod (.bin .fdiv (.var 0) (.cI 8)) (.var 1)))] []) [some (.int c), some (.int most), none, none] H = .ok (.next [some (.int c), some (.int most), none, none]) H := x_not ((test 1).trans (by rw [decide_eq_false q1]))
  have hd : (Str.ofString "-").length = 1 := by decide +kernel
  by_cases q2 : c.fmod 8 = 2
  · have hl := sh_len b1.1 (k := 59) (by decide) l1
    exact done (G := []) (by rw [List.append_nil]; exact x_seq s1 (x_stop (x_if (c := true) ((test 2).trans (by rw [decide_eq_true q2])) (x_stop (x_ret (e_bin e_cS (n1 rfl rfl) (add_str (by rw [hd]; decreasing_trivial)))))))) ((asc_of (by decide +kernel)).app (sh_asc b1.1)) (by rw [str_len, hd]; decreasing_trivial)
  have s2 : ex P (callN P n) (.ite (.cmp .eq (.bin .mod (.var 0) (.cI 8)) (.cI 2)) [.ret (.bin .add (.cS "-") (.str_ (.bin .mod (.bin .fdiv (.var 0) (.cI 8)) (.var 1))))] []) [some (.int c), some (.int most), none, none] H = .ok (.next [some (.int c), some (.int most), none, none]) H := x_not ((test 2).trans (by rw [decide_eq_false q2]))
  by_cases q3 : c.fmod 8 = 4
  · have b2 := fmod_bd (x := c.fdiv 48) M.pos'
    have l2 : (c.fdiv 48).fmod (most.fdiv 1000) < 10 ^ 56 := Int.lt_of_lt_of_le b2.2 M.le'
    have hl2 := sh_len b2.1 (k := 56) (by decide) l2
    have g2 : Asc (sh ((c.fdiv 48).fmod (most.fdiv 1000))) ∧ (sh ((c.fdiv 48).fmod (most.fdiv 1000))).length ≤ 56 := ⟨sh_asc b2.1, hl2⟩
    obtain ⟨k, hk, hk'⟩ := fm (x := c.fdiv 8) (y := 4) (by decide)
    have hk : (c.fdiv 8).fmod 4 = k := hk
    obtain ⟨m, hm, hm'⟩ := fm (x := c.fdiv 8) (y := 6) (by decide)
    have hm : (c.fdiv 8).fmod 6 = m := hm
    obtain ⟨z, hz, hza, hzl⟩ := pick FZ_good (k := m) hm'
    have hT : ∃ t : Str, ([AV.str "", AV.str "", AV.str "7", AV.str (sh ((c.fdiv 48).fmod (most.fdiv 1000)))] : List AV)[k]? = some (.str t) ∧ Asc t ∧ t.length ≤ 56 := by
      match k, hk' with
      | 0, _ => exact ⟨_, rfl, asc_of (by decide +kernel), by decide +kernel⟩
      | 1, _ => exact ⟨_, rfl, asc_of (by decide +kernel), by decide +kernel⟩
      | 2, _ => exact ⟨_, rfl, asc_of (by decide +kernel), by decide +kernel⟩
      | 3, _ => exact ⟨_, rfl, g2⟩
      | _ + 4, h => exact absurd h (by decreasing_trivial)
    obtain ⟨t, ht, hta, htl⟩ := hT
    have e4 : ev P (callN P n) (.idx (.lst [(.cS ""), (.cS ""), (.cS "7"), (.str_ (.bin .mod (.bin .fdiv (.var 0) (.cI 48)) (.bin .fdiv (.var 1) (.cI 1000))))]) (.bin .mod (.bin .fdiv (.var 0) (.cI 8)) (.cI 4))) [some (.int c), some (.int most), none, none] H = .ok (.str t) (H ++ [.list true [AV.str "", AV.str "", AV.str "7", AV.str (sh ((c.fdiv 48).fmod (most.fdiv 1000)))]]) :=
      e_idx rfl (e_lst (es_cons e_cS (es_cons e_cS (es_cons e_cS (es_1 (e_str_ (e_bin (e_bin (e_var rfl) e_cI (dv _ (by decide) (by decide))) (e_bin (e_var rfl) e_cI (dv _ (by decide) (by decide))) (bin_mod M.ok' _)) (str_int (sh_log b2.1 (Int.lt_trans l2 (by decide +kernel)))))))))) (mdv 4 rfl (by decide) (by decide)) (idx_at at_len (n := k) hk (by decreasing_trivial) ht)
    have e5 : ∀ {G : AH}, ev P (callN P n) (.bin .add (.idx (.lst [(.cS "-0"), (.cS "0"), (.cS "00"), (.cS "-00"), (.cS "0"), (.cS "-0")]) (.bin .mod (.bin .fdiv (.var 0) (.cI 8)) (.cI 6))) (.var 2)) [some (.int c), some (.int most), some (.str t), none] G = .ok (.str (z ++ t)) (G ++ [.list true (FZ.map .str)]) := fun {G} =>
      e_bin (e_idx rfl (e_lst (vs := FZ.map .str) rfl) (mdv 6 rfl (by decide) (by decide)) (idx_at at_len (n := m) hm (by decreasing_trivial) (by rw [List.getElem?_map, hz]; rfl))) (e_var rfl) (add_str (by decreasing_trivial))
    refine done (x := z ++ t) (G := [.list true [AV.str "", AV.str "", AV.str "7", AV.str (sh ((c.fdiv 48).fmod (most.fdiv 1000)))]] ++ [.list true (FZ.map .str)]) ?_ (hza.app hta) (by rw [str_len]; decreasing_trivial)
    rw [← List.append_assoc]
    exact x_seq s1 (x_seq s2 (x_stop (x_if (c := true) ((test 4).trans (by rw [decide_eq_true q3])) (x_seq (x_assign e4) (x_stop (x_ret e5))))))
  have s3 : ex P (callN P n) (.ite (.cmp .eq (.bin .mod (.var 0) (.cI 8)) (.cI 4)) [.assign 2 (.idx (.lst [(.cS ""), (.cS ""), (.cS "7"), (.str_ (.bin .mod (.bin .fdiv (.var 0) (.cI 48)) (.bin .fdiv (.var 1) (.cI 1000))))]) (.bin .mod (.bin .fdiv (.var 0) (.cI 8)) (.cI 4))), .ret (.bin .add (.idx (.lst [(.cS "-0"), (.cS "0"), (.cS "00"), (.cS "-00"), (.cS "0"), (.cS "-0")]) (.bin .mod (.bin .fdiv (.var 0) (.cI 8)) (.cI 6))) (.var 2))] []) [some (.int c), some (.int most), none, none] H = .ok (.next [some (.int c), some (.int most), none, none]) H := x_not ((test 4).trans (by rw [decide_eq_false q3]))
  by_cases q4 : c.fmod 8 = 3
  · obtain ⟨k, hk, hk'⟩ := fm (x := c.fdiv 8) (y := 18) (by decide)
    have hk : (c.fdiv 8).fmod 18 = k := hk
    obtain ⟨z, hz, hza, hzl⟩ := pick OD_good (k := k) (show k < 18 from hk')
    obtain ⟨G1, j1, a1, a2⟩ := join_lst (P := P) (Φ := callN P n) (H := H ++ [.list true (OD1.map .str)]) (ρ := [some (.int c), some (.int most), none, some (.ref H.length)]) (x := 3) (i := H.length) (l1 := OD1) (l2 := OD2) (es := [(.cS "a"), (.cS "1a"), (.cS "1e3"), (.cS "0x1"), (.cS "1_0"), (.cS "None"), (.cS "-+2"), (.cS "1,0")]) rfl at_len rfl (by decide)
    refine done (x := z) (G := [.list true (OD1.map .str)] ++ G1) ?_ hza (Nat.le_trans hzl (by decide))
    rw [← List.append_assoc]
    exact x_seq s1 (x_seq s2 (x_seq s3 (x_stop (x_if (c := true) ((test 3).trans (by rw [decide_eq_true q4])) (x_seq (x_assign (e_lst (vs := OD1.map .str) rfl)) (x_seq (x_assign a1) (x_stop (x_ret (e_idx rfl (e_var rfl) (mdv 18 rfl (by decide) (by decide)) (idx_at a2 (n := k) hk (by decreasing_trivial) (by rw [List.getElem?_map, hz]; rfl)))))))))))
  have s4 : ex P (callN P n) (.ite (.cmp .eq (.bin .mod (.var 0) (.cI 8)) (.cI 3)) [.assign 3 (.lst [(.cS ""), (.cS "-"), (.cS "-0"), (.cS "+1"), (.cS "01"), (.cS "-01"), (.cS "00"), (.cS "1.5"), (.cS "--1"), (.cS "1-")]), .assign 3 (.bin .add (.var 3) (.lst [(.cS "a"), (.cS "1a"), (.cS "1e3"), (.cS "0x1"), (.cS "1_0"), (.cS "None"), (.cS "-+2"), (.cS "1,0")])), .ret (.idx (.var 3) (.bin .mod (.bin .fdiv (.var 0) (.cI 8)) (.cI 18)))] []) [some (.int c), some (.int most), none, none] H = .ok (.next [some (.int c), some (.int most), none, none]) H := x_not ((test 3).trans (by rw [decide_eq_false q4]))
  obtain ⟨k, hk, hk'⟩ := fm (x := c.fdiv 8) (y := 41) (by decide)
  have hk : (c.fdiv 8).fmod 41 = k := hk
  obtain ⟨g1, g2⟩ := good_of (sh_small k hk')
  refine done (x := sh ((k : Int) - 20)) (G := []) ?_ g1 (Nat.le_trans g2 (by decide))
  rw [List.append_nil]
  refine x_seq s1 (x_seq s2 (x_seq s3 (x_seq s4 (x_stop (x_ret (e_str_ (e_bin (mdv 41 rfl (by decide) (by decide)) e_cI rfl) ?_))))))
  rw [hk]
  exact str_int (small_log k hk')

noncomputable def SG1 : Str := " !\"#$&'()*+,-./0123456789:;<=>?@ABCDEFGHIJKLMNOPQRSTUVWXYZ[\\]^_`"
noncomputable def SG2 : Str := "abcdefghijklmnopqrstuvwxyz{|}~\n\t"
theorem SG_good : ascB SG1 = true ∧ ascB SG2 = true ∧ SG1.length + SG2.length = 96 := by decide +kernel
theorem signs_ok (K : PK P) : callN P (n + 1) "_law_signs" [] H = .ok (.str (SG1 ++ SG2)) H := by
  have h := SG_good.2.2
  exact callN_at K.signs rfl (fl := .ret (.str (SG1 ++ SG2))) (x_seq (x_assign e_cS) (x_stop (x_ret (e_bin (e_var rfl) e_cS (add_str (x := SG1) (y := SG2) (by decreasing_trivial))))))
/-- one of the signs -/
theorem sign_at (k : Nat) (hk : k < 96) : ∃ c, (SG1 ++ SG2).cps.toList[k]? = some c ∧ c < 128 :=
  sg_of ((asc_of SG_good.1).app (asc_of SG_good.2.1)) (by rw [str_len, SG_good.2.2]; exact hk)
end
end Mine

/-! ## part S14 -/
namespace Mine
open PySem PySem.NumText

/-- the calls of the law's own frame -/
noncomputable def PhiOk (P : Pg) (Φ : Calls) : Prop := ∀ f : Str, f ≠ "_law_refused_by_any" → ∀ a H, Φ f a H = callN P 21 f a H
/-- a text at hand: its signs are plain, it is not long -/
noncomputable def Sm400 (m : Nat) (s : Str) : Prop := Asc s ∧ s.length ≤ m

section
variable {P : Pg} {Φ : Calls} {ns : List Int}
theorem cl (K : PK P) (F : PhiOk P Φ) (hn : ns.length ≤ 1000) {G : AH} {ρ : Rho} (k : Nat) (hk : k ≤ 1000) (hG : G[0]? = some (.list false (ns.map .int))) (h0 : ρ[0]?.join = some (.ref 0)) {e : ME} (he : ev P Φ e ρ G = .ok (.int k) G) : ev P Φ (.call "_law_cell_at" [(.var 0), e]) ρ G = .ok (.int (cell ns k)) G :=
  e_call K.cell (es_2 (e_var h0) he) ((F "_law_cell_at" (by decide) _ _).trans (cell_at (n := 20) K hG hn k hk))
theorem clI (K : PK P) (F : PhiOk P Φ) (hn : ns.length ≤ 1000) {G : AH} {ρ : Rho} (k : Nat) (hk : k ≤ 1000) (hG : G[0]? = some (.list false (ns.map .int))) (h0 : ρ[0]?.join = some (.ref 0)) : ev P Φ (.call "_law_cell_at" [(.var 0), (.cI k)]) ρ G = .ok (.int (cell ns k)) G := cl K F hn k hk hG h0 e_cI
theorem slF_str' {x : Str} {H : AH} {k : Nat} {i : Int} (hi : i = k) (h : x.length ≤ 100000) : sliceF (.str x) (.int i) H = .ok (.str (tx (x.cps.toList.drop k))) H := by subst hi; exact slF_str h

/-- the first word, and how many numbers -/
theorem pre1 (K : PK P) (F : PhiOk P Φ) (hn : ns.length ≤ 1000) {H : AH} (hG : H[0]? = some (.list false (ns.map .int))) : ∃ w m most G, exs P Φ [.assign 1 (.call "_law_word_by" [(.call "_law_cell_at" [(.var 0), (.cI 0)])]),
    .assign 2 (.bi .max [(.call "_law_count" [(.var 1)]), (.cI 0)]),
    .ite (.cmp .eq (.bin .mod (.call "_law_cell_at" [(.var 0), (.cI 1)]) (.cI 2)) (.cI 1)) [.assign 2 (.bin .mod (.bin .fdiv (.call "_law_cell_at" [(.var 0), (.cI 1)]) (.cI 2)) (.cI 5))] [],
    .assign 3 (.bin .pow (.cI 10) (.cI 59)),
    .ite (.cmp .gt (.bin .mod (.call "_law_cell_at" [(.var 0), (.cI 6)]) (.cI 7)) (.cI 2)) [.assign 3 (.bin .pow (.cI 10) (.cI 29))] [],
    .assign 4 (.var 1)] (some (.ref 0) :: List.replicate 11 none) H = .ok (.next [some (.ref 0), some (.str w), some (.int (m : Nat)), some (.int most), some (.str w), none, none, none, none, none, none, none]) (H ++ G) ∧ m ≤ 4 ∧ Most most ∧ Sm400 10 w := by
  obtain ⟨w, G1, e1, hw, hwl⟩ := word_ok (P := P) (n := 20) (H := H) K (cell ns 0)
  obtain ⟨G2, e2⟩ := count_ok (P := P) (n := 20) (H := H ++ G1) (w := w) K hw
  have g1 : (H ++ G1)[0]? = some (.list false (ns.map .int)) := pre_at hG
  have g2 : (H ++ G1 ++ G2)[0]? = some (.list false (ns.map .int)) := pre_at g1
  have s1 : ex P Φ (.assign 1 (.call "_law_word_by" [(.call "_law_cell_at" [(.var 0), (.cI 0)])])) (some (.ref 0) :: List.replicate 11 none) H = .ok (.next [some (.ref 0), some (.str w), none, none, none, none, none, none, none, none, none, none]) (H ++ G1) := x_assign (e_call K.word (es_1 (clI K F hn 0 (by decide) hG rfl)) ((F "_law_word_by" (by decide) _ _).trans e1))
  have bd := cnt_bd w
  obtain ⟨m0, hm0, hm0'⟩ : ∃ m0 : Nat, (if cntI w < 0 then 0 else cntI w) = (m0 : Int) ∧ m0 ≤ 4 := by
    split
    · exact ⟨0, rfl, by decide⟩
    · exact ⟨(cntI w).toNat, by decreasing_trivial, by decreasing_trivial⟩
  have s2 : ex P Φ (.assign 2 (.bi .max [(.call "_law_count" [(.var 1)]), (.cI 0)])) [some (.ref 0), some (.str w), none, none, none, none, none, none, none, none, none, none] (H ++ G1) = .ok (.next [some (.ref 0), some (.str w), some (.int (m0 : Nat)), none, none, none, none, none, none, none, none, none]) (H ++ G1 ++ G2) := by
    refine x_assign (e_bi (es_2 (e_call K.count (es_1 (e_var rfl)) ((F "_law_count" (by decide) _ _).trans e2)) e_cI) ?_)
    show Res.ok (AV.int (if cntI w < 0 then 0 else cntI w)) _ = _
    rw [hm0]
  have c1 : ∀ {ρ : Rho}, ρ[0]?.join = some (.ref 0) → ev P Φ (.cmp .eq (.bin .mod (.call "_law_cell_at" [(.var 0), (.cI 1)]) (.cI 2)) (.cI 1)) ρ (H ++ G1 ++ G2) = .ok (.bool (decide ((cell ns 1).fmod 2 = 1))) (H ++ G1 ++ G2) := fun h0 => e_cmp (e_bin (clI K F hn 1 (by decide) g2 h0) e_cI (md _ (by decide) (by decide))) e_cI (cmp_eq _ _ _)
  obtain ⟨m, hm, s3⟩ : ∃ m : Nat, m ≤ 4 ∧ ex P Φ (.ite (.cmp .eq (.bin .mod (.call "_law_cell_at" [(.var 0), (.cI 1)]) (.cI 2)) (.cI 1)) [.assign 2 (.bin .mod (.bin .fdiv (.call "_law_cell_at" [(.var 0), (.cI 1)]) (.cI 2)) (.cI 5))] []) [some (.ref 0), some (.str w), some (.int (m0 : Nat)), none, none, none, none, none, none, none, none, none] (H ++ G1 ++ G2) = .ok (.next [some (.ref 0), some (.str w), some (.int (m : Nat)), none, none, none, none, none, none, none, none, none]) (H ++ G1 ++ G2) := by
    by_cases q : (cell ns 1).fmod 2 = 1
    · obtain ⟨k, hk, hk'⟩ := fm (x := (cell ns 1).fdiv 2) (y := 5) (by decide)
      have hk : ((cell ns 1).fdiv 2).fmod 5 = k := hk
      refine ⟨k, by decreasing_trivial, x_if (c := true) ((c1 rfl).trans (by rw [decide_eq_true q])) (x_seq (x_assign (e_bin (e_bin (clI K F hn 1 (by decide) g2 rfl) e_cI (dv _ (by decide) (by decide))) e_cI (md _ (by decide) (by decide)))) ?_)⟩
      rw [hk]; rfl
    · exact ⟨m0, hm0', x_not ((c1 rfl).trans (by rw [decide_eq_false q]))⟩
  have c2 : ∀ {ρ : Rho}, ρ[0]?.join = some (.ref 0) → ev P Φ (.cmp .gt (.bin .mod (.call "_law_cell_at" [(.var 0), (.cI 6)]) (.cI 7)) (.cI 2)) ρ (H ++ G1 ++ G2) = .ok (.bool (decide (2 < (cell ns 6).fmod 7))) (H ++ G1 ++ G2) := fun h0 => e_cmp (e_bin (clI K F hn 6 (by decide) g2 h0) e_cI (md _ (by decide) (by decide))) e_cI rfl
  have s4 : ex P Φ (.assign 3 (.bin .pow (.cI 10) (.cI 59))) [some (.ref 0), some (.str w), some (.int (m : Nat)), none, none, none, none, none, none, none, none, none] (H ++ G1 ++ G2) = .ok (.next [some (.ref 0), some (.str w), some (.int (m : Nat)), some (.int (10 ^ 59)), none, none, none, none, none, none, none, none]) (H ++ G1 ++ G2) := x_assign (e_bin e_cI e_cI (bin_pow (k := 59) (by decide) (by decide) _))
  obtain ⟨most, hM, s5⟩ : ∃ most, Most most ∧ ex P Φ (.ite (.cmp .gt (.bin .mod (.call "_law_cell_at" [(.var 0), (.cI 6)]) (.cI 7)) (.cI 2)) [.assign 3 (.bin .pow (.cI 10) (.cI 29))] []) [some (.ref 0), some (.str w), some (.int (m : Nat)), some (.int (10 ^ 59)), none, none, none, none, none, none, none, none] (H ++ G1 ++ G2) = .ok (.next [some (.ref 0), some (.str w), some (.int (m : Nat)), some (.int most), none, none, none, none, none, none, none, none]) (H ++ G1 ++ G2) := by
    by_cases q : 2 < (cell ns 6).fmod 7
    · exact ⟨10 ^ 29, most29, x_if (c := true) ((c2 rfl).trans (by rw [decide_eq_true q])) (x_seq (x_assign (e_bin e_cI e_cI (bin_pow (k := 29) (by decide) (by decide) _))) rfl)⟩
    · exact ⟨10 ^ 59, most59, x_not ((c2 rfl).trans (by rw [decide_eq_false q]))⟩
  refine ⟨w, m, most, G1 ++ G2, ?_, hm, hM, hw, hwl⟩
  rw [← List.append_assoc]
  exact x_seq s1 (x_seq s2 (x_seq s3 (x_seq s4 (x_seq s5 (x_seq (x_assign (e_var rfl)) rfl)))))
/-- the line grows -/
theorem pre2 (K : PK P) (F : PhiOk P Φ) (hn : ns.length ≤ 1000) {H : AH} (hG : H[0]? = some (.list false (ns.map .int))) {w : Str} {m : Nat} {most : Int} (hm : m ≤ 4) (M : Most most) (hw : Sm400 10 w) : ∃ s v G, ex P Φ (.for_ 5 (.rng [(.var 2)]) [.assign 4 (.bin .add (.bin .add (.var 4) (.cS " ")) (.call "_law_figures_by" [(.call "_law_cell_at" [(.var 0), (.bin .add (.cI 2) (.var 5))]), (.var 3)]))]) [some (.ref 0), some (.str w), some (.int m), some (.int most), some (.str w), none, none, none, none, none, none, none] H
    = .ok (.next [some (.ref 0), some (.str w), some (.int m), some (.int most), some (.str s), v, none, none, none, none, none, none]) G ∧ Sm400 254 s ∧ G[0]? = some (.list false (ns.map .int)) := by
  have hsp : (Str.ofString " ").length = 1 := by decide +kernel
  have hrg : evI P Φ (.rng [(.var 2)]) [some (.ref 0), some (.str w), some (.int m), some (.int most), some (.str w), none, none, none, none, none, none, none] H = .ok (.fix ((List.range m).map fun (k : Nat) => AV.int k)) H := i_rng (es_1 (e_var rfl)) (itRange_nat (by decreasing_trivial))
  obtain ⟨ρ', H', e2, hJ⟩ := loop_inv (it := .fix ((List.range m).map fun (k : Nat) => AV.int k)) (x := 5) (run := exs P Φ [.assign 4 (.bin .add (.bin .add (.var 4) (.cS " ")) (.call "_law_figures_by" [(.call "_law_cell_at" [(.var 0), (.bin .add (.cI 2) (.var 5))]), (.var 3)]))]) (n := m)
    (fun i ρ G => ∃ s v, ρ = [some (.ref 0), some (.str w), some (.int m), some (.int most), some (.str s), v, none, none, none, none, none, none] ∧ G[0]? = some (.list false (ns.map .int)) ∧ Sm400 (10 + 61 * i) s) (fun i ρ G hi hJ => by
      obtain ⟨s, v, rfl, hG', ha, hl⟩ := hJ
      obtain ⟨x, G1, ex, hxa, hxl⟩ := figs_ok (P := P) (n := 20) (H := G) K (cell ns (2 + i)) M
      have hl1 : (s ++ Str.ofString " ").length ≤ 10 + 61 * i + 1 := by rw [str_len, hsp]; decreasing_trivial
      refine ⟨.int i, _, _, ?_, x_seq (x_assign (e_bin (e_bin (e_var rfl) e_cS (add_str (by rw [hsp]; decreasing_trivial))) (e_call K.figs (es_2 (cl K F hn (2 + i) (by decreasing_trivial) hG' rfl (e_bin e_cI (e_var rfl) ?_)) (e_var rfl)) ((F "_law_figures_by" (by decide) _ _).trans ex)) (add_str (by decreasing_trivial)))) rfl, s ++ Str.ofString " " ++ x, _, rfl, pre_at hG', (ha.app (asc_of (by decide +kernel))).app hxa, ?_⟩
      · show ((List.range m).map fun (k : Nat) => AV.int k)[i]? = _
        rw [List.getElem?_map, List.getElem?_range hi]; rfl
      · show Res.ok (AV.int ((2 : Int) + (i : Int))) G = _
        rw [show (2 : Int) + (i : Int) = ((2 + i : Nat) : Int) by decreasing_trivial]
      · rw [str_len]; decreasing_trivial) (fun ρ G _ => ⟨_, rfl⟩) m 0 [some (.ref 0), some (.str w), some (.int m), some (.int most), some (.str w), none, none, none, none, none, none, none] H (Nat.zero_add _) ⟨w, none, rfl, hG, hw.1, hw.2⟩
  obtain ⟨s, v, rfl, hG', ha, hl⟩ := hJ
  have hlen : (It.fix ((List.range m).map fun (k : Nat) => AV.int k)).len = m := by show List.length _ = _; rw [List.length_map, List.length_range]
  refine ⟨s, v, H', x_for hrg ?_, ⟨ha, by decreasing_trivial⟩, hG'⟩
  exact (congrArg (fun r => loopA (It.fix ((List.range m).map fun (k : Nat) => AV.int k)) 5 _ r 0 _ H) hlen).trans e2
end
end Mine

/-! ## part S15 -/
namespace Mine
open PySem PySem.NumText

theorem take_asc {s : Str} (h : Asc s) (k : Nat) : Asc (tx (s.cps.toList.take k)) := fun c hc => h c (List.mem_of_mem_take hc)
theorem drop_asc {s : Str} (h : Asc s) (k : Nat) : Asc (tx (s.cps.toList.drop k)) := fun c hc => h c (List.mem_of_mem_drop hc)
theorem take_len {s : Str} {k : Nat} : (tx (s.cps.toList.take k)).length ≤ s.length := by rw [tx_length, List.length_take, list_len]; decreasing_trivial
theorem drop_len {s : Str} {k : Nat} : (tx (s.cps.toList.drop k)).length ≤ s.length := by rw [tx_length, List.length_drop, list_len]; decreasing_trivial
theorem two_len {s : Str} {k j : Nat} (h : k ≤ j) : (tx (s.cps.toList.take k)).length + (tx (s.cps.toList.drop j)).length ≤ s.length := by
  rw [tx_length, tx_length, List.length_take, List.length_drop, list_len]; decreasing_trivial
section
variable {P : Pg} {Φ : Calls} {ns : List Int} {H : AH} {a b c d v : Option AV}
theorem at_step (K : PK P) (F : PhiOk P Φ) (hn : ns.length ≤ 1000) (hG : H[0]? = some (.list false (ns.map .int))) {s : Str} (hs : s.length ≤ 1000) : ∃ k : Nat, ex P Φ (.assign 6 (.bin .mod (.call "_law_cell_at" [(.var 0), (.cI 7)]) (.bin .add (.bi .len [(.var 4)]) (.cI 1)))) [some (.ref 0), b, c, d, some (.str s), v, none, none, none, none, none, none] H
    = .ok (.next [some (.ref 0), b, c, d, some (.str s), v, some (.int k), none, none, none, none, none]) H := by
  obtain ⟨k, hk, _⟩ := fm (x := cell ns 7) (y := s.length + 1) (by decreasing_trivial)
  refine ⟨k, x_assign (e_bin (clI K F hn 7 (by decide) hG rfl) (e_bin (e_bi (es_1 (e_var rfl)) (len_str (by decreasing_trivial))) e_cI rfl) ?_)⟩
  show binA .mod (.int (cell ns 7)) (.int ((s.length : Int) + 1)) H = _
  rw [md H (by decreasing_trivial) (by decreasing_trivial), show ((s.length : Int) + 1) = ((s.length + 1 : Nat) : Int) by decreasing_trivial, hk]
theorem c6 (K : PK P) (F : PhiOk P Φ) (hn : ns.length ≤ 1000) (hG : H[0]? = some (.list false (ns.map .int))) {ρ : Rho} (h0 : ρ[0]?.join = some (.ref 0)) (j : Int) : ev P Φ (.cmp .eq (.bin .mod (.call "_law_cell_at" [(.var 0), (.cI 6)]) (.cI 7)) (.cI j)) ρ H = .ok (.bool (decide ((cell ns 6).fmod 7 = j))) H := e_cmp (e_bin (clI K F hn 6 (by decide) hG h0) e_cI (md _ (by decide) (by decide))) e_cI (cmp_eq _ _ _)
/-- the line may be turned -/
theorem turn_one {e e1 : ME} {s : Str} {k : Nat} {m : Nat} {T : Bool} (hT : ev P Φ e [some (.ref 0), b, c, d, some (.str s), v, some (.int k), none, none, none, none, none] H = .ok (.bool T) H) (hs : Sm400 m s) (h1 : ∃ s', ev P Φ e1 [some (.ref 0), b, c, d, some (.str s), v, some (.int k), none, none, none, none, none] H = .ok (.str s') H ∧ Sm400 (m + 1) s') :
    ∃ s', ex P Φ (.ite e [.assign 4 e1] []) [some (.ref 0), b, c, d, some (.str s), v, some (.int k), none, none, none, none, none] H = .ok (.next [some (.ref 0), b, c, d, some (.str s'), v, some (.int k), none, none, none, none, none]) H ∧ Sm400 (m + 1) s' := by
  cases T with
  | true =>
    obtain ⟨s', e2, hs'⟩ := h1
    exact ⟨s', x_if (c := true) hT (x_seq (x_assign e2) rfl), hs'⟩
  | false => exact ⟨s, x_not hT, hs.1, Nat.le_succ_of_le hs.2⟩
theorem sg_ev (K : PK P) (F : PhiOk P Φ) (hn : ns.length ≤ 1000) (hG : H[0]? = some (.list false (ns.map .int))) {ρ : Rho} (h0 : ρ[0]?.join = some (.ref 0)) : ∃ z, ev P Φ (.idx (.call "_law_signs" []) (.bin .mod (.call "_law_cell_at" [(.var 0), (.cI 8)]) (.cI 96))) ρ H = .ok (.str ⟨#[z]⟩) H ∧ z < 128 := by
  obtain ⟨k, hk, hk'⟩ := fm (x := cell ns 8) (y := 96) (by decide)
  obtain ⟨z, hz, hz'⟩ := sign_at k hk'
  exact ⟨z, e_idx rfl (e_call K.signs es_nil ((F "_law_signs" (by decide) _ _).trans (signs_ok (n := 20) K))) (e_bin (clI K F hn 8 (by decide) hG h0) e_cI (md _ (by decide) (by decide))) (idx_str hk (by decreasing_trivial) hz), hz'⟩
theorem pre3 (K : PK P) (F : PhiOk P Φ) (hn : ns.length ≤ 1000) (hG : H[0]? = some (.list false (ns.map .int))) {s : Str} (hs : Sm400 254 s) : ∃ (k : Nat) (s' : Str), exs P Φ [.assign 6 (.bin .mod (.call "_law_cell_at" [(.var 0), (.cI 7)]) (.bin .add (.bi .len [(.var 4)]) (.cI 1))),
    .ite (.cmp .eq (.bin .mod (.call "_law_cell_at" [(.var 0), (.cI 6)]) (.cI 7)) (.cI 1)) [.assign 4 (.bin .add (.bin .add (.slU (.var 4) (.var 6)) (.cS " ")) (.slF (.var 4) (.var 6)))] [],
    .ite (.cmp .eq (.bin .mod (.call "_law_cell_at" [(.var 0), (.cI 6)]) (.cI 7)) (.cI 2)) [.assign 4 (.bin .add (.bin .add (.slU (.var 4) (.var 6)) (.idx (.call "_law_signs" []) (.bin .mod (.call "_law_cell_at" [(.var 0), (.cI 8)]) (.cI 96)))) (.slF (.var 4) (.var 6)))] [],
    .ite (.cmp .eq (.bin .mod (.call "_law_cell_at" [(.var 0), (.cI 6)]) (.cI 7)) (.cI 3)) [.assign 4 (.bin .add (.bin .add (.slU (.var 4) (.var 6)) (.idx (.call "_law_signs" []) (.bin .mod (.call "_law_cell_at" [(.var 0), (.cI 8)]) (.cI 96)))) (.slF (.var 4) (.bin .add (.var 6) (.cI 1))))] [],
    .ite (.cmp .eq (.bin .mod (.call "_law_cell_at" [(.var 0), (.cI 6)]) (.cI 7)) (.cI 4)) [.assign 4 (.bin .add (.slU (.var 4) (.var 6)) (.slF (.var 4) (.bin .add (.var 6) (.cI 1))))] []] [some (.ref 0), b, c, d, some (.str s), v, none, none, none, none, none, none] H
    = .ok (.next [some (.ref 0), b, c, d, some (.str s'), v, some (.int k), none, none, none, none, none]) H ∧ Sm400 258 s' := by
  have hs0 := hs.2
  obtain ⟨k, e0⟩ := at_step (b := b) (c := c) (d := d) (v := v) K F hn hG (s := s) (by decreasing_trivial)
  have hsp : (Str.ofString " ").length = 1 := by decide +kernel
  have sU : ∀ {t : Str}, t.length ≤ 1000 → ev P Φ (.slU (.var 4) (.var 6)) [some (.ref 0), b, c, d, some (.str t), v, some (.int k), none, none, none, none, none] H = .ok (.str (tx (t.cps.toList.take k))) H := fun ht => e_slU (e_var rfl) (e_var rfl) (slU_str (by decreasing_trivial))
  have sF : ∀ {t : Str}, t.length ≤ 1000 → ev P Φ (.slF (.var 4) (.var 6)) [some (.ref 0), b, c, d, some (.str t), v, some (.int k), none, none, none, none, none] H = .ok (.str (tx (t.cps.toList.drop k))) H := fun ht => e_slF (e_var rfl) (e_var rfl) (slF_str (by decreasing_trivial))
  have sF1 : ∀ {t : Str}, t.length ≤ 1000 → ev P Φ (.slF (.var 4) (.bin .add (.var 6) (.cI 1))) [some (.ref 0), b, c, d, some (.str t), v, some (.int k), none, none, none, none, none] H = .ok (.str (tx (t.cps.toList.drop (k + 1)))) H := fun ht => e_slF (e_var rfl) (e_bin (e_var rfl) e_cI rfl) (slF_str' (by decreasing_trivial) (by decreasing_trivial))
  have put : ∀ {t : Str} {m j : Nat} {e1 e2 : ME} {x : Str}, Sm400 m t → m ≤ 500 → k ≤ j → Sm400 1 x → ev P Φ e1 [some (.ref 0), b, c, d, some (.str t), v, some (.int k), none, none, none, none, none] H = .ok (.str x) H → ev P Φ e2 [some (.ref 0), b, c, d, some (.str t), v, some (.int k), none, none, none, none, none] H = .ok (.str (tx (t.cps.toList.drop j))) H →
      ∃ s', ev P Φ (.bin .add (.bin .add (.slU (.var 4) (.var 6)) e1) e2) [some (.ref 0), b, c, d, some (.str t), v, some (.int k), none, none, none, none, none] H = .ok (.str s') H ∧ Sm400 (m + 1) s' := by
    intro t m j e1 e2 x ht hm hj hx h1 h2
    have l1 := two_len (s := t) hj
    have l2 := ht.2
    have l3 := hx.2
    refine ⟨tx (t.cps.toList.take k) ++ x ++ tx (t.cps.toList.drop j), e_bin (e_bin (sU (by decreasing_trivial)) h1 (add_str (by decreasing_trivial))) h2 (add_str (by rw [str_len]; decreasing_trivial)), ((take_asc ht.1 k).app hx.1).app (drop_asc ht.1 j), ?_⟩
    rw [str_len, str_len]; decreasing_trivial
  obtain ⟨s1, f1, g1⟩ := turn_one (c6 (j := 1) K F hn hG rfl) hs (put hs (by decide) (Nat.le_refl k) (x := Str.ofString " ") ⟨asc_of (by decide +kernel), by rw [hsp]; decide⟩ e_cS (sF (by decreasing_trivial)))
  have g1l := g1.2
  obtain ⟨z, hz, hz'⟩ := sg_ev (ρ := [some (.ref 0), b, c, d, some (.str s1), v, some (.int k), none, none, none, none, none]) K F hn hG rfl
  obtain ⟨s2, f2, g2⟩ := turn_one (c6 (j := 2) K F hn hG rfl) g1 (put g1 (by decide) (Nat.le_refl k) (x := ⟨#[z]⟩) ⟨Asc.sg hz', Nat.le_refl 1⟩ hz (sF (by decreasing_trivial)))
  have g2l := g2.2
  obtain ⟨z2, hz2, hz2'⟩ := sg_ev (ρ := [some (.ref 0), b, c, d, some (.str s2), v, some (.int k), none, none, none, none, none]) K F hn hG rfl
  obtain ⟨s3, f3, g3⟩ := turn_one (c6 (j := 3) K F hn hG rfl) g2 (put g2 (by decide) (Nat.le_succ k) (x := ⟨#[z2]⟩) ⟨Asc.sg hz2', Nat.le_refl 1⟩ hz2 (sF1 (by decreasing_trivial)))
  have g3l := g3.2
  have l4 := two_len (s := s3) (k := k) (j := k + 1) (Nat.le_succ k)
  obtain ⟨s4, f4, g4⟩ := turn_one (c6 (j := 4) K F hn hG rfl) g3 ⟨tx (s3.cps.toList.take k) ++ tx (s3.cps.toList.drop (k + 1)), e_bin (sU (by decreasing_trivial)) (sF1 (by decreasing_trivial)) (add_str (by decreasing_trivial)), (take_asc g3.1 k).app (drop_asc g3.1 (k + 1)), by rw [str_len]; decreasing_trivial⟩
  exact ⟨k, s4, x_seq e0 (x_seq f1 (x_seq f2 (x_seq f3 (x_seq f4 rfl)))), g4⟩
end

/-- the law, up to its try -/
theorem pre_all {P : Pg} {Φ : Calls} {ns : List Int} (K : PK P) (F : PhiOk P Φ) (hn : ns.length ≤ 1000) : ∃ (w line : Str) (m k : Nat) (most : Int) (v : Option AV) (G : AH), exs P Φ lawPre (some (.ref 0) :: List.replicate 11 none) [.list false (ns.map .int)]
    = exs P Φ [.assign 7 (.call "_law_deed_of" [(.var 4)]), .assign 8 .cN, .assign 9 (.cB false)] [some (.ref 0), some (.str w), some (.int m), some (.int most), some (.str line), v, some (.int k), none, none, none, none, none] G ∧ Sm400 400 line := by
  obtain ⟨w, m, most, G, e1, hm, M, hw⟩ := pre1 (H := [.list false (ns.map .int)]) K F hn rfl
  obtain ⟨s, v, G2, e2, hs, hG2⟩ := pre2 (H := [.list false (ns.map .int)] ++ G) K F hn (pre_at rfl) hm M hw
  obtain ⟨k, line, e3, hl⟩ := pre3 (b := some (.str w)) (c := some (.int m)) (d := some (.int most)) (v := v) K F hn hG2 hs
  refine ⟨w, line, m, k, most, v, G2, ?_, hl.1, Nat.le_trans hl.2 (by decide)⟩
  exact (exs_app (a := lawPre.take 6) e1).trans (x_seq e2 ((exs_app (a := (lawPre.drop 7).take 5) e3)))
end Mine

/-! ## part L09 -/
namespace Mine
open PySem PySem.NumText

theorem dat_ints {H : AH} {d : Nat} : ∀ ms : List Int, optAll (datA (d + 1) H) (ms.map .int) = some (ms.map PyData.int)
  | [] => rfl
  | m :: r => by
    show (some (PyData.int m)).bind (fun x => (optAll (datA (d + 1) H) (r.map .int)).map (x :: ·)) = _
    rw [dat_ints r]; rfl
theorem dat_deed {H : AH} {i : Nat} {w : Str} {ms : List Int} (h : H[i]? = some (.tup (.str w :: ms.map .int))) (hw : Asc w) : datA 5 H (.ref i) = some (.tuple (.str w :: ms.map .int)) := by
  show (H[i]?).bind (datO (datA 4 H)) = _
  rw [h]
  show (optAll (datA 4 H) (.str w :: ms.map .int)).map PyData.tuple = _
  have e : datA 4 H (.str w) = some (.str w) := by
    show (if PyData.strOk w = true then some (PyData.str w) else none) = _
    rw [if_pos hw.ok]
  rw [optAll_cons, e]
  show ((optAll (datA 4 H) (ms.map .int)).map (PyData.str w :: ·)).map PyData.tuple = _
  rw [dat_ints]; rfl
theorem eqv_ints : ∀ ms : List Int, PyData.eqvAll (ms.map PyData.int) (ms.map PyData.int) = true
  | [] => rfl
  | m :: r => by
    show ((m == m) && PyData.eqvAll (r.map PyData.int) (r.map PyData.int)) = true
    rw [eqv_ints r, beq_self_eq_true]; rfl
theorem eq_deed {H : AH} {i j : Nat} {w : Str} {ms : List Int} (h : H[i]? = some (.tup (.str w :: ms.map .int))) (h' : H[j]? = some (.tup (.str w :: ms.map .int))) (hw : Asc w) : cmpA .eq (.ref i) (.ref j) H = .ok (.bool true) H := by
  show optR (eqA H _ _) _ = _
  unfold eqA
  rw [dat_deed h hw, dat_deed h' hw]
  show Res.ok (AV.bool ((w == w) && PyData.eqvAll (ms.map PyData.int) (ms.map PyData.int))) H = _
  rw [eqv_ints, beq_self_eq_true]; rfl

theorem eq_same {x : Str} {H : AH} (h : Asc x) : cmpA .eq (.str x) (.str x) H = .ok (.bool true) H := by
  rw [eq_str h h, beq_self_eq_true]
section
variable {P : Pg} {Φ : Calls}
/-- all the numbers are whole -/
theorem whole_loop (K : PK P) (F : PhiOk P Φ) {H : AH} {i : Nat} {ms : List Int} (hi : H[i]? = some (.tup (ms.map .int))) {ρ0 : List (Option AV)} {a0 a1 a2 a3 a4 a5 a6 a7 a8 a9 a11 : Option AV} : ∀ (m k : Nat) (v : Option AV), k + m = ms.length → ∃ v', loopA (.seq true i ms.length) 10 (exs P Φ [.ite (.not_ (.call "_law_whole" [(.var 10)])) [.ret (.cB false)] []]) m k [a0, a1, a2, a3, a4, a5, a6, a7, a8, a9, v, a11] H = .ok (.next [a0, a1, a2, a3, a4, a5, a6, a7, a8, a9, v', a11]) H
  | 0, k, v, hk => by
    have e4 : ms.length = (ms.map AV.int).length := (List.length_map ..).symm
    exact ⟨v, l_end (by rw [e4]; exact all_tup hi)⟩
  | m + 1, k, v, hk => by
    have hlt : k < ms.length := by decreasing_trivial
    have e4 : ms.length = (ms.map AV.int).length := (List.length_map ..).symm
    have it1 : ((It.seq true i ms.length).all H).bind (·[k]?) = some (.int ms[k]) := by
      rw [e4, all_tup hi]
      show (ms.map AV.int)[k]? = _
      rw [List.getElem?_map, List.getElem?_eq_getElem hlt]; rfl
    obtain ⟨v', L⟩ := whole_loop K F hi (ρ0 := ρ0) (a0 := a0) (a1 := a1) (a2 := a2) (a3 := a3) (a4 := a4) (a5 := a5) (a6 := a6) (a7 := a7) (a8 := a8) (a9 := a9) (a11 := a11) m (k + 1) (some (.int ms[k])) (by decreasing_trivial)
    exact ⟨v', l_next it1 (x_seq (x_not (e_notT (e_call K.whole (es_1 (e_var rfl)) ((F "_law_whole" (by decide) _ _).trans (whole_ok (n := 20) K))))) rfl) L⟩
theorem post_calm (K : PK P) (F : PhiOk P Φ) {H : AH} {line w : Str} {ms : List Int} {f d : Nat} (hl : Sm400 400 line) (hdv : deedV line = some (w, ms)) (hf : H[f]? = some (.tup (.str w :: ms.map .int))) (hd : H[d]? = some (.tup (.str w :: ms.map .int))) {a1 a2 a3 a5 a6 : Option AV} : ∃ H', exs P Φ lawPost [some (.ref 0), a1, a2, a3, some (.str line), a5, a6, some (.ref d), some (.ref f), some (.bool false), none, none] H = .ok (.ret (.bool true)) H' := by
  obtain ⟨t1, t2, t3, t4, t5⟩ := deed_text hl.1 hl.2 hdv
  have hln : (AV.str w :: ms.map AV.int).length = ms.length + 1 := by rw [List.length_cons, List.length_map]
  have s1 : ex P Φ (.ite (.cmp .is_ (.var 7) .cN) [.ret (.and_ (.var 9) (.call "_law_refused_by_any" [(.var 4)]))] []) [some (.ref 0), a1, a2, a3, some (.str line), a5, a6, some (.ref d), some (.ref f), some (.bool false), none, none] H = .ok (.next [some (.ref 0), a1, a2, a3, some (.str line), a5, a6, some (.ref d), some (.ref f), some (.bool false), none, none]) H := x_not (e_cmp (e_var rfl) e_cN is_ref)
  have s2 : ex P Φ (.ite (.or_ (.var 9) (.or_ (.not_ (.isi (.var 8) .tup_)) (.or_ (.cmp .ne (.bi .len [(.var 8)]) (.bi .len [(.var 7)])) (.not_ (.isi (.idx (.var 8) (.cI 0)) .str_))))) [.ret (.cB false)] []) [some (.ref 0), a1, a2, a3, some (.str line), a5, a6, some (.ref d), some (.ref f), some (.bool false), none, none] H = .ok (.next [some (.ref 0), a1, a2, a3, some (.str line), a5, a6, some (.ref d), some (.ref f), some (.bool false), none, none]) H :=
    x_not (e_orF (e_var rfl) (e_orF (e_notT (e_isi (e_var rfl) (isi_tup hf))) (e_orF (e_cmp (e_bi (es_1 (e_var rfl)) (len_tup hf (by rw [hln]; decreasing_trivial))) (e_bi (es_1 (e_var rfl)) (len_tup hd (by rw [hln]; decreasing_trivial))) (ne_no rfl)) (e_notT (e_isi (e_idx rfl (e_var rfl) e_cI (idx_tup hf (n := 0) rfl (by decide) rfl)) rfl)))))
  have q1 := slF_tup (k := 1) hf (Nat.le_refl _) (by rw [hln]; decreasing_trivial) (by rw [hln]; decreasing_trivial)
  have e4 : ms.length = (ms.map AV.int).length := (List.length_map ..).symm
  have e5 : evI P Φ (.seq (.slF (.var 8) (.cI 1))) [some (.ref 0), a1, a2, a3, some (.str line), a5, a6, some (.ref d), some (.ref f), some (.bool false), none, none] H = .ok (.seq true H.length ms.length) (H ++ [.tup (ms.map .int)]) := by
    refine Res.to (e_slF (e_var rfl) e_cI q1) ?_
    rw [e4]
    exact it_tup at_len (by rw [← e4]; decreasing_trivial)
  obtain ⟨v', L⟩ := whole_loop (P := P) (Φ := Φ) (H := H ++ [.tup (ms.map .int)]) (i := H.length) (ms := ms) (ρ0 := []) K F at_len (a0 := some (.ref 0)) (a1 := a1) (a2 := a2) (a3 := a3) (a4 := some (.str line)) (a5 := a5) (a6 := a6) (a7 := some (.ref d)) (a8 := some (.ref f)) (a9 := some (.bool false)) (a11 := none) ms.length 0 none (Nat.zero_add _)
  have hd' : (H ++ [AObj.tup (ms.map .int)])[d]? = some (.tup (.str w :: ms.map .int)) := pre_at hd
  have hf' : (H ++ [AObj.tup (ms.map .int)])[f]? = some (.tup (.str w :: ms.map .int)) := pre_at hf
  obtain ⟨G, e6⟩ := shown_ok (P := P) (n := 20) K hd' t2 (by decreasing_trivial) (by decreasing_trivial)
  rw [t1] at e6
  refine ⟨_, x_seq s1 (x_seq s2 (x_seq (x_for e5 L) (x_seq (x_assign (e_call K.shown (es_1 (e_var rfl)) ((F "shown" (by decide) _ _).trans e6))) (x_stop (x_ret (e_andT (e_cmp (e_var rfl) (e_var rfl) (eq_deed (pre_at hf') (pre_at hd') t5)) (e_andT (e_isi (e_var rfl) rfl) (e_cmp (e_var rfl) (e_var rfl) (eq_same hl.1)))))))))⟩
end
theorem run_09 (ns : List Int) (hn : ns.length ≤ 1000) : LwR PP (spC PP "_law_refused_by_any" (RaSp PP)) (RxF PP 21) lawPre lawPost (.call "read" [.var 4]) 8 9 (some (.ref 0) :: List.replicate 11 none) [.list false (ns.map .int)] := by
  have F : PhiOk PP (spC PP "_law_refused_by_any" (RaSp PP)) := fun f hf a H => spC_ne hf
  have sp : ∀ (a : List AV) (H : AH), spC PP "_law_refused_by_any" (RaSp PP) "_law_refused_by_any" a H = relR (RaSp PP) a H := fun a H => spC_eq
  generalize spC PP "_law_refused_by_any" (RaSp PP) = Φ at F sp ⊢
  have K := pk
  obtain ⟨w0, line, m, k, most, v, G, e0, hl⟩ := pre_all K F hn
  obtain ⟨D1, D2⟩ := deed_of (P := PP) (n := 19) (H := G) K hl.1 hl.2
  cases hdv : deedV line with
  | some p =>
    obtain ⟨w, ms⟩ := p
    obtain ⟨G1, d, e1, hd⟩ := D1 w ms hdv
    obtain ⟨G2, f, e2, hf⟩ := read_ok (P := PP) (n := 19) (H := G ++ G1) K hl.1 hl.2 hdv
    obtain ⟨H', e3⟩ := post_calm (a1 := some (.str w0)) (a2 := some (.int m)) (a3 := some (.int most)) (a5 := v) (a6 := some (.int k)) K F hl hdv hf (pre_at hd)
    exact .calm (v := .ref f) (e0.trans (x_seq (x_assign (e_call K.deed (es_1 (e_var rfl)) ((F "_law_deed_of" (by decide) _ _).trans e1))) (x_seq (x_assign e_cN) (x_seq (x_assign e_cB) rfl)))) (e_call K.read (es_1 (e_var rfl)) ((F "read" (by decide) _ _).trans e2)) e3
  | none =>
    obtain ⟨G1, e1⟩ := D2 hdv
    obtain ⟨G2, e2⟩ := read_no (P := PP) (n := 19) (H := G ++ G1) K hl.1 hl.2 hdv
    obtain ⟨G3, e3⟩ := read_no (P := PP) (n := 18) (H := G ++ G1 ++ G2) K hl.1 hl.2 hdv
    obtain ⟨v', H'', e4, hsp⟩ := relR_ok (RaSp.mk (P := PP) e3)
    obtain rfl : v' = .bool true := by cases hsp; rfl
    exact .raised (e0.trans (x_seq (x_assign (e_call K.deed (es_1 (e_var rfl)) ((F "_law_deed_of" (by decide) _ _).trans e1))) (x_seq (x_assign e_cN) (x_seq (x_assign e_cB) rfl)))) (.call (by rw [K.read]; rfl) (es_1 (e_var rfl)) e2)
      (x_stop (x_if (c := true) (e_cmp (e_var rfl) e_cN is_yes) (x_stop (x_ret (e_andT (e_var rfl) (e_call K.ref (es_1 (e_var rfl)) ((sp _ _).trans e4)))))))
end Mine
namespace Mine
open PySem PySem.W PyProof.Rows
set_option maxRecDepth 100000
noncomputable def stAt (i : Nat) : Option Stmt := PySem.Challenge.pw_uf060011_09.main.body[i]?
noncomputable def stIn (i j : Nat) : Option Stmt := match stAt i with
  | some (.ClassDef _ _ _ b _ _ _ _ _ _ _) => b[j]?
  | _ => none
noncomputable def fnA (x : Option Stmt) : Arguments := match x with
  | some (.FunctionDef _ a _ _ _ _ _ _ _ _) => a
  | _ => default
noncomputable def fnB (x : Option Stmt) : List Stmt := match x with
  | some (.FunctionDef _ _ b _ _ _ _ _ _ _) => b
  | _ => []
noncomputable def fnS (x : Option Stmt) : Scope := match x with
  | some (.FunctionDef _ _ _ _ _ _ s _ _ _) => s
  | _ => default
noncomputable def ob3 (P : Params) : Obj := ⟨(.type "dict"), none, (.dict #[⟨PyData.keyHash P (Str.ofString "__name__"), .str (Str.ofString "__name__") 165, (.str (Str.ofString "law_uf060011_09") 345)⟩, ⟨PyData.keyHash P (Str.ofString "__doc__"), .str (Str.ofString "__doc__") 166, .none⟩, ⟨PyData.keyHash P (Str.ofString "__package__"), .str (Str.ofString "__package__") 167, .none⟩, ⟨PyData.keyHash P (Str.ofString "__loader__"), .str (Str.ofString "__loader__") 168, (.builtin "__main__.__loader__#opaque")⟩, ⟨PyData.keyHash P (Str.ofString "__spec__"), .str (Str.ofString "__spec__") 169, .none⟩, ⟨PyData.keyHash P (Str.ofString "__annotations__"), .str (Str.ofString "__annotations__") 170, (.ref 6)⟩, ⟨PyData.keyHash P (Str.ofString "__builtins__"), .str (Str.ofString "__builtins__") 171, (.ref 4)⟩, ⟨PyData.keyHash P (Str.ofString "__file__"), .str (Str.ofString "__file__") 173, (.str (Str.ofString "/claim/cut.py") 172)⟩, ⟨PyData.keyHash P (Str.ofString "__cached__"), .str (Str.ofString "__cached__") 174, .none⟩, ⟨PyData.keyHash P (Str.ofString "BookError"), .str (Str.ofString "BookError") 206, (.ref 24)⟩, ⟨PyData.keyHash P (Str.ofString "NoRow"), .str (Str.ofString "NoRow") 222, (.ref 37)⟩, ⟨PyData.keyHash P (Str.ofString "OutOfRow"), .str (Str.ofString "OutOfRow") 238, (.ref 49)⟩, ⟨PyData.keyHash P (Str.ofString "Nothing"), .str (Str.ofString "Nothing") 254, (.ref 61)⟩, ⟨PyData.keyHash P (Str.ofString "TooMany"), .str (Str.ofString "TooMany") 270, (.ref 73)⟩, ⟨PyData.keyHash P (Str.ofString "NoDeed"), .str (Str.ofString "NoDeed") 286, (.ref 85)⟩, ⟨PyData.keyHash P (Str.ofString "COUNTS"), .str (Str.ofString "COUNTS") 313, (.ref 88)⟩, ⟨PyData.keyHash P (Str.ofString "FIGURES"), .str (Str.ofString "FIGURES") 315, (.str (Str.ofString "0123456789") 314)⟩, ⟨PyData.keyHash P (Str.ofString "shown"), .str (Str.ofString "shown") 324, (.ref 95)⟩, ⟨PyData.keyHash P (Str.ofString "number_of"), .str (Str.ofString "number_of") 333, (.ref 102)⟩, ⟨PyData.keyHash P (Str.ofString "read"), .str (Str.ofString "read") 344, (.ref 109)⟩, ⟨PyData.keyHash P (Str.ofString "_law_whole"), .str (Str.ofString "_law_whole") 353, (.ref 116)⟩, ⟨PyData.keyHash P (Str.ofString "_law_cell_at"), .str (Str.ofString "_law_cell_at") 361, (.ref 123)⟩, ⟨PyData.keyHash P (Str.ofString "_law_word_by"), .str (Str.ofString "_law_word_by") 371, (.ref 130)⟩, ⟨PyData.keyHash P (Str.ofString "_law_count"), .str (Str.ofString "_law_count") 378, (.ref 137)⟩, ⟨PyData.keyHash P (Str.ofString "_law_figures_by"), .str (Str.ofString "_law_figures_by") 388, (.ref 144)⟩, ⟨PyData.keyHash P (Str.ofString "_law_signs"), .str (Str.ofString "_law_signs") 395, (.ref 151)⟩, ⟨PyData.keyHash P (Str.ofString "_law_number_of"), .str (Str.ofString "_law_number_of") 404, (.ref 158)⟩, ⟨PyData.keyHash P (Str.ofString "_law_deed_of"), .str (Str.ofString "_law_deed_of") 416, (.ref 165)⟩, ⟨PyData.keyHash P (Str.ofString "_law_refused_by_any"), .str (Str.ofString "_law_refused_by_any") 424, (.ref 172)⟩, ⟨PyData.keyHash P (Str.ofString "law"), .str (Str.ofString "law") 442, (.ref 179)⟩] 30), #[]⟩
noncomputable def ob11 (P : Params) : Obj := ⟨(.type "tuple"), none, (.seq #[] 0), #[]⟩
noncomputable def ob12 (P : Params) : Obj := ⟨.none, none, (.fields #[(.int 2 0), (.int 0 0), (.ref 20), (.int 4 0), (.int 0 0), (.ref 33), (.int 6 0), (.int 0 0), (.ref 45), (.int 8 0), (.int 0 0), (.ref 57), (.int 10 0), (.int 0 0), (.ref 69), (.int 12 0), (.int 0 0), (.ref 81), (.int 17 0), (.int 0 0), (.ref 94), (.int 22 0), (.int 0 0), (.ref 101), (.int 34 0), (.int 0 0), (.ref 108), (.int 46 0), (.int 0 0), (.ref 115), (.int 48 0), (.int 0 0), (.ref 122), (.int 52 0), (.int 0 0), (.ref 129), (.int 64 0), (.int 0 0), (.ref 136), (.int 72 0), (.int 0 0), (.ref 143), (.int 85 0), (.int 0 0), (.ref 150), (.int 88 0), (.int 0 0), (.ref 157), (.int 98 0), (.int 0 0), (.ref 164), (.int 115 0), (.int 0 0), (.ref 171), (.int 123 0), (.int 0 0), (.ref 178)]), #[]⟩
noncomputable def ob13 (P : Params) : Obj := ⟨(.type "code"), none, (.fields #[(.str (Str.ofString "<module>") 182), (.str (Str.ofString "<module>") 183), (.str (Str.ofString "/claim/cut.py") 184), (.int 1 0), (.int 0 0), (.int 0 0), (.int 0 0), (.int 0 0), (.ref 11), (.bool false), (.int 181 0), (.ref 12), .none, .none, .none, .none, (.int 185 0), (.int 1 0), (.str (Str.ofString "/claim/cut.py") 186)]), #[]⟩
noncomputable def ob14 (P : Params) : Obj := ⟨(.type "frame"), none, .plain, #[(some (.ref 13)), (some (.ref 3)), (some (.ref 3)), none, (some (.str (Str.ofString "__main__") 164)), none, (some (.ref 0))]⟩
noncomputable def ob15 (P : Params) : Obj := ⟨(.type "tuple"), none, (.seq #[(.type "ValueError")] 0), #[]⟩
noncomputable def ob16 (P : Params) : Obj := ⟨(.type "builtin_function_or_method"), none, (.fields #[(.builtin "type.__prepare__"), (.type "type")]), #[]⟩
noncomputable def ob17 (P : Params) : Obj := ⟨(.type "dict"), none, (.dict #[⟨PyData.keyHash P (Str.ofString "__module__"), .str (Str.ofString "__module__") 196, (.str (Str.ofString "rangebook.errors") 187)⟩, ⟨PyData.keyHash P (Str.ofString "__qualname__"), .str (Str.ofString "__qualname__") 198, (.str (Str.ofString "BookError") 197)⟩, ⟨PyData.keyHash P (Str.ofString "__firstlineno__"), .str (Str.ofString "__firstlineno__") 200, (.int 2 199)⟩, ⟨PyData.keyHash P (Str.ofString "__static_attributes__"), .str (Str.ofString "__static_attributes__") 201, (.ref 22)⟩] 4), #[]⟩
noncomputable def ob18 (P : Params) : Obj := ⟨(.type "tuple"), none, (.seq #[] 0), #[]⟩
noncomputable def ob19 (P : Params) : Obj := ⟨.none, none, (.fields #[]), #[]⟩
noncomputable def ob20 (P : Params) : Obj := ⟨(.type "code"), none, (.fields #[(.str (Str.ofString "BookError") 191), (.str (Str.ofString "BookError") 192), (.str (Str.ofString "/claim/cut.py") 193), (.int 2 0), (.int 0 0), (.int 0 0), (.int 0 0), (.int 0 0), (.ref 18), (.bool false), (.int 181 0), (.ref 19), .none, .none, .none, .none, (.int 194 0), (.int 2 0), (.str (Str.ofString "/claim/cut.py") 195)]), #[]⟩
noncomputable def ob21 (P : Params) : Obj := ⟨(.type "frame"), none, .plain, #[(some (.ref 20)), (some (.ref 3)), (some (.ref 17)), none, (some (.str (Str.ofString "rangebook.errors") 187)), none, (some (.ref 0))]⟩
noncomputable def ob22 (P : Params) : Obj := ⟨(.type "tuple"), none, (.seq #[] 0), #[]⟩
noncomputable def ob23 (P : Params) : Obj := ⟨(.type "dict"), none, (.dict #[⟨PyData.keyHash P (Str.ofString "__module__"), .str (Str.ofString "__module__") 196, (.str (Str.ofString "rangebook.errors") 187)⟩, ⟨PyData.keyHash P (Str.ofString "__firstlineno__"), .str (Str.ofString "__firstlineno__") 200, (.int 2 199)⟩, ⟨PyData.keyHash P (Str.ofString "__static_attributes__"), .str (Str.ofString "__static_attributes__") 201, (.ref 22)⟩, ⟨PyData.keyHash P (Str.ofString "__weakref__"), .str (Str.ofString "__weakref__") 203, (.ref 25)⟩, ⟨PyData.keyHash P (Str.ofString "__doc__"), .str (Str.ofString "__doc__") 204, .none⟩] 3), #[]⟩
noncomputable def ob24 (P : Params) : Obj := ⟨(.type "type"), none, (.cls ⟨(Str.ofString "BookError"), [(.type "ValueError")], [(.ref 24), (.type "ValueError"), (.type "Exception"), (.type "BaseException"), (.type "object")], 23, (Str.ofString "BookError"), true, [], [(.ref 37), (.ref 49), (.ref 61), (.ref 73), (.ref 85)], false, none, false⟩), #[(some (.ref 15)), none, (some (.str (Str.ofString "BookError") 189)), (some (.str (Str.ofString "BookError") 197)), (some (.builtin "ValueError.__new__")), (some (.bool true))]⟩
noncomputable def ob25 (P : Params) : Obj := ⟨(.type "getset_descriptor"), none, (.fields #[(.str (Str.ofString "__weakref__") 202), (.ref 24), (.builtin "ExceptionGroup.__weakref__"), .none]), #[]⟩
noncomputable def ob26 (P : Params) : Obj := ⟨(.type "super"), none, (.fields #[(.ref 24), (.ref 24), (.ref 24)]), #[]⟩
noncomputable def ob27 (P : Params) : Obj := ⟨(.type "builtin_function_or_method"), none, (.fields #[(.builtin "object.__init_subclass__"), (.ref 24)]), #[]⟩
noncomputable def ob28 (P : Params) : Obj := ⟨(.type "tuple"), none, (.seq #[(.ref 24)] 0), #[]⟩
noncomputable def ob29 (P : Params) : Obj := ⟨(.type "builtin_function_or_method"), none, (.fields #[(.builtin "type.__prepare__"), (.type "type")]), #[]⟩
noncomputable def ob30 (P : Params) : Obj := ⟨(.type "dict"), none, (.dict #[⟨PyData.keyHash P (Str.ofString "__module__"), .str (Str.ofString "__module__") 214, (.str (Str.ofString "rangebook.errors") 187)⟩, ⟨PyData.keyHash P (Str.ofString "__qualname__"), .str (Str.ofString "__qualname__") 216, (.str (Str.ofString "NoRow") 215)⟩, ⟨PyData.keyHash P (Str.ofString "__firstlineno__"), .str (Str.ofString "__firstlineno__") 218, (.int 4 217)⟩, ⟨PyData.keyHash P (Str.ofString "__static_attributes__"), .str (Str.ofString "__static_attributes__") 219, (.ref 35)⟩] 4), #[]⟩
noncomputable def ob31 (P : Params) : Obj := ⟨(.type "tuple"), none, (.seq #[] 0), #[]⟩
noncomputable def ob32 (P : Params) : Obj := ⟨.none, none, (.fields #[]), #[]⟩
noncomputable def ob33 (P : Params) : Obj := ⟨(.type "code"), none, (.fields #[(.str (Str.ofString "NoRow") 209), (.str (Str.ofString "NoRow") 210), (.str (Str.ofString "/claim/cut.py") 211), (.int 4 0), (.int 0 0), (.int 0 0), (.int 0 0), (.int 0 0), (.ref 31), (.bool false), (.int 181 0), (.ref 32), .none, .none, .none, .none, (.int 212 0), (.int 4 0), (.str (Str.ofString "/claim/cut.py") 213)]), #[]⟩
noncomputable def ob34 (P : Params) : Obj := ⟨(.type "frame"), none, .plain, #[(some (.ref 33)), (some (.ref 3)), (some (.ref 30)), none, (some (.str (Str.ofString "rangebook.errors") 187)), none, (some (.ref 0))]⟩
noncomputable def ob35 (P : Params) : Obj := ⟨(.type "tuple"), none, (.seq #[] 0), #[]⟩
noncomputable def ob36 (P : Params) : Obj := ⟨(.type "dict"), none, (.dict #[⟨PyData.keyHash P (Str.ofString "__module__"), .str (Str.ofString "__module__") 214, (.str (Str.ofString "rangebook.errors") 187)⟩, ⟨PyData.keyHash P (Str.ofString "__firstlineno__"), .str (Str.ofString "__firstlineno__") 218, (.int 4 217)⟩, ⟨PyData.keyHash P (Str.ofString "__static_attributes__"), .str (Str.ofString "__static_attributes__") 219, (.ref 35)⟩, ⟨PyData.keyHash P (Str.ofString "__doc__"), .str (Str.ofString "__doc__") 220, .none⟩] 2), #[]⟩
noncomputable def ob37 (P : Params) : Obj := ⟨(.type "type"), none, (.cls ⟨(Str.ofString "NoRow"), [(.ref 24)], [(.ref 37), (.ref 24), (.type "ValueError"), (.type "Exception"), (.type "BaseException"), (.type "object")], 36, (Str.ofString "NoRow"), true, [], [], false, none, false⟩), #[(some (.ref 28)), none, (some (.str (Str.ofString "NoRow") 207)), (some (.str (Str.ofString "NoRow") 215)), (some (.builtin "ValueError.__new__")), (some (.bool true))]⟩
noncomputable def ob38 (P : Params) : Obj := ⟨(.type "super"), none, (.fields #[(.ref 37), (.ref 37), (.ref 37)]), #[]⟩
noncomputable def ob39 (P : Params) : Obj := ⟨(.type "builtin_function_or_method"), none, (.fields #[(.builtin "object.__init_subclass__"), (.ref 37)]), #[]⟩
noncomputable def ob40 (P : Params) : Obj := ⟨(.type "tuple"), none, (.seq #[(.ref 24)] 0), #[]⟩
noncomputable def ob41 (P : Params) : Obj := ⟨(.type "builtin_function_or_method"), none, (.fields #[(.builtin "type.__prepare__"), (.type "type")]), #[]⟩
noncomputable def ob42 (P : Params) : Obj := ⟨(.type "dict"), none, (.dict #[⟨PyData.keyHash P (Str.ofString "__module__"), .str (Str.ofString "__module__") 230, (.str (Str.ofString "rangebook.errors") 187)⟩, ⟨PyData.keyHash P (Str.ofString "__qualname__"), .str (Str.ofString "__qualname__") 232, (.str (Str.ofString "OutOfRow") 231)⟩, ⟨PyData.keyHash P (Str.ofString "__firstlineno__"), .str (Str.ofString "__firstlineno__") 234, (.int 6 233)⟩, ⟨PyData.keyHash P (Str.ofString "__static_attributes__"), .str (Str.ofString "__static_attributes__") 235, (.ref 47)⟩] 4), #[]⟩
noncomputable def ob43 (P : Params) : Obj := ⟨(.type "tuple"), none, (.seq #[] 0), #[]⟩
noncomputable def ob44 (P : Params) : Obj := ⟨.none, none, (.fields #[]), #[]⟩
noncomputable def ob45 (P : Params) : Obj := ⟨(.type "code"), none, (.fields #[(.str (Str.ofString "OutOfRow") 225), (.str (Str.ofString "OutOfRow") 226), (.str (Str.ofString "/claim/cut.py") 227), (.int 6 0), (.int 0 0), (.int 0 0), (.int 0 0), (.int 0 0), (.ref 43), (.bool false), (.int 181 0), (.ref 44), .none, .none, .none, .none, (.int 228 0), (.int 6 0), (.str (Str.ofString "/claim/cut.py") 229)]), #[]⟩
noncomputable def ob46 (P : Params) : Obj := ⟨(.type "frame"), none, .plain, #[(some (.ref 45)), (some (.ref 3)), (some (.ref 42)), none, (some (.str (Str.ofString "rangebook.errors") 187)), none, (some (.ref 0))]⟩
noncomputable def ob47 (P : Params) : Obj := ⟨(.type "tuple"), none, (.seq #[] 0), #[]⟩
noncomputable def ob48 (P : Params) : Obj := ⟨(.type "dict"), none, (.dict #[⟨PyData.keyHash P (Str.ofString "__module__"), .str (Str.ofString "__module__") 230, (.str (Str.ofString "rangebook.errors") 187)⟩, ⟨PyData.keyHash P (Str.ofString "__firstlineno__"), .str (Str.ofString "__firstlineno__") 234, (.int 6 233)⟩, ⟨PyData.keyHash P (Str.ofString "__static_attributes__"), .str (Str.ofString "__static_attributes__") 235, (.ref 47)⟩, ⟨PyData.keyHash P (Str.ofString "__doc__"), .str (Str.ofString "__doc__") 236, .none⟩] 2), #[]⟩
noncomputable def ob49 (P : Params) : Obj := ⟨(.type "type"), none, (.cls ⟨(Str.ofString "OutOfRow"), [(.ref 24)], [(.ref 49), (.ref 24), (.type "ValueError"), (.type "Exception"), (.type "BaseException"), (.type "object")], 48, (Str.ofString "OutOfRow"), true, [], [], false, none, false⟩), #[(some (.ref 40)), none, (some (.str (Str.ofString "OutOfRow") 223)), (some (.str (Str.ofString "OutOfRow") 231)), (some (.builtin "ValueError.__new__")), (some (.bool true))]⟩
noncomputable def ob50 (P : Params) : Obj := ⟨(.type "super"), none, (.fields #[(.ref 49), (.ref 49), (.ref 49)]), #[]⟩
noncomputable def ob51 (P : Params) : Obj := ⟨(.type "builtin_function_or_method"), none, (.fields #[(.builtin "object.__init_subclass__"), (.ref 49)]), #[]⟩
noncomputable def ob52 (P : Params) : Obj := ⟨(.type "tuple"), none, (.seq #[(.ref 24)] 0), #[]⟩
noncomputable def ob53 (P : Params) : Obj := ⟨(.type "builtin_function_or_method"), none, (.fields #[(.builtin "type.__prepare__"), (.type "type")]), #[]⟩
noncomputable def ob54 (P : Params) : Obj := ⟨(.type "dict"), none, (.dict #[⟨PyData.keyHash P (Str.ofString "__module__"), .str (Str.ofString "__module__") 246, (.str (Str.ofString "rangebook.errors") 187)⟩, ⟨PyData.keyHash P (Str.ofString "__qualname__"), .str (Str.ofString "__qualname__") 248, (.str (Str.ofString "Nothing") 247)⟩, ⟨PyData.keyHash P (Str.ofString "__firstlineno__"), .str (Str.ofString "__firstlineno__") 250, (.int 8 249)⟩, ⟨PyData.keyHash P (Str.ofString "__static_attributes__"), .str (Str.ofString "__static_attributes__") 251, (.ref 59)⟩] 4), #[]⟩
noncomputable def ob55 (P : Params) : Obj := ⟨(.type "tuple"), none, (.seq #[] 0), #[]⟩
noncomputable def ob56 (P : Params) : Obj := ⟨.none, none, (.fields #[]), #[]⟩
noncomputable def ob57 (P : Params) : Obj := ⟨(.type "code"), none, (.fields #[(.str (Str.ofString "Nothing") 241), (.str (Str.ofString "Nothing") 242), (.str (Str.ofString "/claim/cut.py") 243), (.int 8 0), (.int 0 0), (.int 0 0), (.int 0 0), (.int 0 0), (.ref 55), (.bool false), (.int 181 0), (.ref 56), .none, .none, .none, .none, (.int 244 0), (.int 8 0), (.str (Str.ofString "/claim/cut.py") 245)]), #[]⟩
noncomputable def ob58 (P : Params) : Obj := ⟨(.type "frame"), none, .plain, #[(some (.ref 57)), (some (.ref 3)), (some (.ref 54)), none, (some (.str (Str.ofString "rangebook.errors") 187)), none, (some (.ref 0))]⟩
noncomputable def ob59 (P : Params) : Obj := ⟨(.type "tuple"), none, (.seq #[] 0), #[]⟩
noncomputable def ob60 (P : Params) : Obj := ⟨(.type "dict"), none, (.dict #[⟨PyData.keyHash P (Str.ofString "__module__"), .str (Str.ofString "__module__") 246, (.str (Str.ofString "rangebook.errors") 187)⟩, ⟨PyData.keyHash P (Str.ofString "__firstlineno__"), .str (Str.ofString "__firstlineno__") 250, (.int 8 249)⟩, ⟨PyData.keyHash P (Str.ofString "__static_attributes__"), .str (Str.ofString "__static_attributes__") 251, (.ref 59)⟩, ⟨PyData.keyHash P (Str.ofString "__doc__"), .str (Str.ofString "__doc__") 252, .none⟩] 2), #[]⟩
noncomputable def ob61 (P : Params) : Obj := ⟨(.type "type"), none, (.cls ⟨(Str.ofString "Nothing"), [(.ref 24)], [(.ref 61), (.ref 24), (.type "ValueError"), (.type "Exception"), (.type "BaseException"), (.type "object")], 60, (Str.ofString "Nothing"), true, [], [], false, none, false⟩), #[(some (.ref 52)), none, (some (.str (Str.ofString "Nothing") 239)), (some (.str (Str.ofString "Nothing") 247)), (some (.builtin "ValueError.__new__")), (some (.bool true))]⟩
noncomputable def ob62 (P : Params) : Obj := ⟨(.type "super"), none, (.fields #[(.ref 61), (.ref 61), (.ref 61)]), #[]⟩
noncomputable def ob63 (P : Params) : Obj := ⟨(.type "builtin_function_or_method"), none, (.fields #[(.builtin "object.__init_subclass__"), (.ref 61)]), #[]⟩
noncomputable def ob64 (P : Params) : Obj := ⟨(.type "tuple"), none, (.seq #[(.ref 24)] 0), #[]⟩
noncomputable def ob65 (P : Params) : Obj := ⟨(.type "builtin_function_or_method"), none, (.fields #[(.builtin "type.__prepare__"), (.type "type")]), #[]⟩
noncomputable def ob66 (P : Params) : Obj := ⟨(.type "dict"), none, (.dict #[⟨PyData.keyHash P (Str.ofString "__module__"), .str (Str.ofString "__module__") 262, (.str (Str.ofString "rangebook.errors") 187)⟩, ⟨PyData.keyHash P (Str.ofString "__qualname__"), .str (Str.ofString "__qualname__") 264, (.str (Str.ofString "TooMany") 263)⟩, ⟨PyData.keyHash P (Str.ofString "__firstlineno__"), .str (Str.ofString "__firstlineno__") 266, (.int 10 265)⟩, ⟨PyData.keyHash P (Str.ofString "__static_attributes__"), .str (Str.ofString "__static_attributes__") 267, (.ref 71)⟩] 4), #[]⟩
noncomputable def ob67 (P : Params) : Obj := ⟨(.type "tuple"), none, (.seq #[] 0), #[]⟩
noncomputable def ob68 (P : Params) : Obj := ⟨.none, none, (.fields #[]), #[]⟩
noncomputable def ob69 (P : Params) : Obj := ⟨(.type "code"), none, (.fields #[(.str (Str.ofString "TooMany") 257), (.str (Str.ofString "TooMany") 258), (.str (Str.ofString "/claim/cut.py") 259), (.int 10 0), (.int 0 0), (.int 0 0), (.int 0 0), (.int 0 0), (.ref 67), (.bool false), (.int 181 0), (.ref 68), .none, .none, .none, .none, (.int 260 0), (.int 10 0), (.str (Str.ofString "/claim/cut.py") 261)]), #[]⟩
noncomputable def ob70 (P : Params) : Obj := ⟨(.type "frame"), none, .plain, #[(some (.ref 69)), (some (.ref 3)), (some (.ref 66)), none, (some (.str (Str.ofString "rangebook.errors") 187)), none, (some (.ref 0))]⟩
noncomputable def ob71 (P : Params) : Obj := ⟨(.type "tuple"), none, (.seq #[] 0), #[]⟩
noncomputable def ob72 (P : Params) : Obj := ⟨(.type "dict"), none, (.dict #[⟨PyData.keyHash P (Str.ofString "__module__"), .str (Str.ofString "__module__") 262, (.str (Str.ofString "rangebook.errors") 187)⟩, ⟨PyData.keyHash P (Str.ofString "__firstlineno__"), .str (Str.ofString "__firstlineno__") 266, (.int 10 265)⟩, ⟨PyData.keyHash P (Str.ofString "__static_attributes__"), .str (Str.ofString "__static_attributes__") 267, (.ref 71)⟩, ⟨PyData.keyHash P (Str.ofString "__doc__"), .str (Str.ofString "__doc__") 268, .none⟩] 2), #[]⟩
noncomputable def ob73 (P : Params) : Obj := ⟨(.type "type"), none, (.cls ⟨(Str.ofString "TooMany"), [(.ref 24)], [(.ref 73), (.ref 24), (.type "ValueError"), (.type "Exception"), (.type "BaseException"), (.type "object")], 72, (Str.ofString "TooMany"), true, [], [], false, none, false⟩), #[(some (.ref 64)), none, (some (.str (Str.ofString "TooMany") 255)), (some (.str (Str.ofString "TooMany") 263)), (some (.builtin "ValueError.__new__")), (some (.bool true))]⟩
noncomputable def ob74 (P : Params) : Obj := ⟨(.type "super"), none, (.fields #[(.ref 73), (.ref 73), (.ref 73)]), #[]⟩
noncomputable def ob75 (P : Params) : Obj := ⟨(.type "builtin_function_or_method"), none, (.fields #[(.builtin "object.__init_subclass__"), (.ref 73)]), #[]⟩
noncomputable def ob76 (P : Params) : Obj := ⟨(.type "tuple"), none, (.seq #[(.ref 24)] 0), #[]⟩
noncomputable def ob77 (P : Params) : Obj := ⟨(.type "builtin_function_or_method"), none, (.fields #[(.builtin "type.__prepare__"), (.type "type")]), #[]⟩
noncomputable def ob78 (P : Params) : Obj := ⟨(.type "dict"), none, (.dict #[⟨PyData.keyHash P (Str.ofString "__module__"), .str (Str.ofString "__module__") 278, (.str (Str.ofString "rangebook.errors") 187)⟩, ⟨PyData.keyHash P (Str.ofString "__qualname__"), .str (Str.ofString "__qualname__") 280, (.str (Str.ofString "NoDeed") 279)⟩, ⟨PyData.keyHash P (Str.ofString "__firstlineno__"), .str (Str.ofString "__firstlineno__") 282, (.int 12 281)⟩, ⟨PyData.keyHash P (Str.ofString "__static_attributes__"), .str (Str.ofString "__static_attributes__") 283, (.ref 83)⟩] 4), #[]⟩
noncomputable def ob79 (P : Params) : Obj := ⟨(.type "tuple"), none, (.seq #[] 0), #[]⟩
noncomputable def ob80 (P : Params) : Obj := ⟨.none, none, (.fields #[]), #[]⟩
noncomputable def ob81 (P : Params) : Obj := ⟨(.type "code"), none, (.fields #[(.str (Str.ofString "NoDeed") 273), (.str (Str.ofString "NoDeed") 274), (.str (Str.ofString "/claim/cut.py") 275), (.int 12 0), (.int 0 0), (.int 0 0), (.int 0 0), (.int 0 0), (.ref 79), (.bool false), (.int 181 0), (.ref 80), .none, .none, .none, .none, (.int 276 0), (.int 12 0), (.str (Str.ofString "/claim/cut.py") 277)]), #[]⟩
noncomputable def ob82 (P : Params) : Obj := ⟨(.type "frame"), none, .plain, #[(some (.ref 81)), (some (.ref 3)), (some (.ref 78)), none, (some (.str (Str.ofString "rangebook.errors") 187)), none, (some (.ref 0))]⟩
noncomputable def ob83 (P : Params) : Obj := ⟨(.type "tuple"), none, (.seq #[] 0), #[]⟩
noncomputable def ob84 (P : Params) : Obj := ⟨(.type "dict"), none, (.dict #[⟨PyData.keyHash P (Str.ofString "__module__"), .str (Str.ofString "__module__") 278, (.str (Str.ofString "rangebook.errors") 187)⟩, ⟨PyData.keyHash P (Str.ofString "__firstlineno__"), .str (Str.ofString "__firstlineno__") 282, (.int 12 281)⟩, ⟨PyData.keyHash P (Str.ofString "__static_attributes__"), .str (Str.ofString "__static_attributes__") 283, (.ref 83)⟩, ⟨PyData.keyHash P (Str.ofString "__doc__"), .str (Str.ofString "__doc__") 284, .none⟩] 2), #[]⟩
noncomputable def ob85 (P : Params) : Obj := ⟨(.type "type"), none, (.cls ⟨(Str.ofString "NoDeed"), [(.ref 24)], [(.ref 85), (.ref 24), (.type "ValueError"), (.type "Exception"), (.type "BaseException"), (.type "object")], 84, (Str.ofString "NoDeed"), true, [], [], false, none, false⟩), #[(some (.ref 76)), none, (some (.str (Str.ofString "NoDeed") 271)), (some (.str (Str.ofString "NoDeed") 279)), (some (.builtin "ValueError.__new__")), (some (.bool true))]⟩
noncomputable def ob86 (P : Params) : Obj := ⟨(.type "super"), none, (.fields #[(.ref 85), (.ref 85), (.ref 85)]), #[]⟩
noncomputable def ob87 (P : Params) : Obj := ⟨(.type "builtin_function_or_method"), none, (.fields #[(.builtin "object.__init_subclass__"), (.ref 85)]), #[]⟩
noncomputable def ob88 (P : Params) : Obj := ⟨(.type "dict"), none, (.dict #[⟨PyData.keyHash P (Str.ofString "add"), .str (Str.ofString "add") 289, (.int 3 290)⟩, ⟨PyData.keyHash P (Str.ofString "fill"), .str (Str.ofString "fill") 291, (.int 3 292)⟩, ⟨PyData.keyHash P (Str.ofString "total"), .str (Str.ofString "total") 293, (.int 2 294)⟩, ⟨PyData.keyHash P (Str.ofString "least"), .str (Str.ofString "least") 295, (.int 2 296)⟩, ⟨PyData.keyHash P (Str.ofString "place"), .str (Str.ofString "place") 297, (.int 2 298)⟩, ⟨PyData.keyHash P (Str.ofString "first"), .str (Str.ofString "first") 299, (.int 2 300)⟩, ⟨PyData.keyHash P (Str.ofString "list"), .str (Str.ofString "list") 301, (.int 2 302)⟩, ⟨PyData.keyHash P (Str.ofString "back"), .str (Str.ofString "back") 303, (.int 0 304)⟩] 8), #[]⟩
noncomputable def ob89 (P : Params) : Obj := ⟨(.type "tuple"), none, (.seq #[] 0), #[]⟩
noncomputable def ob90 (P : Params) : Obj := ⟨.none, none, (.fields #[]), #[]⟩
noncomputable def ob91 (P : Params) : Obj := ⟨(.type "tuple"), none, (.seq #[(.str (Str.ofString "deed") 319), (.str (Str.ofString "parts") 320), (.str (Str.ofString "number") 321)] 0), #[]⟩
noncomputable def ob92 (P : Params) : Obj := ⟨(.type "tuple"), none, (.seq #[] 0), #[]⟩
noncomputable def ob93 (P : Params) : Obj := ⟨.none, none, (.func { name := (Str.ofString "shown"), qualname := (Str.ofString "shown"), params := fnA (stAt 10), body := .stmts (fnB (stAt 10)), scope := fnS (stAt 10), globals := 0, closure := [], defaults := .none, kwdefaults := .none, doc := .none, pyModule := .none, annotations := none, code := .none, closureTuple := .none, builtins := 0 }), #[]⟩
noncomputable def ob94 (P : Params) : Obj := ⟨(.type "code"), none, (.fields #[(.str (Str.ofString "shown") 316), (.str (Str.ofString "shown") 317), (.str (Str.ofString "/claim/cut.py") 318), (.int 17 0), (.int 1 0), (.int 0 0), (.int 0 0), (.int 3 0), (.ref 89), (.bool true), (.int 181 0), (.ref 90), .none, (.ref 91), (.ref 92), (.ref 93), (.int 322 0), (.int 17 0), (.str (Str.ofString "/claim/cut.py") 323)]), #[]⟩
noncomputable def ob95 (P : Params) : Obj := ⟨(.type "function"), none, (.func { name := (Str.ofString "shown"), qualname := (Str.ofString "shown"), params := fnA (stAt 10), body := .stmts (fnB (stAt 10)), scope := fnS (stAt 10), globals := 3, closure := [], defaults := .none, kwdefaults := .none, doc := .none, pyModule := (.str (Str.ofString "rangebook.notes") 287), annotations := none, code := (.ref 94), closureTuple := .none, builtins := 0 }), #[]⟩
noncomputable def ob96 (P : Params) : Obj := ⟨(.type "tuple"), none, (.seq #[] 0), #[]⟩
noncomputable def ob97 (P : Params) : Obj := ⟨.none, none, (.fields #[]), #[]⟩
noncomputable def ob98 (P : Params) : Obj := ⟨(.type "tuple"), none, (.seq #[(.str (Str.ofString "part") 328), (.str (Str.ofString "figures") 329), (.str (Str.ofString "sign") 330)] 0), #[]⟩
noncomputable def ob99 (P : Params) : Obj := ⟨(.type "tuple"), none, (.seq #[] 0), #[]⟩
noncomputable def ob100 (P : Params) : Obj := ⟨.none, none, (.func { name := (Str.ofString "number_of"), qualname := (Str.ofString "number_of"), params := fnA (stAt 11), body := .stmts (fnB (stAt 11)), scope := fnS (stAt 11), globals := 0, closure := [], defaults := .none, kwdefaults := .none, doc := .none, pyModule := .none, annotations := none, code := .none, closureTuple := .none, builtins := 0 }), #[]⟩
noncomputable def ob101 (P : Params) : Obj := ⟨(.type "code"), none, (.fields #[(.str (Str.ofString "number_of") 325), (.str (Str.ofString "number_of") 326), (.str (Str.ofString "/claim/cut.py") 327), (.int 22 0), (.int 1 0), (.int 0 0), (.int 0 0), (.int 3 0), (.ref 96), (.bool true), (.int 181 0), (.ref 97), .none, (.ref 98), (.ref 99), (.ref 100), (.int 331 0), (.int 22 0), (.str (Str.ofString "/claim/cut.py") 332)]), #[]⟩
noncomputable def ob102 (P : Params) : Obj := ⟨(.type "function"), none, (.func { name := (Str.ofString "number_of"), qualname := (Str.ofString "number_of"), params := fnA (stAt 11), body := .stmts (fnB (stAt 11)), scope := fnS (stAt 11), globals := 3, closure := [], defaults := .none, kwdefaults := .none, doc := .none, pyModule := (.str (Str.ofString "rangebook.notes") 287), annotations := none, code := (.ref 101), closureTuple := .none, builtins := 0 }), #[]⟩
noncomputable def ob103 (P : Params) : Obj := ⟨(.type "tuple"), none, (.seq #[] 0), #[]⟩
noncomputable def ob104 (P : Params) : Obj := ⟨.none, none, (.fields #[]), #[]⟩
noncomputable def ob105 (P : Params) : Obj := ⟨(.type "tuple"), none, (.seq #[(.str (Str.ofString "line") 337), (.str (Str.ofString "parts") 338), (.str (Str.ofString "word") 339), (.str (Str.ofString "deed") 340), (.str (Str.ofString "part") 341)] 0), #[]⟩
noncomputable def ob106 (P : Params) : Obj := ⟨(.type "tuple"), none, (.seq #[] 0), #[]⟩
noncomputable def ob107 (P : Params) : Obj := ⟨.none, none, (.func { name := (Str.ofString "read"), qualname := (Str.ofString "read"), params := fnA (stAt 12), body := .stmts (fnB (stAt 12)), scope := fnS (stAt 12), globals := 0, closure := [], defaults := .none, kwdefaults := .none, doc := .none, pyModule := .none, annotations := none, code := .none, closureTuple := .none, builtins := 0 }), #[]⟩
noncomputable def ob108 (P : Params) : Obj := ⟨(.type "code"), none, (.fields #[(.str (Str.ofString "read") 334), (.str (Str.ofString "read") 335), (.str (Str.ofString "/claim/cut.py") 336), (.int 34 0), (.int 1 0), (.int 0 0), (.int 0 0), (.int 3 0), (.ref 103), (.bool true), (.int 181 0), (.ref 104), .none, (.ref 105), (.ref 106), (.ref 107), (.int 342 0), (.int 34 0), (.str (Str.ofString "/claim/cut.py") 343)]), #[]⟩
noncomputable def ob109 (P : Params) : Obj := ⟨(.type "function"), none, (.func { name := (Str.ofString "read"), qualname := (Str.ofString "read"), params := fnA (stAt 12), body := .stmts (fnB (stAt 12)), scope := fnS (stAt 12), globals := 3, closure := [], defaults := .none, kwdefaults := .none, doc := .none, pyModule := (.str (Str.ofString "rangebook.notes") 287), annotations := none, code := (.ref 108), closureTuple := .none, builtins := 0 }), #[]⟩
noncomputable def ob110 (P : Params) : Obj := ⟨(.type "tuple"), none, (.seq #[] 0), #[]⟩
noncomputable def ob111 (P : Params) : Obj := ⟨.none, none, (.fields #[]), #[]⟩
noncomputable def ob112 (P : Params) : Obj := ⟨(.type "tuple"), none, (.seq #[(.str (Str.ofString "_law_found") 350)] 0), #[]⟩
noncomputable def ob113 (P : Params) : Obj := ⟨(.type "tuple"), none, (.seq #[] 0), #[]⟩
noncomputable def ob114 (P : Params) : Obj := ⟨.none, none, (.func { name := (Str.ofString "_law_whole"), qualname := (Str.ofString "_law_whole"), params := fnA (stAt 14), body := .stmts (fnB (stAt 14)), scope := fnS (stAt 14), globals := 0, closure := [], defaults := .none, kwdefaults := .none, doc := .none, pyModule := .none, annotations := none, code := .none, closureTuple := .none, builtins := 0 }), #[]⟩
noncomputable def ob115 (P : Params) : Obj := ⟨(.type "code"), none, (.fields #[(.str (Str.ofString "_law_whole") 347), (.str (Str.ofString "_law_whole") 348), (.str (Str.ofString "/claim/cut.py") 349), (.int 46 0), (.int 1 0), (.int 0 0), (.int 0 0), (.int 3 0), (.ref 110), (.bool true), (.int 181 0), (.ref 111), .none, (.ref 112), (.ref 113), (.ref 114), (.int 351 0), (.int 46 0), (.str (Str.ofString "/claim/cut.py") 352)]), #[]⟩
noncomputable def ob116 (P : Params) : Obj := ⟨(.type "function"), none, (.func { name := (Str.ofString "_law_whole"), qualname := (Str.ofString "_law_whole"), params := fnA (stAt 14), body := .stmts (fnB (stAt 14)), scope := fnS (stAt 14), globals := 3, closure := [], defaults := .none, kwdefaults := .none, doc := .none, pyModule := (.str (Str.ofString "law_uf060011_09") 345), annotations := none, code := (.ref 115), closureTuple := .none, builtins := 0 }), #[]⟩
noncomputable def ob117 (P : Params) : Obj := ⟨(.type "tuple"), none, (.seq #[] 0), #[]⟩
noncomputable def ob118 (P : Params) : Obj := ⟨.none, none, (.fields #[]), #[]⟩
noncomputable def ob119 (P : Params) : Obj := ⟨(.type "tuple"), none, (.seq #[(.str (Str.ofString "_law_script") 357), (.str (Str.ofString "_law_k") 358)] 0), #[]⟩
noncomputable def ob120 (P : Params) : Obj := ⟨(.type "tuple"), none, (.seq #[] 0), #[]⟩
noncomputable def ob121 (P : Params) : Obj := ⟨.none, none, (.func { name := (Str.ofString "_law_cell_at"), qualname := (Str.ofString "_law_cell_at"), params := fnA (stAt 15), body := .stmts (fnB (stAt 15)), scope := fnS (stAt 15), globals := 0, closure := [], defaults := .none, kwdefaults := .none, doc := .none, pyModule := .none, annotations := none, code := .none, closureTuple := .none, builtins := 0 }), #[]⟩
noncomputable def ob122 (P : Params) : Obj := ⟨(.type "code"), none, (.fields #[(.str (Str.ofString "_law_cell_at") 354), (.str (Str.ofString "_law_cell_at") 355), (.str (Str.ofString "/claim/cut.py") 356), (.int 48 0), (.int 2 0), (.int 0 0), (.int 0 0), (.int 3 0), (.ref 117), (.bool true), (.int 181 0), (.ref 118), .none, (.ref 119), (.ref 120), (.ref 121), (.int 359 0), (.int 48 0), (.str (Str.ofString "/claim/cut.py") 360)]), #[]⟩
noncomputable def ob123 (P : Params) : Obj := ⟨(.type "function"), none, (.func { name := (Str.ofString "_law_cell_at"), qualname := (Str.ofString "_law_cell_at"), params := fnA (stAt 15), body := .stmts (fnB (stAt 15)), scope := fnS (stAt 15), globals := 3, closure := [], defaults := .none, kwdefaults := .none, doc := .none, pyModule := (.str (Str.ofString "law_uf060011_09") 345), annotations := none, code := (.ref 122), closureTuple := .none, builtins := 0 }), #[]⟩
noncomputable def ob124 (P : Params) : Obj := ⟨(.type "tuple"), none, (.seq #[] 0), #[]⟩
noncomputable def ob125 (P : Params) : Obj := ⟨.none, none, (.fields #[]), #[]⟩
noncomputable def ob126 (P : Params) : Obj := ⟨(.type "tuple"), none, (.seq #[(.str (Str.ofString "_law_cell") 365), (.str (Str.ofString "_law_words") 366), (.str (Str.ofString "_law_some") 367), (.str (Str.ofString "_law_k") 368)] 0), #[]⟩
noncomputable def ob127 (P : Params) : Obj := ⟨(.type "tuple"), none, (.seq #[] 0), #[]⟩
noncomputable def ob128 (P : Params) : Obj := ⟨.none, none, (.func { name := (Str.ofString "_law_word_by"), qualname := (Str.ofString "_law_word_by"), params := fnA (stAt 16), body := .stmts (fnB (stAt 16)), scope := fnS (stAt 16), globals := 0, closure := [], defaults := .none, kwdefaults := .none, doc := .none, pyModule := .none, annotations := none, code := .none, closureTuple := .none, builtins := 0 }), #[]⟩
noncomputable def ob129 (P : Params) : Obj := ⟨(.type "code"), none, (.fields #[(.str (Str.ofString "_law_word_by") 362), (.str (Str.ofString "_law_word_by") 363), (.str (Str.ofString "/claim/cut.py") 364), (.int 52 0), (.int 1 0), (.int 0 0), (.int 0 0), (.int 3 0), (.ref 124), (.bool true), (.int 181 0), (.ref 125), .none, (.ref 126), (.ref 127), (.ref 128), (.int 369 0), (.int 52 0), (.str (Str.ofString "/claim/cut.py") 370)]), #[]⟩
noncomputable def ob130 (P : Params) : Obj := ⟨(.type "function"), none, (.func { name := (Str.ofString "_law_word_by"), qualname := (Str.ofString "_law_word_by"), params := fnA (stAt 16), body := .stmts (fnB (stAt 16)), scope := fnS (stAt 16), globals := 3, closure := [], defaults := .none, kwdefaults := .none, doc := .none, pyModule := (.str (Str.ofString "law_uf060011_09") 345), annotations := none, code := (.ref 129), closureTuple := .none, builtins := 0 }), #[]⟩
noncomputable def ob131 (P : Params) : Obj := ⟨(.type "tuple"), none, (.seq #[] 0), #[]⟩
noncomputable def ob132 (P : Params) : Obj := ⟨.none, none, (.fields #[]), #[]⟩
noncomputable def ob133 (P : Params) : Obj := ⟨(.type "tuple"), none, (.seq #[(.str (Str.ofString "_law_word") 375)] 0), #[]⟩
noncomputable def ob134 (P : Params) : Obj := ⟨(.type "tuple"), none, (.seq #[] 0), #[]⟩
noncomputable def ob135 (P : Params) : Obj := ⟨.none, none, (.func { name := (Str.ofString "_law_count"), qualname := (Str.ofString "_law_count"), params := fnA (stAt 17), body := .stmts (fnB (stAt 17)), scope := fnS (stAt 17), globals := 0, closure := [], defaults := .none, kwdefaults := .none, doc := .none, pyModule := .none, annotations := none, code := .none, closureTuple := .none, builtins := 0 }), #[]⟩
noncomputable def ob136 (P : Params) : Obj := ⟨(.type "code"), none, (.fields #[(.str (Str.ofString "_law_count") 372), (.str (Str.ofString "_law_count") 373), (.str (Str.ofString "/claim/cut.py") 374), (.int 64 0), (.int 1 0), (.int 0 0), (.int 0 0), (.int 3 0), (.ref 131), (.bool true), (.int 181 0), (.ref 132), .none, (.ref 133), (.ref 134), (.ref 135), (.int 376 0), (.int 64 0), (.str (Str.ofString "/claim/cut.py") 377)]), #[]⟩
noncomputable def ob137 (P : Params) : Obj := ⟨(.type "function"), none, (.func { name := (Str.ofString "_law_count"), qualname := (Str.ofString "_law_count"), params := fnA (stAt 17), body := .stmts (fnB (stAt 17)), scope := fnS (stAt 17), globals := 3, closure := [], defaults := .none, kwdefaults := .none, doc := .none, pyModule := (.str (Str.ofString "law_uf060011_09") 345), annotations := none, code := (.ref 136), closureTuple := .none, builtins := 0 }), #[]⟩
noncomputable def ob138 (P : Params) : Obj := ⟨(.type "tuple"), none, (.seq #[] 0), #[]⟩
noncomputable def ob139 (P : Params) : Obj := ⟨.none, none, (.fields #[]), #[]⟩
noncomputable def ob140 (P : Params) : Obj := ⟨(.type "tuple"), none, (.seq #[(.str (Str.ofString "_law_cell") 382), (.str (Str.ofString "_law_most") 383), (.str (Str.ofString "_law_tail") 384), (.str (Str.ofString "_law_odd") 385)] 0), #[]⟩
noncomputable def ob141 (P : Params) : Obj := ⟨(.type "tuple"), none, (.seq #[] 0), #[]⟩
noncomputable def ob142 (P : Params) : Obj := ⟨.none, none, (.func { name := (Str.ofString "_law_figures_by"), qualname := (Str.ofString "_law_figures_by"), params := fnA (stAt 18), body := .stmts (fnB (stAt 18)), scope := fnS (stAt 18), globals := 0, closure := [], defaults := .none, kwdefaults := .none, doc := .none, pyModule := .none, annotations := none, code := .none, closureTuple := .none, builtins := 0 }), #[]⟩
noncomputable def ob143 (P : Params) : Obj := ⟨(.type "code"), none, (.fields #[(.str (Str.ofString "_law_figures_by") 379), (.str (Str.ofString "_law_figures_by") 380), (.str (Str.ofString "/claim/cut.py") 381), (.int 72 0), (.int 2 0), (.int 0 0), (.int 0 0), (.int 3 0), (.ref 138), (.bool true), (.int 181 0), (.ref 139), .none, (.ref 140), (.ref 141), (.ref 142), (.int 386 0), (.int 72 0), (.str (Str.ofString "/claim/cut.py") 387)]), #[]⟩
noncomputable def ob144 (P : Params) : Obj := ⟨(.type "function"), none, (.func { name := (Str.ofString "_law_figures_by"), qualname := (Str.ofString "_law_figures_by"), params := fnA (stAt 18), body := .stmts (fnB (stAt 18)), scope := fnS (stAt 18), globals := 3, closure := [], defaults := .none, kwdefaults := .none, doc := .none, pyModule := (.str (Str.ofString "law_uf060011_09") 345), annotations := none, code := (.ref 143), closureTuple := .none, builtins := 0 }), #[]⟩
noncomputable def ob145 (P : Params) : Obj := ⟨(.type "tuple"), none, (.seq #[] 0), #[]⟩
noncomputable def ob146 (P : Params) : Obj := ⟨.none, none, (.fields #[]), #[]⟩
noncomputable def ob147 (P : Params) : Obj := ⟨(.type "tuple"), none, (.seq #[(.str (Str.ofString "_law_some") 392)] 0), #[]⟩
noncomputable def ob148 (P : Params) : Obj := ⟨(.type "tuple"), none, (.seq #[] 0), #[]⟩
noncomputable def ob149 (P : Params) : Obj := ⟨.none, none, (.func { name := (Str.ofString "_law_signs"), qualname := (Str.ofString "_law_signs"), params := fnA (stAt 19), body := .stmts (fnB (stAt 19)), scope := fnS (stAt 19), globals := 0, closure := [], defaults := .none, kwdefaults := .none, doc := .none, pyModule := .none, annotations := none, code := .none, closureTuple := .none, builtins := 0 }), #[]⟩
noncomputable def ob150 (P : Params) : Obj := ⟨(.type "code"), none, (.fields #[(.str (Str.ofString "_law_signs") 389), (.str (Str.ofString "_law_signs") 390), (.str (Str.ofString "/claim/cut.py") 391), (.int 85 0), (.int 0 0), (.int 0 0), (.int 0 0), (.int 3 0), (.ref 145), (.bool true), (.int 181 0), (.ref 146), .none, (.ref 147), (.ref 148), (.ref 149), (.int 393 0), (.int 85 0), (.str (Str.ofString "/claim/cut.py") 394)]), #[]⟩
noncomputable def ob151 (P : Params) : Obj := ⟨(.type "function"), none, (.func { name := (Str.ofString "_law_signs"), qualname := (Str.ofString "_law_signs"), params := fnA (stAt 19), body := .stmts (fnB (stAt 19)), scope := fnS (stAt 19), globals := 3, closure := [], defaults := .none, kwdefaults := .none, doc := .none, pyModule := (.str (Str.ofString "law_uf060011_09") 345), annotations := none, code := (.ref 150), closureTuple := .none, builtins := 0 }), #[]⟩
noncomputable def ob152 (P : Params) : Obj := ⟨(.type "tuple"), none, (.seq #[] 0), #[]⟩
noncomputable def ob153 (P : Params) : Obj := ⟨.none, none, (.fields #[]), #[]⟩
noncomputable def ob154 (P : Params) : Obj := ⟨(.type "tuple"), none, (.seq #[(.str (Str.ofString "_law_word") 399), (.str (Str.ofString "_law_figures") 400), (.str (Str.ofString "_law_sign") 401)] 0), #[]⟩
noncomputable def ob155 (P : Params) : Obj := ⟨(.type "tuple"), none, (.seq #[] 0), #[]⟩
noncomputable def ob156 (P : Params) : Obj := ⟨.none, none, (.func { name := (Str.ofString "_law_number_of"), qualname := (Str.ofString "_law_number_of"), params := fnA (stAt 20), body := .stmts (fnB (stAt 20)), scope := fnS (stAt 20), globals := 0, closure := [], defaults := .none, kwdefaults := .none, doc := .none, pyModule := .none, annotations := none, code := .none, closureTuple := .none, builtins := 0 }), #[]⟩
noncomputable def ob157 (P : Params) : Obj := ⟨(.type "code"), none, (.fields #[(.str (Str.ofString "_law_number_of") 396), (.str (Str.ofString "_law_number_of") 397), (.str (Str.ofString "/claim/cut.py") 398), (.int 88 0), (.int 1 0), (.int 0 0), (.int 0 0), (.int 3 0), (.ref 152), (.bool true), (.int 181 0), (.ref 153), .none, (.ref 154), (.ref 155), (.ref 156), (.int 402 0), (.int 88 0), (.str (Str.ofString "/claim/cut.py") 403)]), #[]⟩
noncomputable def ob158 (P : Params) : Obj := ⟨(.type "function"), none, (.func { name := (Str.ofString "_law_number_of"), qualname := (Str.ofString "_law_number_of"), params := fnA (stAt 20), body := .stmts (fnB (stAt 20)), scope := fnS (stAt 20), globals := 3, closure := [], defaults := .none, kwdefaults := .none, doc := .none, pyModule := (.str (Str.ofString "law_uf060011_09") 345), annotations := none, code := (.ref 157), closureTuple := .none, builtins := 0 }), #[]⟩
noncomputable def ob159 (P : Params) : Obj := ⟨(.type "tuple"), none, (.seq #[] 0), #[]⟩
noncomputable def ob160 (P : Params) : Obj := ⟨.none, none, (.fields #[]), #[]⟩
noncomputable def ob161 (P : Params) : Obj := ⟨(.type "tuple"), none, (.seq #[(.str (Str.ofString "_law_line") 408), (.str (Str.ofString "_law_parts") 409), (.str (Str.ofString "_law_part") 410), (.str (Str.ofString "_law_sign") 411), (.str (Str.ofString "_law_deed") 412), (.str (Str.ofString "_law_word") 413)] 0), #[]⟩
noncomputable def ob162 (P : Params) : Obj := ⟨(.type "tuple"), none, (.seq #[] 0), #[]⟩
noncomputable def ob163 (P : Params) : Obj := ⟨.none, none, (.func { name := (Str.ofString "_law_deed_of"), qualname := (Str.ofString "_law_deed_of"), params := fnA (stAt 21), body := .stmts (fnB (stAt 21)), scope := fnS (stAt 21), globals := 0, closure := [], defaults := .none, kwdefaults := .none, doc := .none, pyModule := .none, annotations := none, code := .none, closureTuple := .none, builtins := 0 }), #[]⟩
noncomputable def ob164 (P : Params) : Obj := ⟨(.type "code"), none, (.fields #[(.str (Str.ofString "_law_deed_of") 405), (.str (Str.ofString "_law_deed_of") 406), (.str (Str.ofString "/claim/cut.py") 407), (.int 98 0), (.int 1 0), (.int 0 0), (.int 0 0), (.int 3 0), (.ref 159), (.bool true), (.int 181 0), (.ref 160), .none, (.ref 161), (.ref 162), (.ref 163), (.int 414 0), (.int 98 0), (.str (Str.ofString "/claim/cut.py") 415)]), #[]⟩
noncomputable def ob165 (P : Params) : Obj := ⟨(.type "function"), none, (.func { name := (Str.ofString "_law_deed_of"), qualname := (Str.ofString "_law_deed_of"), params := fnA (stAt 21), body := .stmts (fnB (stAt 21)), scope := fnS (stAt 21), globals := 3, closure := [], defaults := .none, kwdefaults := .none, doc := .none, pyModule := (.str (Str.ofString "law_uf060011_09") 345), annotations := none, code := (.ref 164), closureTuple := .none, builtins := 0 }), #[]⟩
noncomputable def ob166 (P : Params) : Obj := ⟨(.type "tuple"), none, (.seq #[] 0), #[]⟩
noncomputable def ob167 (P : Params) : Obj := ⟨.none, none, (.fields #[]), #[]⟩
noncomputable def ob168 (P : Params) : Obj := ⟨(.type "tuple"), none, (.seq #[(.str (Str.ofString "_law_line") 420), (.str (Str.ofString "e") 421)] 0), #[]⟩
noncomputable def ob169 (P : Params) : Obj := ⟨(.type "tuple"), none, (.seq #[] 0), #[]⟩
noncomputable def ob170 (P : Params) : Obj := ⟨.none, none, (.func { name := (Str.ofString "_law_refused_by_any"), qualname := (Str.ofString "_law_refused_by_any"), params := fnA (stAt 22), body := .stmts (fnB (stAt 22)), scope := fnS (stAt 22), globals := 0, closure := [], defaults := .none, kwdefaults := .none, doc := .none, pyModule := .none, annotations := none, code := .none, closureTuple := .none, builtins := 0 }), #[]⟩
noncomputable def ob171 (P : Params) : Obj := ⟨(.type "code"), none, (.fields #[(.str (Str.ofString "_law_refused_by_any") 417), (.str (Str.ofString "_law_refused_by_any") 418), (.str (Str.ofString "/claim/cut.py") 419), (.int 115 0), (.int 1 0), (.int 0 0), (.int 0 0), (.int 3 0), (.ref 166), (.bool true), (.int 181 0), (.ref 167), .none, (.ref 168), (.ref 169), (.ref 170), (.int 422 0), (.int 115 0), (.str (Str.ofString "/claim/cut.py") 423)]), #[]⟩
noncomputable def ob172 (P : Params) : Obj := ⟨(.type "function"), none, (.func { name := (Str.ofString "_law_refused_by_any"), qualname := (Str.ofString "_law_refused_by_any"), params := fnA (stAt 22), body := .stmts (fnB (stAt 22)), scope := fnS (stAt 22), globals := 3, closure := [], defaults := .none, kwdefaults := .none, doc := .none, pyModule := (.str (Str.ofString "law_uf060011_09") 345), annotations := none, code := (.ref 171), closureTuple := .none, builtins := 0 }), #[]⟩
noncomputable def ob173 (P : Params) : Obj := ⟨(.type "tuple"), none, (.seq #[] 0), #[]⟩
noncomputable def ob174 (P : Params) : Obj := ⟨.none, none, (.fields #[]), #[]⟩
noncomputable def ob175 (P : Params) : Obj := ⟨(.type "tuple"), none, (.seq #[(.str (Str.ofString "_law_script") 428), (.str (Str.ofString "_law_word") 429), (.str (Str.ofString "_law_many") 430), (.str (Str.ofString "_law_most") 431), (.str (Str.ofString "_law_line") 432), (.str (Str.ofString "_law_k") 433), (.str (Str.ofString "_law_at") 434), (.str (Str.ofString "_law_due") 435), (.str (Str.ofString "_law_found") 436), (.str (Str.ofString "_law_refused") 437), (.str (Str.ofString "_law_number") 438), (.str (Str.ofString "_law_written") 439)] 0), #[]⟩
noncomputable def ob176 (P : Params) : Obj := ⟨(.type "tuple"), none, (.seq #[] 0), #[]⟩
noncomputable def ob177 (P : Params) : Obj := ⟨.none, none, (.func { name := (Str.ofString "law"), qualname := (Str.ofString "law"), params := fnA (stAt 23), body := .stmts (fnB (stAt 23)), scope := fnS (stAt 23), globals := 0, closure := [], defaults := .none, kwdefaults := .none, doc := .none, pyModule := .none, annotations := none, code := .none, closureTuple := .none, builtins := 0 }), #[]⟩
noncomputable def ob178 (P : Params) : Obj := ⟨(.type "code"), none, (.fields #[(.str (Str.ofString "law") 425), (.str (Str.ofString "law") 426), (.str (Str.ofString "/claim/cut.py") 427), (.int 123 0), (.int 1 0), (.int 0 0), (.int 0 0), (.int 3 0), (.ref 173), (.bool true), (.int 181 0), (.ref 174), .none, (.ref 175), (.ref 176), (.ref 177), (.int 440 0), (.int 123 0), (.str (Str.ofString "/claim/cut.py") 441)]), #[]⟩
noncomputable def ob179 (P : Params) : Obj := ⟨(.type "function"), none, (.func { name := (Str.ofString "law"), qualname := (Str.ofString "law"), params := fnA (stAt 23), body := .stmts (fnB (stAt 23)), scope := fnS (stAt 23), globals := 3, closure := [], defaults := .none, kwdefaults := .none, doc := .none, pyModule := (.str (Str.ofString "law_uf060011_09") 345), annotations := none, code := (.ref 178), closureTuple := .none, builtins := 0 }), #[]⟩
noncomputable def KK (P : Params) : Frag := (nat_lit 2, boot_o_2 P) :: (nat_lit 3, ob3 P) :: (nat_lit 6, boot_o_6 P) :: (nat_lit 15, ob15 P) :: (nat_lit 22, ob22 P) :: (nat_lit 23, ob23 P) :: (nat_lit 24, ob24 P) :: (nat_lit 25, ob25 P) :: (nat_lit 28, ob28 P) :: (nat_lit 35, ob35 P) :: (nat_lit 36, ob36 P) :: (nat_lit 37, ob37 P) :: (nat_lit 40, ob40 P) :: (nat_lit 47, ob47 P) :: (nat_lit 48, ob48 P) :: (nat_lit 49, ob49 P) :: (nat_lit 52, ob52 P) :: (nat_lit 59, ob59 P) :: (nat_lit 60, ob60 P) :: (nat_lit 61, ob61 P) :: (nat_lit 64, ob64 P) :: (nat_lit 71, ob71 P) :: (nat_lit 72, ob72 P) :: (nat_lit 73, ob73 P) :: (nat_lit 76, ob76 P) :: (nat_lit 83, ob83 P) :: (nat_lit 84, ob84 P) :: (nat_lit 85, ob85 P) :: (nat_lit 88, ob88 P) :: (nat_lit 89, ob89 P) :: (nat_lit 91, ob91 P) :: (nat_lit 92, ob92 P) :: (nat_lit 94, ob94 P) :: (nat_lit 95, ob95 P) :: (nat_lit 96, ob96 P) :: (nat_lit 98, ob98 P) :: (nat_lit 99, ob99 P) :: (nat_lit 101, ob101 P) :: (nat_lit 102, ob102 P) :: (nat_lit 103, ob103 P) :: (nat_lit 105, ob105 P) :: (nat_lit 106, ob106 P) :: (nat_lit 108, ob108 P) :: (nat_lit 109, ob109 P) :: (nat_lit 110, ob110 P) :: (nat_lit 112, ob112 P) :: (nat_lit 113, ob113 P) :: (nat_lit 115, ob115 P) :: (nat_lit 116, ob116 P) :: (nat_lit 117, ob117 P) :: (nat_lit 119, ob119 P) :: (nat_lit 120, ob120 P) :: (nat_lit 122, ob122 P) :: (nat_lit 123, ob123 P) :: (nat_lit 124, ob124 P) :: (nat_lit 126, ob126 P) :: (nat_lit 127, ob127 P) :: (nat_lit 129, ob129 P) :: (nat_lit 130, ob130 P) :: (nat_lit 131, ob131 P) :: (nat_lit 133, ob133 P) :: (nat_lit 134, ob134 P) :: (nat_lit 136, ob136 P) :: (nat_lit 137, ob137 P) :: (nat_lit 138, ob138 P) :: (nat_lit 140, ob140 P) :: (nat_lit 141, ob141 P) :: (nat_lit 143, ob143 P) :: (nat_lit 144, ob144 P) :: (nat_lit 145, ob145 P) :: (nat_lit 147, ob147 P) :: (nat_lit 148, ob148 P) :: (nat_lit 150, ob150 P) :: (nat_lit 151, ob151 P) :: (nat_lit 152, ob152 P) :: (nat_lit 154, ob154 P) :: (nat_lit 155, ob155 P) :: (nat_lit 157, ob157 P) :: (nat_lit 158, ob158 P) :: (nat_lit 159, ob159 P) :: (nat_lit 161, ob161 P) :: (nat_lit 162, ob162 P) :: (nat_lit 164, ob164 P) :: (nat_lit 165, ob165 P) :: (nat_lit 166, ob166 P) :: (nat_lit 168, ob168 P) :: (nat_lit 169, ob169 P) :: (nat_lit 171, ob171 P) :: (nat_lit 172, ob172 P) :: (nat_lit 173, ob173 P) :: (nat_lit 175, ob175 P) :: (nat_lit 176, ob176 P) :: (nat_lit 178, ob178 P) :: (nat_lit 179, ob179 P) :: []
noncomputable def KA : List Addr := nat_lit 2 :: nat_lit 3 :: nat_lit 6 :: nat_lit 15 :: nat_lit 22 :: nat_lit 23 :: nat_lit 24 :: nat_lit 25 :: nat_lit 28 :: nat_lit 35 :: nat_lit 36 :: nat_lit 37 :: nat_lit 40 :: nat_lit 47 :: nat_lit 48 :: nat_lit 49 :: nat_lit 52 :: nat_lit 59 :: nat_lit 60 :: nat_lit 61 :: nat_lit 64 :: nat_lit 71 :: nat_lit 72 :: nat_lit 73 :: nat_lit 76 :: nat_lit 83 :: nat_lit 84 :: nat_lit 85 :: nat_lit 88 :: nat_lit 89 :: nat_lit 91 :: nat_lit 92 :: nat_lit 94 :: nat_lit 95 :: nat_lit 96 :: nat_lit 98 :: nat_lit 99 :: nat_lit 101 :: nat_lit 102 :: nat_lit 103 :: nat_lit 105 :: nat_lit 106 :: nat_lit 108 :: nat_lit 109 :: nat_lit 110 :: nat_lit 112 :: nat_lit 113 :: nat_lit 115 :: nat_lit 116 :: nat_lit 117 :: nat_lit 119 :: nat_lit 120 :: nat_lit 122 :: nat_lit 123 :: nat_lit 124 :: nat_lit 126 :: nat_lit 127 :: nat_lit 129 :: nat_lit 130 :: nat_lit 131 :: nat_lit 133 :: nat_lit 134 :: nat_lit 136 :: nat_lit 137 :: nat_lit 138 :: nat_lit 140 :: nat_lit 141 :: nat_lit 143 :: nat_lit 144 :: nat_lit 145 :: nat_lit 147 :: nat_lit 148 :: nat_lit 150 :: nat_lit 151 :: nat_lit 152 :: nat_lit 154 :: nat_lit 155 :: nat_lit 157 :: nat_lit 158 :: nat_lit 159 :: nat_lit 161 :: nat_lit 162 :: nat_lit 164 :: nat_lit 165 :: nat_lit 166 :: nat_lit 168 :: nat_lit 169 :: nat_lit 171 :: nat_lit 172 :: nat_lit 173 :: nat_lit 175 :: nat_lit 176 :: nat_lit 178 :: nat_lit 179 :: []
noncomputable def HE (P : Params) : Heap := ⟨Array.mk (boot_o_0 P :: boot_o_1 P :: boot_o_2 P :: ob3 P :: boot_o_4 P :: boot_o_5 P :: boot_o_6 P :: boot_o_7 P :: boot_o_8 P :: boot_o_9 P :: boot_o_10 P :: ob11 P :: ob12 P :: ob13 P :: ob14 P :: ob15 P :: ob16 P :: ob17 P :: ob18 P :: ob19 P :: ob20 P :: ob21 P :: ob22 P :: ob23 P :: ob24 P :: ob25 P :: ob26 P :: ob27 P :: ob28 P :: ob29 P :: ob30 P :: ob31 P :: ob32 P :: ob33 P :: ob34 P :: ob35 P :: ob36 P :: ob37 P :: ob38 P :: ob39 P :: ob40 P :: ob41 P :: ob42 P :: ob43 P :: ob44 P :: ob45 P :: ob46 P :: ob47 P :: ob48 P :: ob49 P :: ob50 P :: ob51 P :: ob52 P :: ob53 P :: ob54 P :: ob55 P :: ob56 P :: ob57 P :: ob58 P :: ob59 P :: ob60 P :: ob61 P :: ob62 P :: ob63 P :: ob64 P :: ob65 P :: ob66 P :: ob67 P :: ob68 P :: ob69 P :: ob70 P :: ob71 P :: ob72 P :: ob73 P :: ob74 P :: ob75 P :: ob76 P :: ob77 P :: ob78 P :: ob79 P :: ob80 P :: ob81 P :: ob82 P :: ob83 P :: ob84 P :: ob85 P :: ob86 P :: ob87 P :: ob88 P :: ob89 P :: ob90 P :: ob91 P :: ob92 P :: ob93 P :: ob94 P :: ob95 P :: ob96 P :: ob97 P :: ob98 P :: ob99 P :: ob100 P :: ob101 P :: ob102 P :: ob103 P :: ob104 P :: ob105 P :: ob106 P :: ob107 P :: ob108 P :: ob109 P :: ob110 P :: ob111 P :: ob112 P :: ob113 P :: ob114 P :: ob115 P :: ob116 P :: ob117 P :: ob118 P :: ob119 P :: ob120 P :: ob121 P :: ob122 P :: ob123 P :: ob124 P :: ob125 P :: ob126 P :: ob127 P :: ob128 P :: ob129 P :: ob130 P :: ob131 P :: ob132 P :: ob133 P :: ob134 P :: ob135 P :: ob136 P :: ob137 P :: ob138 P :: ob139 P :: ob140 P :: ob141 P :: ob142 P :: ob143 P :: ob144 P :: ob145 P :: ob146 P :: ob147 P :: ob148 P :: ob149 P :: ob150 P :: ob151 P :: ob152 P :: ob153 P :: ob154 P :: ob155 P :: ob156 P :: ob157 P :: ob158 P :: ob159 P :: ob160 P :: ob161 P :: ob162 P :: ob163 P :: ob164 P :: ob165 P :: ob166 P :: ob167 P :: ob168 P :: ob169 P :: ob170 P :: ob171 P :: ob172 P :: ob173 P :: ob174 P :: ob175 P :: ob176 P :: ob177 P :: ob178 P :: ob179 P :: []), {}⟩
noncomputable def vw : Program := view PySem.Challenge.pw_uf060011_09 [1, 2, 3, 4, 5, 6, 8, 9, 10, 11, 12, 14, 15, 16, 17, 18, 19, 20, 21, 22, 23]
noncomputable def sE (w : World) (os : OsState) : Shared := ⟨HE w.params, Array.mk [], {}, 443, os⟩
theorem ka (P : Params) : KA = (KK P).map (·.1) := by kernel_rfl
noncomputable abbrev XT : Shared → Bool := fun s => xlAt vw [] s && recOk (RowW.records (OpenRow.toRowW PySem.Challenge.rw_uf060011_09.row)) s
theorem run1 (w : World) (os : OsState) : topRun treeTable PySem.Challenge.pw_uf060011_09 w 11 (some (.ref 6)) 3782 ⟨boot_heap w.params, Array.mk [], boot_drawn, boot_toks, os⟩ (topStub PySem.Challenge.pw_uf060011_09) = some (sE w os) := by
  revert w
  refine byRow2 "special-get-raises" (fun w => ?_) (fun w => ?_)
  · rw [PySem.W.Fast.te14082659384304107361, PySem.W.Fast.te14364793385576792824]
    kernel_rfl
  · rw [PySem.W.Fast.te14082659384304107361, PySem.W.Fast.te14364793385576792824]
    kernel_rfl
theorem look1 (w : World) (os : OsState) : (staticsOk (importedModules PySem.Challenge.pw_uf060011_09.main.body) (boot_heap w.params) (HE w.params) && namesBound PySem.Challenge.pw_uf060011_09 (HE w.params) && gensDone (sE w os) && laidKept (boot_heap w.params) (HE w.params)) = true := by
  kernel_rfl
theorem look2 (w : World) (os : OsState) : openSeen vw [Str.ofString "COUNTS"] (importedModules PySem.Challenge.pw_uf060011_09.main.body) XT true (sE w os) = openGood vw [Str.ofString "COUNTS"] := by
  rw [PySem.W.Fast.te4187177175401517315, PySem.W.Fast.te5923862056798008813]
  kernel_rfl
theorem look3 (w : World) (os : OsState) : (kHook KK KA ka).obs (sE w os) = (kHook KK KA ka).val w := by
  kernel_rfl
theorem left1 : LeftO PySem.Challenge.pw_uf060011_09 vw [Str.ofString "COUNTS"] XT (kHook KK KA ka).obs (kHook KK KA ka).val 3782 :=
  LeftO.of_pieces (boot_open (by kernel_rfl) (by decide) (fun _ => by kernel_rfl)) (fun _ => by kernel_rfl) run1 (by decide)
    fun w => funext fun os => congr (congrArg Prod.mk (look1 w os)) (congr (congrArg Prod.mk (look2 w os)) (look3 w os))
end Mine
open PySem PySem.W PyProof.Rows Mine
set_option maxRecDepth 100000 in
theorem Mine.ws : PySem.Challenge.rw_uf060011_09.wellSaid = true := by
  rw [PySem.W.Fast.te9446332074065402090]
  kernel_rfl
set_option maxRecDepth 100000 in
set_option maxHeartbeats 8000000 in
theorem PySem.Challenge.cw_uf060011_09_holds : PySem.Challenge.rw_uf060011_09.Holds := by
  w_on
  refine holds_law ws fun said => ?_
  refine holds_open (q := vw) (loose := [Str.ofString "COUNTS"]) (Xt := XT) (XP := XL vw []) (Yf := (kHook KK KA ka).obs) (Ya := (kHook KK KA ka).val) (YP := (kHook KK KA ka).says) (N := 3782) left1 (kHook KK KA ka).of (kHook KK KA ka).keeps (fun s e => xl_of s (Bool.and_eq_true_iff.mp e).1) XL.keeps (by rfl) (by rfl) (by rfl) (fun s e => recFacts_of (Bool.and_eq_true_iff.mp e).2) (by rfl) (by assumption) (by decide +kernel) ⟨rfl, rfl, rfl, rfl, rfl, by decide +kernel⟩ ?hw ?hc
  (case hw => w_witness2)
  clear said
  k_fill
  intro w s₀ s₁ mg mb G Y fa o pm cd doc dV kV ho hd hcd hD hmg hg args vals as hpre hlay hrd hwl hlo
  have KX := kIn_of Y
  have X := (Ground.X G).1
  have V := (Ground.X G).2
  refine Ground.open G ?_
  intro T B D TE TW
  try (refine guard_noD D (by decide +kernel) ?_; clear D)
  obtain ⟨_, _, M⟩ := bmod_of_top T
  have TA := at_of_top T
  try (obtain ⟨_, _, he, B0⟩ := based_of_top T rfl hmg ho hd; have he' : cd = _ := he; subst he'; clear he)
  clear hmg
  wrow_args hpre hlay hrd hwl hlo
  all_goals (
    first | refine callC_kw (enter_call ?_) | refine enter_call ?_ | refine callC_kw (enter_callW ?_) | refine enter_callW ?_ | w_how
    w_top on
    try refine codeAny_mono ?_ (fun _ _ g => GoodW.toG g)
    have K0 := below_caller (Top.heap T)
    w_call any ho hd hcd hD T F
    clear hd TA
    k_drop
    skip)
  rename_i w9 w8 w7 w6 ns hs hlay0 hL1 hr1 hl2 w4 w3 a vs w0 hL ra w1 r0 hI hr hc1 hc2 h₁ N0
  refine' law_readK (P := PP) (C := 0) (PRE := lawPre) (POST := lawPost) (e := .call "read" [.var 4]) (i := 8) (j := 9) KX ?LK ?NC ?NF rfl ?LF T w1 K0 F rfl rfl rfl ?run ?Q
  case LK =>
    refine' ⟨Lk.cst_of ?cst, Lk.fns_of ?fns, ?bi, Lk.dct_of ?dct⟩
    case bi =>
      unfold biNames
      repeat' (refine List.forall_mem_cons.mpr ⟨?_, ?_⟩)
      all_goals first
        | (intro _ h; cases h; done)
        | k_is
    case cst =>
      unfold PP
      dsimp only
      repeat' (refine List.forall_mem_cons.mpr ⟨?_, ?_⟩)
      all_goals first
        | (intro _ h; cases h; done)
        | (refine' cstOk_mk ?a1 ?a2
           case a1 => k_is
           case a2 => intro _; constructor)
    case fns =>
      unfold PP
      dsimp only
      repeat' (refine List.forall_mem_cons.mpr ⟨?_, ?_⟩)
      all_goals first
        | (intro _ h; cases h; done)
        | (refine' fnOk_mk ?a1 ?a2 ?a3 ?a4 ?a5 ?a6 ?a7 ?a8 ?a9 ?a10 ?a11
           case a1 => k_is
           case a2 => k_is
           case a3 => k_is
           case a4 => k_is
           case a5 => rfl
           case a6 => rfl
           case a7 => rfl
           case a8 => rfl
           case a9 => decide
           case a10 => rfl
           case a11 => rfl)
    case dct =>
      unfold PP
      dsimp only
      refine List.forall_mem_cons.mpr ⟨⟨88, ?d1, fun g X => tab_mk [(Str.ofString "add", 289, 3, 290), (Str.ofString "fill", 291, 3, 292), (Str.ofString "total", 293, 2, 294), (Str.ofString "least", 295, 2, 296), (Str.ofString "place", 297, 2, 298), (Str.ofString "first", 299, 2, 300), (Str.ofString "list", 301, 2, 302), (Str.ofString "back", 303, 0, 304)] (ep := 8) (by decide) (X _ _ ?d2) (by decide)⟩, ?d3⟩
      case d1 => k_is
      case d2 => k_is
      case d3 => intro _ h; cases h
  case NC =>
    refine' ⟨⟨?n1, ?n2, ?n3⟩, ?x1, ⟨?n4, ?n5, ?n6⟩, ?i1, ?i2, ⟨?z1, ?z2, ?z3, ?z4, ?z5, ?z6, ?z7, ?z8⟩, ?v, ?nv, ?e1, ?e2, ?e3, ?e4, ?no⟩
    case n1 => k_is
    case n2 => kernel_rfl
    case n3 => kernel_rfl
    case x1 => kernel_rfl
    case n4 => k_is
    case n5 => kernel_rfl
    case n6 => kernel_rfl
    case e1 => k_is
    case e2 => k_is
    case e3 => k_is
    case e4 => k_is
    case i1 => kernel_rfl
    case i2 => kernel_rfl
    case z1 => k_is
    case z2 => k_is
    case z3 => k_is
    case z4 => k_is
    case z5 => k_is
    case z6 => k_is
    case z7 => k_is
    case z8 => kernel_rfl
    case v => kernel_rfl
    case nv => k_is
    case no => kernel_rfl
  case NF =>
    refine' RaF.mk (fnT_mk ?f1 ?f2 ?f3 ?f4 ?f5 ?f6 ?f7 ?f8 ?f9 ?f10) ?hp ?hn ?h1 ?le ?se ?gB ?gI ?gV ?g1 ?g2 ?g3 ?g4
    case f1 => k_is
    case f2 => k_is
    case f3 => k_is
    case f4 => rfl
    case f5 => rfl
    case f6 => rfl
    case f7 => rfl
    case f8 => decide
    case f9 => rfl
    case f10 => rfl
    case hp => rfl
    case hn => rfl
    case h1 => rfl
    case le => rfl
    case se => rfl
    case gB => rfl
    case gI => rfl
    case gV => rfl
    case g1 => rfl
    case g2 => rfl
    case g3 => rfl
    case g4 => rfl
  case LF =>
    refine' LwF.mk (pre := List.take 15 (fnB (stAt 23))) (post := List.drop 16 (fnB (stAt 23))) ?b1 ?b2 ?b3 ?b4 ?b5 ?b6 ?b7
    case b1 => rfl
    case b2 => rfl
    case b3 => rfl
    case b4 => rfl
    case b5 => rfl
    case b6 => rfl
    case b7 => rfl
  case Q =>
    intro h' tk' m' F'
    refine goodW_bool F' hg (raisesW_false ?_) ?_
    · wrow_none_raised
    · wrow_post
  case run => exact run_09 ns (by omega)
