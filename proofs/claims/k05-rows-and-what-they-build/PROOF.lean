import PyProof.Rows.All
import HandS.ForMost
import HandS.ForExc
import HandS.Lambda
import HandS.Deep
import HandS.TupMul
import HandS.TupAny
import HandS.WideBits
import HandS.Wide
import HandS.Style
import HandS.SortInts
import HandS.IsInst
import HandS.ExcInit
import HandS.ExcField
import HandS.ExcIs
import HandS.SetFor
import HandS.Strs
import HandS.HeadHook4
import HandS.ExcCtx
import HandS.Hot
import HandS.HotCalls
import HandS.SuiteRaise
import KE.KExcIs
import HandS.Flow
import HandS.Conv
import KE.GoesMore
import HandS.HeadWalk
import KE.KStateDown
import Lean
import HandS.Ends
import HandS.More
import HandS.Words
import HandS.WordsExc
import HandS.Defaults
import HandS.Head0
import HandS.Head1
import HandS.Head2
import HandS.HeadEnd
import HandS.HeadHook1
import HandS.HeadHook2
import HandS.HeadHook3
import PySem.Challenge.RW_nosurer_k05_rows_and_what_they_build
set_option Elab.async false
set_option linter.all false
set_option maxRecDepth 100000
/-! EvA: a small evaluator over plain values for the Python that our laws use. Own work. -/
namespace Ev
open PySem PySem.Spec PyProof.Rows L2
open Classical
noncomputable section

/-- a plain value; ref: a mutable object by its number; frz: the script -/
inductive PV where
  | non | bl (b : Bool) | int (i : Int) | str (s : Str) | tup (xs : List PV) | ref (n : Nat) | frz (xs : List Int)
/-- a mutable object -/
inductive MO where
  | lst (xs : List PV)
  | dct (kvs : List (PV × PV))
abbrev Mu := List MO
/-- a value, or a list that nobody else holds -/
inductive Ag where
  | v (p : PV) | l (xs : List PV)
inductive Out (α : Type) where
  | ok (a : α) (μ : Mu) | exc (c : String) (w : PV) (μ : Mu) | bad
def Out.bind {α β : Type} : Out α → (α → Mu → Out β) → Out β
  | .ok a μ, f => f a μ
  | .exc c w μ, _ => .exc c w μ
  | .bad, _ => .bad
@[simp] theorem Out.bind_ok {α β : Type} (a : α) (μ : Mu) (f : α → Mu → Out β) : (Out.ok a μ).bind f = f a μ := rfl
@[simp] theorem Out.bind_exc {α β : Type} (c : String) (w : PV) (μ : Mu) (f : α → Mu → Out β) : (Out.exc c w μ).bind f = .exc c w μ := rfl
@[simp] theorem Out.bind_bad {α β : Type} (f : α → Mu → Out β) : (Out.bad : Out α).bind f = .bad := rfl
theorem Out.bind_assoc {α β γ : Type} (o : Out α) (f : α → Mu → Out β) (g : β → Mu → Out γ) : (o.bind f).bind g = o.bind fun a μ => (f a μ).bind g := by
  cases o <;> rfl
/-- none is bad -/
def lift {α : Type} (o : Option α) (μ : Mu) : Out α := match o with
  | some a => .ok a μ
  | none => .bad
@[simp] theorem lift_some {α : Type} (a : α) (μ : Mu) : lift (some a) μ = .ok a μ := rfl
@[simp] theorem lift_none {α : Type} (μ : Mu) : lift (none : Option α) μ = .bad := rfl
def liftM {α : Type} (o : Option (α × Mu)) : Out α := match o with
  | some (a, μ) => .ok a μ
  | none => .bad
@[simp] theorem liftM_some {α : Type} (a : α) (μ : Mu) : liftM (some (a, μ)) = .ok a μ := rfl
@[simp] theorem liftM_none {α : Type} : liftM (none : Option (α × Mu)) = .bad := rfl

/-! ### views -/
/-- a tracked list -/
def mview (μ : Mu) : Ag → Option (List PV)
  | .l xs => some xs
  | .v (.ref n) => (match μ[n]? with
    | some (.lst xs) => some xs
    | _ => none)
  | _ => none
/-- any list -/
def lview (μ : Mu) : Ag → Option (List PV)
  | .v (.frz ns) => some (ns.map .int)
  | a => mview μ a
def tview : Ag → Option (List PV)
  | .v (.tup xs) => some xs
  | _ => none
/-- any list or tuple -/
def sview (μ : Mu) (a : Ag) : Option (List PV) := match tview a with
  | some xs => some xs
  | none => lview μ a
/-- as data without references -/
def toD : PV → Option PyData
  | .non => some .none
  | .bl b => some (.bool b)
  | .int i => some (.int i)
  | .str s => some (.str s)
  | .tup xs => (toDs xs).map .tuple
  | .ref _ => none
  | .frz _ => none
where toDs : List PV → Option (List PyData)
  | [] => some []
  | x :: xs => match toD x, toDs xs with
    | some d, some ds => some (d :: ds)
    | _, _ => none
def toDA (μ : Mu) (a : Ag) : Option PyData := match lview μ a with
  | some xs => (toD.toDs xs).map .list
  | none => (match a with
    | .v p => toD p
    | .l _ => none)
/-- told by the lengths alone: lists of unlike lengths, tuples of which one is empty -/
def eqLen (μ : Mu) (a b : Ag) : Option Bool := match tview a, tview b with
  | some xs, some ys => if xs = [] ∨ ys = [] then some (decide (xs.length = ys.length)) else none
  | none, none => (match lview μ a, lview μ b with
    | some xs, some ys => if xs.length = ys.length then none else some false
    | _, _ => none)
  | _, _ => none
def eqDt (μ : Mu) (a b : Ag) : Option Bool := match toDA μ a, toDA μ b with
  | some d, some e => if SeqAt.shaped d = true ∧ SeqAt.shaped e = true then some (PyData.eqv d e) else none
  | _, _ => none
def eqA (μ : Mu) (a b : Ag) : Option Bool := match eqLen μ a b with
  | some z => some z
  | none => eqDt μ a b
def flatP : PV → Bool
  | .non | .bl _ | .int _ | .str _ => true
  | _ => false
/-- x in a list or tuple: flat items anywhere; in a list, data of any depth -/
def inA (μ : Mu) (a b : Ag) : Option Bool := match a with
  | .l _ => none
  | .v x => match sview μ b with
    | none => none
    | some ys => if flatP x = true ∧ ys.all flatP = true then (match toD x, toD.toDs ys with
        | some d, some ds => some (ds.any fun z => PyData.eqv z d)
        | _, _ => none)
      else match tview b, toD x, toD.toDs ys with
        | none, some d, some ds => if SeqAt.shaped d = true ∧ SeqAt.shaped (.list ds) = true then some (ds.any fun z => PyData.eqv z d) else none
        | _, _, _ => none
def truA (μ : Mu) : Ag → Option Bool
  | .v .non => some false
  | .v (.bl b) => some b
  | .v (.int i) => some (i != 0)
  | .v (.str s) => if s.length ≤ sizeLine then some ((s.length : Int) != 0) else none
  | .v (.tup xs) => some (!xs.isEmpty)
  | a => (mview μ a).map fun xs => !xs.isEmpty
/-! ### operators -/
inductive Op2 where | add | sub | mul | fdiv | mod | pow | shl | shr | band | bor | bxor
inductive Cm where | eq | ne | lt | le | gt | ge | in_ | nin
inductive Ty where | int | bool | str | tuple | list
def intOf : Ag → Option Int
  | .v (.int i) => some i
  | _ => none
def addA (μ : Mu) (a b : Ag) : Option Ag := match a, b with
  | .v (.int i), .v (.int j) => some (.v (.int (i + j)))
  | .v (.str s), .v (.str t) => if s.length + t.length ≤ sizeLine then some (.v (.str (s ++ t))) else none
  | .v (.tup xs), .v (.tup ys) => if xs.length + ys.length ≤ sizeLine then some (.v (.tup (xs ++ ys))) else none
  | a, b => match mview μ a, mview μ b with
    | some xs, some ys => if xs.length + ys.length ≤ sizeLine then some (.l (xs ++ ys)) else none
    | _, _ => none
/-- a place or a count that the machine can hold (no instance computes it) -/
def Sm (i : Int) : Prop := -(2 ^ 62) ≤ i ∧ i < 2 ^ 62
@[simp] theorem Sm_of (i : Int) (h : -1000000 ≤ i) (h' : i ≤ 1000000) : Sm i = True := eq_true ⟨by omega, by omega⟩
theorem Sm.w {i : Int} (h : Sm i) : -(2 ^ 63) ≤ i ∧ i < 2 ^ 63 := by
  obtain ⟨h1, h2⟩ := h
  omega
theorem Sm.nat {k : Nat} (h : k < 2 ^ 60) : Sm (k : Int) := ⟨by omega, by omega⟩
def mulA (μ : Mu) (a b : Ag) : Option Ag := match a, b with
  | .v (.int i), .v (.int j) => if CMulX i j then some (.v (.int (i * j))) else none
  | .v (.tup xs), .v (.int k) => if xs ≠ [] ∧ 2 ≤ k ∧ k ≤ 1000 ∧ xs.length ≤ 1000 then some (.v (.tup (List.replicate k.toNat xs).flatten)) else none
  | a, .v (.int k) => match mview μ a with
    | some xs => if Sm k ∧ xs.length * k.toNat ≤ sizeLine then some (.l (List.replicate k.toNat xs).flatten) else none
    | none => none
  | _, _ => none
def intOp (f : Int → Int → Option Int) (a b : Ag) : Option Ag := match intOf a, intOf b with
  | some i, some j => (f i j).map fun k => .v (.int k)
  | _, _ => none
def op2 (o : Op2) (a b : Ag) (μ : Mu) : Option Ag := match o with
  | .add => addA μ a b
  | .mul => mulA μ a b
  | .sub => intOp (fun i j => some (i - j)) a b
  | .fdiv => intOp (fun i j => if CDivW i j then some (i / j) else none) a b
  | .mod => intOp (fun i j => if 0 < j then some (i % j) else none) a b
  | .pow => intOp (fun i j => if CPow i j then some (i ^ j.toNat) else none) a b
  | .shl => intOp (fun i j => if CShl i j then some (i * 2 ^ j.toNat) else none) a b
  | .shr => intOp (fun i j => if 0 ≤ j then some (i / 2 ^ j.toNat) else none) a b
  | .band => intOp (fun i j => some (Builtin.bitAnd i j)) a b
  | .bor => intOp (fun i j => some (Builtin.bitOr i j)) a b
  | .bxor => intOp (fun i j => some (Builtin.bitXor i j)) a b
def intCm (f : Int → Int → Bool) (a b : Ag) : Option Bool := match intOf a, intOf b with
  | some i, some j => some (f i j)
  | _, _ => none
def cmA (o : Cm) (a b : Ag) (μ : Mu) : Option Bool := match o with
  | .eq => eqA μ a b
  | .ne => (eqA μ a b).map (!·)
  | .lt => intCm (fun i j => decide (i < j)) a b
  | .le => intCm (fun i j => decide (i ≤ j)) a b
  | .gt => intCm (fun i j => decide (j < i)) a b
  | .ge => intCm (fun i j => decide (j ≤ i)) a b
  | .in_ => inA μ a b
  | .nin => (inA μ a b).map (!·)
def ixA (μ : Mu) (a b : Ag) : Option Ag := match b with
  | .v (.int i) => (match a with
    | .v (.str z) => if z.length ≤ sizeLine then (atI z.cps.toList i).map fun c => .v (.str ⟨#[c]⟩) else none
    | a => match sview μ a with
      | some xs => (atI xs i).map .v
      | none => none)
  | _ => none
def cutP (xs : List PV) (lo hi : Option Int) : List PV := (xs.drop (HT.sIx xs.length 0 lo)).take (HT.sIx xs.length xs.length hi - HT.sIx xs.length 0 lo)
def sliceA (μ : Mu) (a : Ag) (lo hi : Option Int) : Option Ag := match tview a with
  | some xs => some (.v (.tup (cutP xs lo hi)))
  | none => match lview μ a with
    | some xs => some (.l (cutP xs lo hi))
    | none => none
def isA (μ : Mu) (t : Ty) : Ag → Option Bool
  | .v .non => some false
  | .v (.bl _) => some (match t with | .int | .bool => true | _ => false)
  | .v (.int _) => some (match t with | .int => true | _ => false)
  | .v (.str _) => some (match t with | .str => true | _ => false)
  | .v (.tup _) => some (match t with | .tuple => true | _ => false)
  | a => match lview μ a with
    | some _ => some (match t with | .list => true | _ => false)
    | none => none
/-! ### built-ins and methods -/
inductive Bi where | len | int | max2 | min2 | tuple | list | abs
inductive Mt where | extend | pop0 | pop1
def biA (f : Bi) (as : List Ag) (μ : Mu) : Option Ag := match f, as with
  | .len, [a] => (match a with
    | .v (.str z) => if z.length ≤ sizeLine then some (.v (.int z.length)) else none
    | a => (sview μ a).map fun xs => .v (.int xs.length))
  | .int, [.v (.int i)] => some (.v (.int i))
  | .int, [.v (.bl b)] => some (.v (.int (if b then 1 else 0)))
  | .max2, [.v (.int i), .v (.int j)] => some (.v (.int (if j > i then j else i)))
  | .min2, [.v (.int i), .v (.int j)] => some (.v (.int (if j < i then j else i)))
  | .abs, [.v (.int i)] => some (.v (.int (if i < 0 then -i else i)))
  | .tuple, [a] => (sview μ a).map fun xs => .v (.tup xs)
  | .list, [a] => (sview μ a).map .l
  | _, _ => none
def mtA (m : Mt) (o : Ag) (as : List Ag) (μ : Mu) : Option (Ag × Mu) := match o with
  | .v (.ref n) => (match μ[n]? with
    | some (.lst xs) => (match m, as with
      | .extend, [b] => (match mview μ b with
        | some ys => if xs.length + ys.length ≤ sizeLine then some (.v .non, μ.set n (.lst (xs ++ ys))) else none
        | none => none)
      | .pop0, [] => (match xs[xs.length - 1]? with
        | some y => some (.v y, μ.set n (.lst xs.dropLast))
        | none => none)
      | .pop1, [.v (.int i)] => if Sm i then (match seqIndex? i xs.length with
        | some k => (match xs[k]? with
          | some y => some (.v y, μ.set n (.lst (xs.eraseIdx k)))
          | none => none)
        | none => none) else none
      | _, _ => none)
    | _ => none)
  | _ => none
def appA (o : Ag) (y : PV) (μ : Mu) : Option (Ag × Mu) := match o with
  | .v (.ref n) => (match μ[n]? with
    | some (.lst xs) => if xs.length < sizeLine then some (.v .non, μ.set n (.lst (xs ++ [y]))) else none
    | _ => none)
  | _ => none
/-! ### what they give, case by case -/
section
variable (μ : Mu)
@[simp] theorem intOf_int (i : Int) : intOf (.v (.int i)) = some i := rfl
@[simp] theorem mview_l (xs : List PV) : mview μ (.l xs) = some xs := rfl
@[simp] theorem mview_ref (n : Nat) : mview μ (.v (.ref n)) = (match μ[n]? with | some (.lst xs) => some xs | _ => none) := rfl
@[simp] theorem mview_tup (xs : List PV) : mview μ (.v (.tup xs)) = none := rfl
@[simp] theorem mview_int (i : Int) : mview μ (.v (.int i)) = none := rfl
@[simp] theorem mview_str (i : Str) : mview μ (.v (.str i)) = none := rfl
@[simp] theorem mview_bl (i : Bool) : mview μ (.v (.bl i)) = none := rfl
@[simp] theorem mview_non : mview μ (.v .non) = none := rfl
@[simp] theorem mview_frz (i : List Int) : mview μ (.v (.frz i)) = none := rfl
@[simp] theorem lview_frz (i : List Int) : lview μ (.v (.frz i)) = some (i.map .int) := rfl
@[simp] theorem lview_l (xs : List PV) : lview μ (.l xs) = some xs := rfl
@[simp] theorem lview_ref (n : Nat) : lview μ (.v (.ref n)) = mview μ (.v (.ref n)) := rfl
@[simp] theorem lview_tup (xs : List PV) : lview μ (.v (.tup xs)) = none := rfl
@[simp] theorem lview_int (i : Int) : lview μ (.v (.int i)) = none := rfl
@[simp] theorem lview_str (i : Str) : lview μ (.v (.str i)) = none := rfl
@[simp] theorem lview_bl (i : Bool) : lview μ (.v (.bl i)) = none := rfl
@[simp] theorem lview_non : lview μ (.v .non) = none := rfl
@[simp] theorem tview_tup (xs : List PV) : tview (.v (.tup xs)) = some xs := rfl
@[simp] theorem tview_l (xs : List PV) : tview (.l xs) = none := rfl
@[simp] theorem tview_ref (n : Nat) : tview (.v (.ref n)) = none := rfl
@[simp] theorem tview_frz (n : List Int) : tview (.v (.frz n)) = none := rfl
@[simp] theorem sview_tup (xs : List PV) : sview μ (.v (.tup xs)) = some xs := rfl
@[simp] theorem sview_l (xs : List PV) : sview μ (.l xs) = some xs := rfl
@[simp] theorem sview_frz (xs : List Int) : sview μ (.v (.frz xs)) = some (xs.map .int) := rfl
@[simp] theorem sview_ref (n : Nat) : sview μ (.v (.ref n)) = mview μ (.v (.ref n)) := rfl
@[simp] theorem toD_non : toD .non = some .none := by simp [toD]
@[simp] theorem toD_bl (b : Bool) : toD (.bl b) = some (.bool b) := by simp [toD]
@[simp] theorem toD_int (b : Int) : toD (.int b) = some (.int b) := by simp [toD]
@[simp] theorem toD_str (b : Str) : toD (.str b) = some (.str b) := by simp [toD]
@[simp] theorem toD_tup (xs : List PV) : toD (.tup xs) = (toD.toDs xs).map .tuple := by simp [toD]
@[simp] theorem toDs_nil : toD.toDs [] = some [] := by simp [toD.toDs]
@[simp] theorem toDs_cons (x : PV) (xs : List PV) : toD.toDs (x :: xs) = (match toD x, toD.toDs xs with | some d, some ds => some (d :: ds) | _, _ => none) := by simp [toD.toDs]
@[simp] theorem op2_add (a b : Ag) : op2 .add a b μ = addA μ a b := rfl
@[simp] theorem op2_mul (a b : Ag) : op2 .mul a b μ = mulA μ a b := rfl
@[simp] theorem add_int_ (i j : Int) : addA μ (.v (.int i)) (.v (.int j)) = some (.v (.int (i + j))) := rfl
@[simp] theorem add_str_ (i j : Str) : addA μ (.v (.str i)) (.v (.str j)) = if i.length + j.length ≤ sizeLine then some (.v (.str (i ++ j))) else none := rfl
@[simp] theorem add_tup_ (i j : List PV) : addA μ (.v (.tup i)) (.v (.tup j)) = if i.length + j.length ≤ sizeLine then some (.v (.tup (i ++ j))) else none := rfl
theorem add_lst_ {a b : Ag} {xs ys : List PV} (ha : mview μ a = some xs) (hb : mview μ b = some ys) : addA μ a b = if xs.length + ys.length ≤ sizeLine then some (.l (xs ++ ys)) else none := by
  unfold addA
  split
  · simp at ha
  · simp at ha
  · simp at ha
  · simp only [ha, hb]
@[simp] theorem add_l_l (xs ys : List PV) : addA μ (.l xs) (.l ys) = if xs.length + ys.length ≤ sizeLine then some (.l (xs ++ ys)) else none := add_lst_ μ rfl rfl
@[simp] theorem op2_sub (i j : Int) : op2 .sub (.v (.int i)) (.v (.int j)) μ = some (.v (.int (i - j))) := rfl
@[simp] theorem mul_int_ (i j : Int) : mulA μ (.v (.int i)) (.v (.int j)) = if CMulX i j then some (.v (.int (i * j))) else none := rfl
@[simp] theorem mul_tup_ (xs : List PV) (k : Int) : mulA μ (.v (.tup xs)) (.v (.int k)) = if xs ≠ [] ∧ 2 ≤ k ∧ k ≤ 1000 ∧ xs.length ≤ 1000 then some (.v (.tup (List.replicate k.toNat xs).flatten)) else none := rfl
@[simp] theorem mul_l_ (xs : List PV) (k : Int) : mulA μ (.l xs) (.v (.int k)) = if Sm k ∧ xs.length * k.toNat ≤ sizeLine then some (.l (List.replicate k.toNat xs).flatten) else none := rfl
@[simp] theorem op2_fdiv (i j : Int) : op2 .fdiv (.v (.int i)) (.v (.int j)) μ = if CDivW i j then some (.v (.int (i / j))) else none := by
  show ((if CDivW i j then some (i / j) else none).map fun k => Ag.v (PV.int k)) = _
  split <;> rfl
@[simp] theorem op2_mod (i j : Int) : op2 .mod (.v (.int i)) (.v (.int j)) μ = if 0 < j then some (.v (.int (i % j))) else none := by
  show ((if 0 < j then some (i % j) else none).map fun k => Ag.v (PV.int k)) = _
  split <;> rfl
@[simp] theorem op2_pow (i j : Int) : op2 .pow (.v (.int i)) (.v (.int j)) μ = if CPow i j then some (.v (.int (i ^ j.toNat))) else none := by
  show ((if CPow i j then some (i ^ j.toNat) else none).map fun k => Ag.v (PV.int k)) = _
  split <;> rfl
@[simp] theorem op2_shl (i j : Int) : op2 .shl (.v (.int i)) (.v (.int j)) μ = if CShl i j then some (.v (.int (i * 2 ^ j.toNat))) else none := by
  show ((if CShl i j then some (i * 2 ^ j.toNat) else none).map fun k => Ag.v (PV.int k)) = _
  split <;> rfl
@[simp] theorem op2_shr (i j : Int) : op2 .shr (.v (.int i)) (.v (.int j)) μ = if 0 ≤ j then some (.v (.int (i / 2 ^ j.toNat))) else none := by
  show ((if 0 ≤ j then some (i / 2 ^ j.toNat) else none).map fun k => Ag.v (PV.int k)) = _
  split <;> rfl
@[simp] theorem op2_band (i j : Int) : op2 .band (.v (.int i)) (.v (.int j)) μ = some (.v (.int (Builtin.bitAnd i j))) := rfl
@[simp] theorem op2_bor (i j : Int) : op2 .bor (.v (.int i)) (.v (.int j)) μ = some (.v (.int (Builtin.bitOr i j))) := rfl
@[simp] theorem op2_bxor (i j : Int) : op2 .bxor (.v (.int i)) (.v (.int j)) μ = some (.v (.int (Builtin.bitXor i j))) := rfl
@[simp] theorem cmA_eq (a b : Ag) : cmA .eq a b μ = eqA μ a b := rfl
@[simp] theorem cmA_ne (a b : Ag) : cmA .ne a b μ = (eqA μ a b).map (!·) := rfl
@[simp] theorem cmA_in (a b : Ag) : cmA .in_ a b μ = inA μ a b := rfl
@[simp] theorem cmA_nin (a b : Ag) : cmA .nin a b μ = (inA μ a b).map (!·) := rfl
@[simp] theorem cmA_lt (i j : Int) : cmA .lt (.v (.int i)) (.v (.int j)) μ = some (decide (i < j)) := rfl
@[simp] theorem cmA_le (i j : Int) : cmA .le (.v (.int i)) (.v (.int j)) μ = some (decide (i ≤ j)) := rfl
@[simp] theorem cmA_gt (i j : Int) : cmA .gt (.v (.int i)) (.v (.int j)) μ = some (decide (j < i)) := rfl
@[simp] theorem cmA_ge (i j : Int) : cmA .ge (.v (.int i)) (.v (.int j)) μ = some (decide (j ≤ i)) := rfl
theorem eqA_list {a b : Ag} {xs ys : List PV} (ta : tview a = none) (tb : tview b = none) (ha : lview μ a = some xs) (hb : lview μ b = some ys) (h : xs.length ≠ ys.length) : eqA μ a b = some false := by
  simp only [eqA, eqLen, ta, tb, ha, hb, if_neg h]
@[simp] theorem eqA_int (i j : Int) : eqA μ (.v (.int i)) (.v (.int j)) = some (decide (i = j)) := by
  have e1 : eqA μ (.v (.int i)) (.v (.int j)) = eqDt μ (.v (.int i)) (.v (.int j)) := rfl
  have e2 : eqDt μ (.v (.int i)) (.v (.int j)) = (if SeqAt.shaped (.int i) = true ∧ SeqAt.shaped (.int j) = true then some (PyData.eqv (.int i) (.int j)) else none) := by
    simp [eqDt, toDA, toD]
  rw [e1, e2, if_pos ⟨rfl, rfl⟩]
  simp only [PyData.eqv]
  congr 1
@[simp] theorem eqA_str (i j : Str) : eqA μ (.v (.str i)) (.v (.str j)) = if PyData.strOk i = true ∧ PyData.strOk j = true then some (i == j) else none := by
  have e1 : eqA μ (.v (.str i)) (.v (.str j)) = eqDt μ (.v (.str i)) (.v (.str j)) := rfl
  have e2 : eqDt μ (.v (.str i)) (.v (.str j)) = (if SeqAt.shaped (.str i) = true ∧ SeqAt.shaped (.str j) = true then some (PyData.eqv (.str i) (.str j)) else none) := by
    simp [eqDt, toDA, toD]
  have e3 : ∀ x : Str, SeqAt.shaped (.str x) = PyData.strOk x := fun x => by
    have h : (PyData.str x).depth ≤ 64 := by simp [PyData.depth]
    simp [SeqAt.shaped, PyData.canLay0, h]
  rw [e1, e2, e3, e3]
  simp only [PyData.eqv]
@[simp] theorem eqA_bl (i j : Bool) : eqA μ (.v (.bl i)) (.v (.bl j)) = some (i == j) := by
  have e1 : eqA μ (.v (.bl i)) (.v (.bl j)) = eqDt μ (.v (.bl i)) (.v (.bl j)) := rfl
  have e2 : eqDt μ (.v (.bl i)) (.v (.bl j)) = (if SeqAt.shaped (.bool i) = true ∧ SeqAt.shaped (.bool j) = true then some (PyData.eqv (.bool i) (.bool j)) else none) := by
    simp [eqDt, toDA, toD]
  rw [e1, e2, if_pos ⟨rfl, rfl⟩]
  cases i <;> cases j <;> rfl
@[simp] theorem eqA_tup_nil (xs : List PV) : eqA μ (.v (.tup xs)) (.v (.tup [])) = some xs.isEmpty := by
  simp only [eqA, eqLen, tview]
  cases xs <;> simp
theorem eqA_nil {a : Ag} {xs : List PV} (ha : mview μ a = some xs) : eqA μ a (.l []) = some xs.isEmpty := by
  have ta : tview a = none := by
    cases a with
    | l _ => rfl
    | v p => cases p <;> first | rfl | simp at ha
  have hl : lview μ a = some xs := by
    cases a with
    | l _ => exact ha
    | v p => cases p <;> first | exact ha | simp at ha
  cases xs with
  | cons x xs => exact eqA_list μ ta rfl hl rfl (by simp)
  | nil =>
    have hq : eqLen μ a (.l []) = none := by
      have h1 : lview μ (.l []) = some [] := rfl
      have h2 : tview (.l []) = none := rfl
      simp only [eqLen, ta, h2, hl, h1, if_pos]
    have e : toDA μ a = some (.list []) := by
      simp only [toDA, hl]
      simp
    have e' : toDA μ (.l []) = some (.list []) := by
      have h1 : lview μ (.l []) = some [] := rfl
      simp only [toDA, h1]
      simp
    have e3 : eqDt μ a (.l []) = if SeqAt.shaped (.list []) = true ∧ SeqAt.shaped (.list []) = true then some (PyData.eqv (.list []) (.list [])) else none := by
      simp only [eqDt, e, e']
    simp only [eqA, hq]
    rw [e3, if_pos ⟨rfl, rfl⟩]
    rfl
@[simp] theorem eqA_l_nil (xs : List PV) : eqA μ (.l xs) (.l []) = some xs.isEmpty := eqA_nil μ rfl
@[simp] theorem truA_non : truA μ (.v .non) = some false := rfl
@[simp] theorem truA_bl (b : Bool) : truA μ (.v (.bl b)) = some b := rfl
@[simp] theorem truA_int (b : Int) : truA μ (.v (.int b)) = some (b != 0) := rfl
@[simp] theorem truA_str (b : Str) : truA μ (.v (.str b)) = if b.length ≤ sizeLine then some ((b.length : Int) != 0) else none := rfl
@[simp] theorem truA_tup (b : List PV) : truA μ (.v (.tup b)) = some (!b.isEmpty) := rfl
@[simp] theorem truA_l (b : List PV) : truA μ (.l b) = some (!b.isEmpty) := rfl
@[simp] theorem isA_non (t : Ty) : isA μ t (.v .non) = some false := rfl
@[simp] theorem isA_bl (t : Ty) (b : Bool) : isA μ t (.v (.bl b)) = some (match t with | .int | .bool => true | _ => false) := rfl
@[simp] theorem isA_int (t : Ty) (b : Int) : isA μ t (.v (.int b)) = some (match t with | .int => true | _ => false) := rfl
@[simp] theorem isA_str (t : Ty) (b : Str) : isA μ t (.v (.str b)) = some (match t with | .str => true | _ => false) := rfl
@[simp] theorem isA_tup (t : Ty) (b : List PV) : isA μ t (.v (.tup b)) = some (match t with | .tuple => true | _ => false) := rfl
@[simp] theorem isA_frz (t : Ty) (b : List Int) : isA μ t (.v (.frz b)) = some (match t with | .list => true | _ => false) := rfl
@[simp] theorem isA_l (t : Ty) (b : List PV) : isA μ t (.l b) = some (match t with | .list => true | _ => false) := rfl
@[simp] theorem isA_ref (t : Ty) (n : Nat) : isA μ t (.v (.ref n)) = (match mview μ (.v (.ref n)) with | some _ => some (match t with | .list => true | _ => false) | none => none) := rfl
@[simp] theorem ixA_tup (xs : List PV) (i : Int) : ixA μ (.v (.tup xs)) (.v (.int i)) = (atI xs i).map .v := rfl
@[simp] theorem ixA_l (xs : List PV) (i : Int) : ixA μ (.l xs) (.v (.int i)) = (atI xs i).map .v := rfl
@[simp] theorem ixA_frz (xs : List Int) (i : Int) : ixA μ (.v (.frz xs)) (.v (.int i)) = (atI (xs.map .int) i).map .v := rfl
@[simp] theorem ixA_ref (n : Nat) (i : Int) : ixA μ (.v (.ref n)) (.v (.int i)) = (match mview μ (.v (.ref n)) with | some xs => (atI xs i).map .v | none => none) := rfl
@[simp] theorem sliceA_tup (xs : List PV) (lo hi : Option Int) : sliceA μ (.v (.tup xs)) lo hi = some (.v (.tup (cutP xs lo hi))) := rfl
@[simp] theorem sliceA_l (xs : List PV) (lo hi : Option Int) : sliceA μ (.l xs) lo hi = some (.l (cutP xs lo hi)) := rfl
@[simp] theorem sliceA_ref (n : Nat) (lo hi : Option Int) : sliceA μ (.v (.ref n)) lo hi = (match mview μ (.v (.ref n)) with | some xs => some (.l (cutP xs lo hi)) | none => none) := rfl
@[simp] theorem biA_len_tup (xs : List PV) : biA .len [.v (.tup xs)] μ = some (.v (.int xs.length)) := rfl
@[simp] theorem biA_len_l (xs : List PV) : biA .len [.l xs] μ = some (.v (.int xs.length)) := rfl
@[simp] theorem biA_len_frz (xs : List Int) : biA .len [.v (.frz xs)] μ = some (.v (.int (xs.map PV.int).length)) := rfl
@[simp] theorem biA_len_str (z : Str) : biA .len [.v (.str z)] μ = if z.length ≤ sizeLine then some (.v (.int z.length)) else none := rfl
@[simp] theorem biA_len_ref (n : Nat) : biA .len [.v (.ref n)] μ = (mview μ (.v (.ref n))).map fun xs => .v (.int xs.length) := rfl
@[simp] theorem biA_int (i : Int) : biA .int [.v (.int i)] μ = some (.v (.int i)) := rfl
@[simp] theorem biA_int_bl (i : Bool) : biA .int [.v (.bl i)] μ = some (.v (.int (if i then 1 else 0))) := rfl
@[simp] theorem biA_max2 (i j : Int) : biA .max2 [.v (.int i), .v (.int j)] μ = some (.v (.int (if j > i then j else i))) := rfl
@[simp] theorem biA_min2 (i j : Int) : biA .min2 [.v (.int i), .v (.int j)] μ = some (.v (.int (if j < i then j else i))) := rfl
@[simp] theorem biA_abs (i : Int) : biA .abs [.v (.int i)] μ = some (.v (.int (if i < 0 then -i else i))) := rfl
@[simp] theorem biA_tuple (a : Ag) : biA .tuple [a] μ = (sview μ a).map fun xs => .v (.tup xs) := rfl
@[simp] theorem biA_list (a : Ag) : biA .list [a] μ = (sview μ a).map .l := rfl
@[simp] theorem appA_ref (n : Nat) (y : PV) : appA (.v (.ref n)) y μ = (match μ[n]? with | some (.lst xs) => if xs.length < sizeLine then some (.v .non, μ.set n (.lst (xs ++ [y]))) else none | _ => none) := rfl
@[simp] theorem atI_zero {α : Type} (x : α) (xs : List α) : atI (x :: xs) 0 = some x := by
  simpa using atI_nat (xs := x :: xs) (j := 0) (v := x) rfl
@[simp] theorem atI_one {α : Type} (x y : α) (xs : List α) : atI (x :: y :: xs) 1 = some y := by
  simpa using atI_nat (xs := x :: y :: xs) (j := 1) (v := y) rfl
@[simp] theorem atI_two {α : Type} (x y z : α) (xs : List α) : atI (x :: y :: z :: xs) 2 = some z := by
  simpa using atI_nat (xs := x :: y :: z :: xs) (j := 2) (v := z) rfl
end
/-- the receiver of a method: an object -/
def rcvB : Ag → Bool
  | .v (.ref _) => true
  | _ => false
@[simp] theorem rcvB_ref (n : Nat) : rcvB (.v (.ref n)) = true := rfl
/-! ### the terms -/
inductive Tg where
  | nm (i : Nat) | nil | cons (t ts : Tg) | tup (ts : Tg)
inductive X where
  | nil | cons (e es : X)
  | var (i : Nat) | non | bl (b : Bool) | int (i : Int) | str (s : Str)
  | glo (x : String)
  | tup (es : X) | lst (es : X)
  | bin (o : Op2) (a b : X) | neg (a : X)
  | not (a : X) | and (a b : X) | or (a b : X) | ite (c a b : X)
  | cmp (o : Cm) (a b : X) | chain (o o' : Cm) (a b c : X)
  | isN (a : X) | notN (a : X)
  | ix (a b : X) | slice (a lo hi : X)
  | call (f : String) (es : X)
  | bi (f : Bi) (es : X) | conv (t : Bool) (a : X)
  | isi (a : X) (t : Ty)
  | mt (m : Mt) (o es : X) | app (o e : X)
  | comp (tg : Tg) (it cond elt : X)
  | rng (es : X) | enum (a : X) | zip (a b : X)
  | sortSet (a : X)
  | rev (a : X) | sortL (a : X)
  | heard (g : String) (body : X)
abbrev Sg := List (Option PV)
/-- what an iterable gives: the items, the live lists that must stay -/
abbrev Its := List PV × List Nat
/-- a term's readings: as a value, as a test, as a list of values (each held), as arguments, as an iterable -/
structure Sem where
  a : Sg → Mu → Out Ag
  t : Sg → Mu → Out Bool
  s : Sg → Mu → Out (List PV)
  g : Sg → Mu → Out (List Ag)
  i : Sg → Mu → Out Its
/-- hold a value: a new list is laid -/
def force (a : Ag) (μ : Mu) : Out PV := match a with
  | .v p => .ok p μ
  | .l xs => .ok (.ref μ.length) (μ ++ [.lst xs])
@[simp] theorem force_v (p : PV) (μ : Mu) : force (.v p) μ = .ok p μ := rfl
@[simp] theorem force_l (xs : List PV) (μ : Mu) : force (.l xs) μ = .ok (.ref μ.length) (μ ++ [.lst xs]) := rfl
def Sem.f (d : Sem) (σ : Sg) (μ : Mu) : Out PV := (d.a σ μ).bind force
@[simp] theorem Sem.f_eq (d : Sem) (σ : Sg) (μ : Mu) : d.f σ μ = (d.a σ μ).bind force := rfl
def wipeP (σ : Sg) : List Nat → Sg
  | [] => σ
  | v :: vs => (wipeP σ vs).set v none
@[simp] theorem wipeP_nil (σ : Sg) : wipeP σ [] = σ := rfl
@[simp] theorem wipeP_cons (σ : Sg) (v : Nat) (vs : List Nat) : wipeP σ (v :: vs) = (wipeP σ vs).set v none := rfl
def Tg.slots : Tg → List Nat
  | .nm i => [i]
  | .nil => []
  | .cons t ts => t.slots ++ ts.slots
  | .tup ts => ts.slots
@[simp] theorem Tg.slots_nm (i : Nat) : (Tg.nm i).slots = [i] := rfl
@[simp] theorem Tg.slots_nil : Tg.nil.slots = [] := rfl
@[simp] theorem Tg.slots_cons (t ts : Tg) : (Tg.cons t ts).slots = t.slots ++ ts.slots := rfl
@[simp] theorem Tg.slots_tup (ts : Tg) : (Tg.tup ts).slots = ts.slots := rfl
def Tg.len : Tg → Nat
  | .cons _ ts => ts.len + 1
  | _ => 0
@[simp] theorem Tg.len_cons (t ts : Tg) : (Tg.cons t ts).len = ts.len + 1 := rfl
@[simp] theorem Tg.len_nil : Tg.nil.len = 0 := rfl
/-- store a value; puts: a list of values (for cons, nil) -/
def Tg.put : Tg → PV → Sg → Option Sg
  | .nm i, p, σ => if i < σ.length then some (σ.set i (some p)) else none
  | .tup ts, .tup xs, σ => if xs.length = ts.len then Tg.put.puts ts xs σ else none
  | _, _, _ => none
where puts : Tg → List PV → Sg → Option Sg
  | .nil, [], σ => some σ
  | .cons t ts, x :: xs, σ => (Tg.put t x σ).bind fun σ' => Tg.put.puts ts xs σ'
  | _, _, _ => none
@[simp] theorem put_nm (i : Nat) (p : PV) (σ : Sg) : (Tg.nm i).put p σ = if i < σ.length then some (σ.set i (some p)) else none := by
  simp [Tg.put]
@[simp] theorem put_tup (ts : Tg) (xs : List PV) (σ : Sg) : (Tg.tup ts).put (.tup xs) σ = if xs.length = ts.len then Tg.put.puts ts xs σ else none := by
  simp [Tg.put]
@[simp] theorem puts_nil (σ : Sg) : Tg.put.puts .nil [] σ = some σ := by
  simp [Tg.put.puts]
@[simp] theorem puts_cons (t ts : Tg) (x : PV) (xs : List PV) (σ : Sg) : Tg.put.puts (.cons t ts) (x :: xs) σ = (Tg.put t x σ).bind fun σ' => Tg.put.puts ts xs σ' := by
  simp [Tg.put.puts]
def stay (μ0 μ : Mu) (ns : List Nat) : Prop := ∀ n ∈ ns, μ[n]? = μ0[n]?
@[simp] theorem stay_nil (μ0 μ : Mu) : stay μ0 μ [] := fun _ h => nomatch h
@[simp] theorem stay_self (μ : Mu) (ns : List Nat) : stay μ μ ns := fun _ _ => rfl
theorem stay_cons (μ0 μ : Mu) (n : Nat) (ns : List Nat) : stay μ0 μ (n :: ns) ↔ μ[n]? = μ0[n]? ∧ stay μ0 μ ns := by
  simp [stay]
def compGo (acc : List PV) (y : Option PV) (k : List PV → Mu → Out (List PV)) (μ : Mu) : Out (List PV) := match y with
  | none => k acc μ
  | some y => if acc.length < sizeLine then k (acc ++ [y]) μ else .bad
@[simp] theorem compGo_none (acc : List PV) (k : List PV → Mu → Out (List PV)) (μ : Mu) : compGo acc none k μ = k acc μ := rfl
@[simp] theorem compGo_some (acc : List PV) (y : PV) (k : List PV → Mu → Out (List PV)) (μ : Mu) : compGo acc (some y) k μ = if acc.length < sizeLine then k (acc ++ [y]) μ else .bad := rfl
/-- the comprehension's turns -/
def compLoop (μ0 : Mu) (src : List Nat) (body : PV → Mu → Out (Option PV)) : List PV → List PV → Mu → Out (List PV)
  | [], acc, μ => if stay μ0 μ src then .ok acc μ else .bad
  | x :: xs, acc, μ => if stay μ0 μ src then (body x μ).bind fun y μ' => compGo acc y (fun acc μ => compLoop μ0 src body xs acc μ) μ' else .bad
/-- no refusal leaves a comprehension -/
def calm {α : Type} : Out α → Out α
  | .ok a μ => .ok a μ
  | _ => .bad
@[simp] theorem calm_ok {α : Type} (a : α) (μ : Mu) : calm (.ok a μ) = .ok a μ := rfl
/-- what the law's heard makes of a refusal: the names of the classes told -/
inductive Hrd where
  | plain (al : List String)                        -- ("refused", None)
  | named (al : List String) (cs : List String)    -- (the names joined, what)
structure Wd where
  call : String → List PV → Mu → Out PV
  hrd : String → Option Hrd
  con : String → Option PV
  cls : List String
  fuel : Nat
def told (h : Hrd) (o : Out PV) : Out Ag := match o with
  | .ok p μ => .ok (.v (.tup [.str "told", p])) μ
  | .exc c w μ => (match h with
    | .plain al => if c ∈ al then .ok (.v (.tup [.str "refused", .non])) μ else .bad
    | .named al cs => if c ∈ al then .ok (.v (.tup [.str (if c ∈ cs then Str.ofString c else Str.empty), w])) μ else .bad)
  | .bad => .bad
@[simp] theorem told_ok (h : Hrd) (p : PV) (μ : Mu) : told h (.ok p μ) = .ok (.v (.tup [.str "told", p])) μ := rfl
@[simp] theorem told_plain (al : List String) (c : String) (w : PV) (μ : Mu) : told (.plain al) (.exc c w μ) = if c ∈ al then .ok (.v (.tup [.str "refused", .non])) μ else .bad := rfl
@[simp] theorem told_named (al cs : List String) (c : String) (w : PV) (μ : Mu) : told (.named al cs) (.exc c w μ) = if c ∈ al then .ok (.v (.tup [.str (if c ∈ cs then Str.ofString c else Str.empty), w])) μ else .bad := rfl
def intsOf : List PV → Option (List Int)
  | [] => some []
  | .int i :: xs => (intsOf xs).map (i :: ·)
  | _ :: _ => none
@[simp] theorem intsOf_map (ns : List Int) : intsOf (ns.map .int) = some ns := by
  induction ns with
  | nil => rfl
  | cons i r ih => simp [intsOf, ih]
def insI (x : Int) : List Int → List Int
  | [] => [x]
  | y :: ys => if x < y then x :: y :: ys else if x = y then y :: ys else y :: insI x ys
def sortD (xs : List Int) : List Int := xs.foldr insI []
def sortSetA (μ : Mu) (a : Ag) : Option Ag := match (sview μ a).bind intsOf with
  | some ns => if (sortD ns).length < 64 ∧ ns.length < 4000 then some (.l ((sortD ns).map .int)) else none
  | none => none
/-- whole numbers, rising, each as often as it stands -/
def insL (x : Int) : List Int → List Int
  | [] => [x]
  | y :: ys => if x ≤ y then x :: y :: ys else y :: insL x ys
def sortI (xs : List Int) : List Int := xs.foldr insL []
def sortLA (μ : Mu) (a : Ag) : Option Ag := match (lview μ a).bind intsOf with
  | some ns => some (.l ((sortI ns).map .int))
  | none => none
def revA : Ag → Option Ag
  | .v (.tup xs) => some (.v (.tup xs.reverse))
  | _ => none
@[simp] theorem revA_tup (xs : List PV) : revA (.v (.tup xs)) = some (.v (.tup xs.reverse)) := rfl
@[simp] theorem sortLA_l (μ : Mu) (ns : List Int) : sortLA μ (.l (ns.map .int)) = some (.l ((sortI ns).map .int)) := by
  simp [sortLA]
def itA (μ : Mu) (a : Ag) : Option Its := match a with
  | .v (.tup xs) => some (xs, [])
  | .v (.frz ns) => some (ns.map .int, [])
  | .v (.ref n) => (match μ[n]? with
    | some (.lst xs) => some (xs, [n])
    | _ => none)
  | .l xs => some (xs, [])
  | _ => none
def isNone : Ag → Bool
  | .v .non => true
  | _ => false
def varA (σ : Sg) (i : Nat) : Option Ag := match σ[i]? with
  | some (some p) => some (.v p)
  | _ => none
/-- a bound of a slice -/
def bnd : List Ag → Option (Option Int)
  | [] => some none
  | [.v (.int i)] => some (some i)
  | _ => none
def convA (t : Bool) (xs : List PV) : Ag := if t = true then .v (.tup xs) else .l xs
def rngA : List Ag → Option (List PV)
  | [.v (.int j)] => if Sm j then some ((List.range j.toNat).map fun (k : Nat) => .int (0 + (k : Int))) else none
  | [.v (.int i), .v (.int j)] => if Sm i ∧ Sm j then some ((List.range (j - i).toNat).map fun (k : Nat) => .int (i + (k : Int))) else none
  | _ => none
def enumP (xs : List PV) : List PV := xs.zipIdx.map fun (p : PV × Nat) => .tup [.int (p.2 : Int), p.1]
def zipP (xs ys : List PV) : List PV := (List.zip xs ys).map fun p => .tup [p.1, p.2]
def zipA (μ : Mu) (x y : Ag) : Option Its := match tview x, tview y with
  | some xs, some ys => some (zipP xs ys, [])
  | none, none => (match itA μ x, itA μ y with
    | some a, some b => some (zipP a.1 b.1, a.2 ++ b.2)
    | _, _ => none)
  | _, _ => none
def plainS (a : Sg → Mu → Out Ag) : Sem := ⟨a, fun σ μ => (a σ μ).bind fun x μ' => lift (truA μ' x) μ', fun _ _ => .bad, fun _ _ => .bad, fun σ μ => (a σ μ).bind fun x μ' => lift (itA μ' x) μ'⟩
def testS (t : Sg → Mu → Out Bool) : Sem := ⟨fun σ μ => (t σ μ).bind fun b μ' => .ok (.v (.bl b)) μ', t, fun _ _ => .bad, fun _ _ => .bad, fun _ _ => .bad⟩
def iterS (i : Sg → Mu → Out Its) : Sem := ⟨fun _ _ => .bad, fun _ _ => .bad, fun _ _ => .bad, fun _ _ => .bad, i⟩
def heardO (h : Option Hrd) (o : Out PV) : Out Ag := match h with
  | some h => told h o
  | none => .bad
@[simp] theorem heardO_some (h : Hrd) (o : Out PV) : heardO (some h) o = told h o := rfl
def kBnd : List Ag → Mu → Out (Option Int) := fun l μ => lift (bnd l) μ
@[simp] theorem kBnd_eq (l : List Ag) (μ : Mu) : kBnd l μ = lift (bnd l) μ := rfl
def Sem.b (d : Sem) (σ : Sg) (μ : Mu) : Out (Option Int) := (d.g σ μ).bind kBnd
@[simp] theorem Sem.b_eq (d : Sem) (σ : Sg) (μ : Mu) : d.b σ μ = (d.g σ μ).bind kBnd := rfl
def den (W : Wd) : X → Sem
  | .nil => ⟨fun _ _ => .bad, fun _ μ => .ok true μ, fun _ μ => .ok [] μ, fun _ μ => .ok [] μ, fun _ _ => .bad⟩
  | .cons e es => ⟨fun _ _ => .bad, fun σ μ => ((den W e).t σ μ).bind fun c μ1 => if c = true then (den W es).t σ μ1 else .ok false μ1,
      fun σ μ => ((den W e).f σ μ).bind fun x μ1 => ((den W es).s σ μ1).bind fun xs μ2 => .ok (x :: xs) μ2,
      fun σ μ => ((den W e).a σ μ).bind fun x μ1 => ((den W es).g σ μ1).bind fun xs μ2 => .ok (x :: xs) μ2, fun _ _ => .bad⟩
  | .var i => plainS fun σ μ => lift (varA σ i) μ
  | .non => plainS fun σ μ => .ok (.v .non) μ
  | .bl b => plainS fun σ μ => .ok (.v (.bl b)) μ
  | .int i => plainS fun σ μ => .ok (.v (.int i)) μ
  | .str s => plainS fun σ μ => .ok (.v (.str s)) μ
  | .glo x => plainS fun σ μ => lift ((W.con x).map .v) μ
  | .tup es => plainS fun σ μ => ((den W es).s σ μ).bind fun xs μ1 => if xs.length ≤ sizeLine then .ok (.v (.tup xs)) μ1 else .bad
  | .lst es => plainS fun σ μ => ((den W es).s σ μ).bind fun xs μ1 => if xs.length ≤ sizeLine then .ok (.l xs) μ1 else .bad
  | .bin o a b => plainS fun σ μ => ((den W a).a σ μ).bind fun x μ1 => ((den W b).a σ μ1).bind fun y μ2 => lift (op2 o x y μ2) μ2
  | .neg a => plainS fun σ μ => ((den W a).a σ μ).bind fun x μ1 => lift ((intOf x).map fun i => .v (.int (-i))) μ1
  | .not a => ⟨fun σ μ => ((den W a).a σ μ).bind fun x μ1 => (lift (truA μ1 x) μ1).bind fun b μ2 => .ok (.v (.bl (!b))) μ2, fun σ μ => ((den W a).t σ μ).bind fun b μ1 => .ok (!b) μ1, fun _ _ => .bad, fun _ _ => .bad, fun _ _ => .bad⟩
  | .and a b => ⟨fun σ μ => ((den W a).a σ μ).bind fun x μ1 => (lift (truA μ1 x) μ1).bind fun c μ1 => if c = true then (den W b).a σ μ1 else .ok x μ1, fun σ μ => ((den W a).t σ μ).bind fun c μ1 => if c = true then (den W b).t σ μ1 else .ok false μ1, fun _ _ => .bad, fun _ _ => .bad, fun σ μ => .bad⟩
  | .or a b => ⟨fun σ μ => ((den W a).a σ μ).bind fun x μ1 => (lift (truA μ1 x) μ1).bind fun c μ1 => if c = true then .ok x μ1 else (den W b).a σ μ1, fun σ μ => ((den W a).t σ μ).bind fun c μ1 => if c = true then .ok true μ1 else (den W b).t σ μ1, fun _ _ => .bad, fun _ _ => .bad, fun σ μ => .bad⟩
  | .ite c a b => ⟨fun σ μ => ((den W c).t σ μ).bind fun k μ1 => if k = true then (den W a).a σ μ1 else (den W b).a σ μ1, fun σ μ => ((den W c).t σ μ).bind fun k μ1 => if k = true then (den W a).t σ μ1 else (den W b).t σ μ1, fun _ _ => .bad, fun _ _ => .bad, fun σ μ => (((den W c).t σ μ).bind fun k μ1 => if k = true then (den W a).a σ μ1 else (den W b).a σ μ1).bind fun x μ1 => lift (itA μ1 x) μ1⟩
  | .cmp o a b => testS fun σ μ => ((den W a).a σ μ).bind fun x μ1 => ((den W b).a σ μ1).bind fun y μ2 => lift (cmA o x y μ2) μ2
  | .chain o o' a b c => testS fun σ μ => ((den W a).a σ μ).bind fun x μ1 => ((den W b).a σ μ1).bind fun y μ2 => (lift (cmA o x y μ2) μ2).bind fun k μ2 => if k = true then ((den W c).a σ μ2).bind fun z μ3 => lift (cmA o' y z μ3) μ3 else .ok false μ2
  | .isN a => testS fun σ μ => ((den W a).a σ μ).bind fun x μ1 => .ok (isNone x) μ1
  | .notN a => testS fun σ μ => ((den W a).a σ μ).bind fun x μ1 => .ok (!isNone x) μ1
  | .ix a b => plainS fun σ μ => ((den W a).a σ μ).bind fun x μ1 => ((den W b).a σ μ1).bind fun y μ2 => lift (ixA μ2 x y) μ2
  | .slice a lo hi => plainS fun σ μ => ((den W a).a σ μ).bind fun x μ1 => ((den W lo).b σ μ1).bind fun l μ2 => ((den W hi).b σ μ2).bind fun h μ3 => lift (sliceA μ3 x l h) μ3
  | .call f es => plainS fun σ μ => ((den W es).s σ μ).bind fun xs μ1 => (W.call f xs μ1).bind fun p μ2 => .ok (.v p) μ2
  | .bi f es => plainS fun σ μ => ((den W es).g σ μ).bind fun xs μ1 => lift (biA f xs μ1) μ1
  | .conv t a => plainS fun σ μ => ((den W a).i σ μ).bind fun xs μ1 => if xs.1.length ≤ sizeLine then .ok (convA t xs.1) μ1 else .bad
  | .isi a t => testS fun σ μ => ((den W a).a σ μ).bind fun x μ1 => lift (isA μ1 t x) μ1
  | .mt m o es => plainS fun σ μ => ((den W o).a σ μ).bind fun x μ1 => if rcvB x = true then ((den W es).g σ μ1).bind fun xs μ2 => liftM (mtA m x xs μ2) else .bad
  | .app o e => plainS fun σ μ => ((den W o).a σ μ).bind fun x μ1 => if rcvB x = true then ((den W e).f σ μ1).bind fun y μ2 => liftM (appA x y μ2) else .bad
  | .comp tg it cond elt => plainS fun σ μ => ((den W it).i σ μ).bind fun xs μ1 => (compLoop μ1 xs.2 (fun x μ => (lift (tg.put x (wipeP σ tg.slots)) μ).bind fun σ1 μ => (calm ((den W cond).t σ1 μ)).bind fun c μ => if c = true then (calm ((den W elt).f σ1 μ)).bind fun y μ => .ok (some y) μ else .ok none μ) xs.1 [] μ1).bind fun ys μ2 => .ok (.l ys) μ2
  | .rng es => iterS fun σ μ => ((den W es).g σ μ).bind fun xs μ1 => lift ((rngA xs).map fun l => (l, [])) μ1
  | .enum a => iterS fun σ μ => ((den W a).a σ μ).bind fun x μ1 => lift ((itA μ1 x).map fun t => (enumP t.1, t.2)) μ1
  | .zip a b => iterS fun σ μ => ((den W a).a σ μ).bind fun x μ1 => ((den W b).a σ μ1).bind fun y μ2 => lift (zipA μ2 x y) μ2
  | .sortSet a => plainS fun σ μ => ((den W a).a σ μ).bind fun x μ1 => lift (sortSetA μ1 x) μ1
  | .rev a => plainS fun σ μ => ((den W a).a σ μ).bind fun x μ1 => lift (revA x) μ1
  | .sortL a => plainS fun σ μ => ((den W a).a σ μ).bind fun x μ1 => lift (sortLA μ1 x) μ1
  | .heard g body => plainS fun σ μ => heardO (W.hrd g) ((den W body).f σ μ)
@[simp] theorem itA_tup (μ : Mu) (xs : List PV) : itA μ (.v (.tup xs)) = some (xs, []) := rfl
@[simp] theorem itA_frz (μ : Mu) (xs : List Int) : itA μ (.v (.frz xs)) = some (xs.map .int, []) := rfl
@[simp] theorem itA_l (μ : Mu) (xs : List PV) : itA μ (.l xs) = some (xs, []) := rfl
@[simp] theorem itA_ref (μ : Mu) (n : Nat) : itA μ (.v (.ref n)) = (match μ[n]? with | some (.lst xs) => some (xs, [n]) | _ => none) := rfl
@[simp] theorem isNone_non : isNone (.v .non) = true := rfl
@[simp] theorem isNone_bl (b : Bool) : isNone (.v (.bl b)) = false := rfl
@[simp] theorem isNone_int (b : Int) : isNone (.v (.int b)) = false := rfl
@[simp] theorem isNone_str (b : Str) : isNone (.v (.str b)) = false := rfl
@[simp] theorem isNone_tup (b : List PV) : isNone (.v (.tup b)) = false := rfl
@[simp] theorem isNone_ref (b : Nat) : isNone (.v (.ref b)) = false := rfl
@[simp] theorem isNone_frz (b : List Int) : isNone (.v (.frz b)) = false := rfl
@[simp] theorem isNone_l (b : List PV) : isNone (.l b) = false := rfl
@[simp] theorem varA_zero (p : PV) (σ : Sg) : varA (some p :: σ) 0 = some (.v p) := rfl
@[simp] theorem varA_succ (x : Option PV) (σ : Sg) (i : Nat) : varA (x :: σ) (i + 1) = varA σ i := rfl
@[simp] theorem bnd_nil : bnd [] = some none := rfl
@[simp] theorem bnd_int (i : Int) : bnd [.v (.int i)] = some (some i) := rfl
@[simp] theorem convA_true (xs : List PV) : convA true xs = .v (.tup xs) := rfl
@[simp] theorem convA_false (xs : List PV) : convA false xs = .l xs := rfl
@[simp] theorem rngA_one (j : Int) : rngA [.v (.int j)] = if Sm j then some ((List.range j.toNat).map fun (k : Nat) => .int (0 + (k : Int))) else none := rfl
@[simp] theorem rngA_two (i j : Int) : rngA [.v (.int i), .v (.int j)] = if Sm i ∧ Sm j then some ((List.range (j - i).toNat).map fun (k : Nat) => .int (i + (k : Int))) else none := rfl
def k_not_w : Bool → Mu → Out Ag := fun b μ2 => .ok (.v (.bl (!b))) μ2
@[simp] theorem k_not_w_eq (b : Bool) (μ : Mu) : k_not_w b μ = .ok (.v (.bl (!b))) μ := rfl
def k_not_v : Ag → Mu → Out Ag := fun x μ1 => (lift (truA μ1 x) μ1).bind k_not_w
@[simp] theorem k_not_v_eq (x : Ag) (μ1 : Mu) : k_not_v x μ1 = (lift (truA μ1 x) μ1).bind k_not_w := rfl
def kTru : Ag → Mu → Out Bool := fun x μ => lift (truA μ x) μ
@[simp] theorem kTru_eq (x : Ag) (μ : Mu) : kTru x μ = lift (truA μ x) μ := rfl
def kIt : Ag → Mu → Out Its := fun x μ => lift (itA μ x) μ
@[simp] theorem kIt_eq (x : Ag) (μ : Mu) : kIt x μ = lift (itA μ x) μ := rfl
def kBl : Bool → Mu → Out Ag := fun b μ => .ok (.v (.bl b)) μ
@[simp] theorem kBl_eq (b : Bool) (μ : Mu) : kBl b μ = .ok (.v (.bl b)) μ := rfl
def k_body''t  : PV → Mu → Out (Option PV) := fun y μ => .ok (some y) μ
def k_body' (W : Wd) (elt : X) (σ1 : Sg) : Bool → Mu → Out (Option PV) := fun c μ => if c = true then (calm ((den W elt).f σ1 μ)).bind k_body''t else .ok none μ
def k_body (W : Wd) (cond : X) (elt : X) : Sg → Mu → Out (Option PV) := fun σ1 μ => (calm ((den W cond).t σ1 μ)).bind (k_body' W elt σ1)
@[simp] theorem k_body''t_eq  (y : PV) (μ : Mu) : k_body''t  y μ = (.ok (some y) μ) := rfl
@[simp] theorem k_body'_eq (W : Wd) (elt : X) (σ1 : Sg) (c : Bool) (μ : Mu) : k_body' W elt σ1 c μ = (if c = true then (calm ((den W elt).f σ1 μ)).bind k_body''t else .ok none μ) := rfl
@[simp] theorem k_body_eq (W : Wd) (cond : X) (elt : X) (σ1 : Sg) (μ : Mu) : k_body W cond elt σ1 μ = ((calm ((den W cond).t σ1 μ)).bind (k_body' W elt σ1)) := rfl
def compBody (W : Wd) (tg : Tg) (cond elt : X) (σ : Sg) : PV → Mu → Out (Option PV) := fun x μ => (lift (tg.put x (wipeP σ tg.slots)) μ).bind (k_body W cond elt)
@[simp] theorem compBody_eq (W : Wd) (tg : Tg) (cond elt : X) (σ : Sg) (x : PV) (μ : Mu) : compBody W tg cond elt σ x μ = ((lift (tg.put x (wipeP σ tg.slots)) μ).bind (k_body W cond elt)) := rfl
def k_cons_t (W : Wd) (es : X) (σ : Sg) : Bool → Mu → Out Bool := fun c μ1 => if c = true then (den W es).t σ μ1 else .ok false μ1
def k_cons_s' (x : PV) : List PV → Mu → Out (List PV) := fun xs μ2 => .ok (x :: xs) μ2
def k_cons_s (W : Wd) (es : X) (σ : Sg) : PV → Mu → Out (List PV) := fun x μ1 => ((den W es).s σ μ1).bind (k_cons_s' x)
def k_cons_g' (x : Ag) : List Ag → Mu → Out (List Ag) := fun xs μ2 => .ok (x :: xs) μ2
def k_cons_g (W : Wd) (es : X) (σ : Sg) : Ag → Mu → Out (List Ag) := fun x μ1 => ((den W es).g σ μ1).bind (k_cons_g' x)
def k_tup_a  : List PV → Mu → Out Ag := fun xs μ1 => if xs.length ≤ sizeLine then .ok (.v (.tup xs)) μ1 else .bad
def k_lst_a  : List PV → Mu → Out Ag := fun xs μ1 => if xs.length ≤ sizeLine then .ok (.l xs) μ1 else .bad
def k_bin_a' (o : Op2) (x : Ag) : Ag → Mu → Out Ag := fun y μ2 => lift (op2 o x y μ2) μ2
def k_bin_a (W : Wd) (o : Op2) (b : X) (σ : Sg) : Ag → Mu → Out Ag := fun x μ1 => ((den W b).a σ μ1).bind (k_bin_a' o x)
def k_neg_a  : Ag → Mu → Out Ag := fun x μ1 => lift ((intOf x).map fun i => .v (.int (-i))) μ1
def k_not_t  : Bool → Mu → Out Bool := fun b μ1 => .ok (!b) μ1
def k_and_a' (W : Wd) (b : X) (σ : Sg) (x : Ag) : Bool → Mu → Out Ag := fun c μ1 => if c = true then (den W b).a σ μ1 else .ok x μ1
def k_and_a (W : Wd) (b : X) (σ : Sg) : Ag → Mu → Out Ag := fun x μ1 => (lift (truA μ1 x) μ1).bind (k_and_a' W b σ x)
def k_and_t (W : Wd) (b : X) (σ : Sg) : Bool → Mu → Out Bool := fun c μ1 => if c = true then (den W b).t σ μ1 else .ok false μ1
def k_or_a' (W : Wd) (b : X) (σ : Sg) (x : Ag) : Bool → Mu → Out Ag := fun c μ1 => if c = true then .ok x μ1 else (den W b).a σ μ1
def k_or_a (W : Wd) (b : X) (σ : Sg) : Ag → Mu → Out Ag := fun x μ1 => (lift (truA μ1 x) μ1).bind (k_or_a' W b σ x)
def k_or_t (W : Wd) (b : X) (σ : Sg) : Bool → Mu → Out Bool := fun c μ1 => if c = true then .ok true μ1 else (den W b).t σ μ1
def k_ite_a (W : Wd) (a : X) (b : X) (σ : Sg) : Bool → Mu → Out Ag := fun k μ1 => if k = true then (den W a).a σ μ1 else (den W b).a σ μ1
def k_ite_t (W : Wd) (a : X) (b : X) (σ : Sg) : Bool → Mu → Out Bool := fun k μ1 => if k = true then (den W a).t σ μ1 else (den W b).t σ μ1
def k_cmp_t' (o : Cm) (x : Ag) : Ag → Mu → Out Bool := fun y μ2 => lift (cmA o x y μ2) μ2
def k_cmp_t (W : Wd) (o : Cm) (b : X) (σ : Sg) : Ag → Mu → Out Bool := fun x μ1 => ((den W b).a σ μ1).bind (k_cmp_t' o x)
def k_chain_t'''t (o' : Cm) (y : Ag) : Ag → Mu → Out Bool := fun z μ3 => lift (cmA o' y z μ3) μ3
def k_chain_t'' (W : Wd) (o' : Cm) (c : X) (σ : Sg) (y : Ag) : Bool → Mu → Out Bool := fun k μ2 => if k = true then ((den W c).a σ μ2).bind (k_chain_t'''t o' y) else .ok false μ2
def k_chain_t' (W : Wd) (o : Cm) (o' : Cm) (c : X) (σ : Sg) (x : Ag) : Ag → Mu → Out Bool := fun y μ2 => (lift (cmA o x y μ2) μ2).bind (k_chain_t'' W o' c σ y)
def k_chain_t (W : Wd) (o : Cm) (o' : Cm) (b : X) (c : X) (σ : Sg) : Ag → Mu → Out Bool := fun x μ1 => ((den W b).a σ μ1).bind (k_chain_t' W o o' c σ x)
def k_isN_t  : Ag → Mu → Out Bool := fun x μ1 => .ok (isNone x) μ1
def k_notN_t  : Ag → Mu → Out Bool := fun x μ1 => .ok (!isNone x) μ1
def k_ix_a' (x : Ag) : Ag → Mu → Out Ag := fun y μ2 => lift (ixA μ2 x y) μ2
def k_ix_a (W : Wd) (b : X) (σ : Sg) : Ag → Mu → Out Ag := fun x μ1 => ((den W b).a σ μ1).bind (k_ix_a' x)
def k_slice_a'' (x : Ag) (l : Option Int) : Option Int → Mu → Out Ag := fun h μ3 => lift (sliceA μ3 x l h) μ3
def k_slice_a' (W : Wd) (hi : X) (σ : Sg) (x : Ag) : Option Int → Mu → Out Ag := fun l μ2 => ((den W hi).b σ μ2).bind (k_slice_a'' x l)
def k_slice_a (W : Wd) (lo hi : X) (σ : Sg) : Ag → Mu → Out Ag := fun x μ1 => ((den W lo).b σ μ1).bind (k_slice_a' W hi σ x)
def k_call_a'  : PV → Mu → Out Ag := fun p μ2 => .ok (.v p) μ2
def k_call_a (W : Wd) (f : String) : List PV → Mu → Out Ag := fun xs μ1 => (W.call f xs μ1).bind k_call_a'
def k_bi_a (f : Bi) : List Ag → Mu → Out Ag := fun xs μ1 => lift (biA f xs μ1) μ1
def k_conv_a (t : Bool) : Its → Mu → Out Ag := fun xs μ1 => if xs.1.length ≤ sizeLine then .ok (convA t xs.1) μ1 else .bad
def k_isi_t (t : Ty) : Ag → Mu → Out Bool := fun x μ1 => lift (isA μ1 t x) μ1
def k_mt_a' (m : Mt) (x : Ag) : List Ag → Mu → Out Ag := fun xs μ2 => liftM (mtA m x xs μ2)
def k_mt_a (W : Wd) (m : Mt) (es : X) (σ : Sg) : Ag → Mu → Out Ag := fun x μ1 => if rcvB x = true then ((den W es).g σ μ1).bind (k_mt_a' m x) else .bad
def k_app_a' (x : Ag) : PV → Mu → Out Ag := fun y μ2 => liftM (appA x y μ2)
def k_app_a (W : Wd) (e : X) (σ : Sg) : Ag → Mu → Out Ag := fun x μ1 => if rcvB x = true then ((den W e).f σ μ1).bind (k_app_a' x) else .bad
def k_comp_a'  : List PV → Mu → Out Ag := fun ys μ2 => .ok (.l ys) μ2
def k_comp_a (W : Wd) (tg : Tg) (cond : X) (elt : X) (σ : Sg) : Its → Mu → Out Ag := fun xs μ1 => (compLoop μ1 xs.2 (compBody W tg cond elt σ) xs.1 [] μ1).bind k_comp_a'
def k_rng_i  : List Ag → Mu → Out Its := fun xs μ1 => lift ((rngA xs).map fun l => (l, [])) μ1
def k_sortSet_a  : Ag → Mu → Out Ag := fun x μ1 => lift (sortSetA μ1 x) μ1
@[simp] theorem k_cons_t_eq (W : Wd) (es : X) (σ : Sg) (c : Bool) (μ1 : Mu) : k_cons_t W es σ c μ1 = (if c = true then (den W es).t σ μ1 else .ok false μ1) := rfl
@[simp] theorem k_cons_s'_eq (x : PV) (xs : List PV) (μ2 : Mu) : k_cons_s' x xs μ2 = (.ok (x :: xs) μ2) := rfl
@[simp] theorem k_cons_s_eq (W : Wd) (es : X) (σ : Sg) (x : PV) (μ1 : Mu) : k_cons_s W es σ x μ1 = (((den W es).s σ μ1).bind (k_cons_s' x)) := rfl
@[simp] theorem k_cons_g'_eq (x : Ag) (xs : List Ag) (μ2 : Mu) : k_cons_g' x xs μ2 = (.ok (x :: xs) μ2) := rfl
@[simp] theorem k_cons_g_eq (W : Wd) (es : X) (σ : Sg) (x : Ag) (μ1 : Mu) : k_cons_g W es σ x μ1 = (((den W es).g σ μ1).bind (k_cons_g' x)) := rfl
@[simp] theorem k_tup_a_eq  (xs : List PV) (μ1 : Mu) : k_tup_a  xs μ1 = (if xs.length ≤ sizeLine then .ok (.v (.tup xs)) μ1 else .bad) := rfl
@[simp] theorem k_lst_a_eq  (xs : List PV) (μ1 : Mu) : k_lst_a  xs μ1 = (if xs.length ≤ sizeLine then .ok (.l xs) μ1 else .bad) := rfl
@[simp] theorem k_bin_a'_eq (o : Op2) (x : Ag) (y : Ag) (μ2 : Mu) : k_bin_a' o x y μ2 = (lift (op2 o x y μ2) μ2) := rfl
@[simp] theorem k_bin_a_eq (W : Wd) (o : Op2) (b : X) (σ : Sg) (x : Ag) (μ1 : Mu) : k_bin_a W o b σ x μ1 = (((den W b).a σ μ1).bind (k_bin_a' o x)) := rfl
@[simp] theorem k_neg_a_eq  (x : Ag) (μ1 : Mu) : k_neg_a  x μ1 = (lift ((intOf x).map fun i => .v (.int (-i))) μ1) := rfl
@[simp] theorem k_not_t_eq  (b : Bool) (μ1 : Mu) : k_not_t  b μ1 = (.ok (!b) μ1) := rfl
@[simp] theorem k_and_a'_eq (W : Wd) (b : X) (σ : Sg) (x : Ag) (c : Bool) (μ1 : Mu) : k_and_a' W b σ x c μ1 = (if c = true then (den W b).a σ μ1 else .ok x μ1) := rfl
@[simp] theorem k_and_a_eq (W : Wd) (b : X) (σ : Sg) (x : Ag) (μ1 : Mu) : k_and_a W b σ x μ1 = ((lift (truA μ1 x) μ1).bind (k_and_a' W b σ x)) := rfl
@[simp] theorem k_and_t_eq (W : Wd) (b : X) (σ : Sg) (c : Bool) (μ1 : Mu) : k_and_t W b σ c μ1 = (if c = true then (den W b).t σ μ1 else .ok false μ1) := rfl
@[simp] theorem k_or_a'_eq (W : Wd) (b : X) (σ : Sg) (x : Ag) (c : Bool) (μ1 : Mu) : k_or_a' W b σ x c μ1 = (if c = true then .ok x μ1 else (den W b).a σ μ1) := rfl
@[simp] theorem k_or_a_eq (W : Wd) (b : X) (σ : Sg) (x : Ag) (μ1 : Mu) : k_or_a W b σ x μ1 = ((lift (truA μ1 x) μ1).bind (k_or_a' W b σ x)) := rfl
@[simp] theorem k_or_t_eq (W : Wd) (b : X) (σ : Sg) (c : Bool) (μ1 : Mu) : k_or_t W b σ c μ1 = (if c = true then .ok true μ1 else (den W b).t σ μ1) := rfl
@[simp] theorem k_ite_a_eq (W : Wd) (a : X) (b : X) (σ : Sg) (k : Bool) (μ1 : Mu) : k_ite_a W a b σ k μ1 = (if k = true then (den W a).a σ μ1 else (den W b).a σ μ1) := rfl
@[simp] theorem k_ite_t_eq (W : Wd) (a : X) (b : X) (σ : Sg) (k : Bool) (μ1 : Mu) : k_ite_t W a b σ k μ1 = (if k = true then (den W a).t σ μ1 else (den W b).t σ μ1) := rfl
@[simp] theorem k_cmp_t'_eq (o : Cm) (x : Ag) (y : Ag) (μ2 : Mu) : k_cmp_t' o x y μ2 = (lift (cmA o x y μ2) μ2) := rfl
@[simp] theorem k_cmp_t_eq (W : Wd) (o : Cm) (b : X) (σ : Sg) (x : Ag) (μ1 : Mu) : k_cmp_t W o b σ x μ1 = (((den W b).a σ μ1).bind (k_cmp_t' o x)) := rfl
@[simp] theorem k_chain_t'''t_eq (o' : Cm) (y : Ag) (z : Ag) (μ3 : Mu) : k_chain_t'''t o' y z μ3 = (lift (cmA o' y z μ3) μ3) := rfl
@[simp] theorem k_chain_t''_eq (W : Wd) (o' : Cm) (c : X) (σ : Sg) (y : Ag) (k : Bool) (μ2 : Mu) : k_chain_t'' W o' c σ y k μ2 = (if k = true then ((den W c).a σ μ2).bind (k_chain_t'''t o' y) else .ok false μ2) := rfl
@[simp] theorem k_chain_t'_eq (W : Wd) (o : Cm) (o' : Cm) (c : X) (σ : Sg) (x : Ag) (y : Ag) (μ2 : Mu) : k_chain_t' W o o' c σ x y μ2 = ((lift (cmA o x y μ2) μ2).bind (k_chain_t'' W o' c σ y)) := rfl
@[simp] theorem k_chain_t_eq (W : Wd) (o : Cm) (o' : Cm) (b : X) (c : X) (σ : Sg) (x : Ag) (μ1 : Mu) : k_chain_t W o o' b c σ x μ1 = (((den W b).a σ μ1).bind (k_chain_t' W o o' c σ x)) := rfl
@[simp] theorem k_isN_t_eq  (x : Ag) (μ1 : Mu) : k_isN_t  x μ1 = (.ok (isNone x) μ1) := rfl
@[simp] theorem k_notN_t_eq  (x : Ag) (μ1 : Mu) : k_notN_t  x μ1 = (.ok (!isNone x) μ1) := rfl
@[simp] theorem k_ix_a'_eq (x : Ag) (y : Ag) (μ2 : Mu) : k_ix_a' x y μ2 = (lift (ixA μ2 x y) μ2) := rfl
@[simp] theorem k_ix_a_eq (W : Wd) (b : X) (σ : Sg) (x : Ag) (μ1 : Mu) : k_ix_a W b σ x μ1 = (((den W b).a σ μ1).bind (k_ix_a' x)) := rfl
@[simp] theorem k_slice_a''_eq (x : Ag) (l h : Option Int) (μ3 : Mu) : k_slice_a'' x l h μ3 = lift (sliceA μ3 x l h) μ3 := rfl
@[simp] theorem k_slice_a'_eq (W : Wd) (hi : X) (σ : Sg) (x : Ag) (l : Option Int) (μ2 : Mu) : k_slice_a' W hi σ x l μ2 = ((den W hi).b σ μ2).bind (k_slice_a'' x l) := rfl
@[simp] theorem k_slice_a_eq (W : Wd) (lo hi : X) (σ : Sg) (x : Ag) (μ1 : Mu) : k_slice_a W lo hi σ x μ1 = ((den W lo).b σ μ1).bind (k_slice_a' W hi σ x) := rfl
@[simp] theorem k_call_a'_eq  (p : PV) (μ2 : Mu) : k_call_a'  p μ2 = (.ok (.v p) μ2) := rfl
@[simp] theorem k_call_a_eq (W : Wd) (f : String) (xs : List PV) (μ1 : Mu) : k_call_a W f xs μ1 = ((W.call f xs μ1).bind k_call_a') := rfl
@[simp] theorem k_bi_a_eq (f : Bi) (xs : List Ag) (μ1 : Mu) : k_bi_a f xs μ1 = (lift (biA f xs μ1) μ1) := rfl
@[simp] theorem k_conv_a_eq (t : Bool) (xs : Its) (μ1 : Mu) : k_conv_a t xs μ1 = (if xs.1.length ≤ sizeLine then .ok (convA t xs.1) μ1 else .bad) := rfl
@[simp] theorem k_isi_t_eq (t : Ty) (x : Ag) (μ1 : Mu) : k_isi_t t x μ1 = (lift (isA μ1 t x) μ1) := rfl
@[simp] theorem k_mt_a'_eq (m : Mt) (x : Ag) (xs : List Ag) (μ2 : Mu) : k_mt_a' m x xs μ2 = (liftM (mtA m x xs μ2)) := rfl
@[simp] theorem k_mt_a_eq (W : Wd) (m : Mt) (es : X) (σ : Sg) (x : Ag) (μ1 : Mu) : k_mt_a W m es σ x μ1 = (if rcvB x = true then ((den W es).g σ μ1).bind (k_mt_a' m x) else .bad) := rfl
@[simp] theorem k_app_a'_eq (x : Ag) (y : PV) (μ2 : Mu) : k_app_a' x y μ2 = (liftM (appA x y μ2)) := rfl
@[simp] theorem k_app_a_eq (W : Wd) (e : X) (σ : Sg) (x : Ag) (μ1 : Mu) : k_app_a W e σ x μ1 = (if rcvB x = true then ((den W e).f σ μ1).bind (k_app_a' x) else .bad) := rfl
@[simp] theorem k_comp_a'_eq  (ys : List PV) (μ2 : Mu) : k_comp_a'  ys μ2 = (.ok (.l ys) μ2) := rfl
@[simp] theorem k_comp_a_eq (W : Wd) (tg : Tg) (cond : X) (elt : X) (σ : Sg) (xs : Its) (μ1 : Mu) : k_comp_a W tg cond elt σ xs μ1 = ((compLoop μ1 xs.2 (compBody W tg cond elt σ) xs.1 [] μ1).bind k_comp_a') := rfl
@[simp] theorem k_rng_i_eq  (xs : List Ag) (μ1 : Mu) : k_rng_i  xs μ1 = (lift ((rngA xs).map fun l => (l, [])) μ1) := rfl
@[simp] theorem k_sortSet_a_eq  (x : Ag) (μ1 : Mu) : k_sortSet_a  x μ1 = (lift (sortSetA μ1 x) μ1) := rfl
def k_rev_a  : Ag → Mu → Out Ag := fun x μ1 => lift (revA x) μ1
@[simp] theorem k_rev_a_eq  (x : Ag) (μ1 : Mu) : k_rev_a  x μ1 = (lift (revA x) μ1) := rfl
def k_sortL_a  : Ag → Mu → Out Ag := fun x μ1 => lift (sortLA μ1 x) μ1
@[simp] theorem k_sortL_a_eq  (x : Ag) (μ1 : Mu) : k_sortL_a  x μ1 = (lift (sortLA μ1 x) μ1) := rfl
def k_enum_i : Ag → Mu → Out Its := fun x μ1 => lift ((itA μ1 x).map fun t => (enumP t.1, t.2)) μ1
@[simp] theorem k_enum_i_eq (x : Ag) (μ1 : Mu) : k_enum_i x μ1 = lift ((itA μ1 x).map fun t => (enumP t.1, t.2)) μ1 := rfl
def k_zip_i' (x : Ag) : Ag → Mu → Out Its := fun y μ2 => lift (zipA μ2 x y) μ2
@[simp] theorem k_zip_i'_eq (x y : Ag) (μ2 : Mu) : k_zip_i' x y μ2 = lift (zipA μ2 x y) μ2 := rfl
def k_zip_i (W : Wd) (b : X) (σ : Sg) : Ag → Mu → Out Its := fun x μ1 => ((den W b).a σ μ1).bind (k_zip_i' x)
@[simp] theorem k_zip_i_eq (W : Wd) (b : X) (σ : Sg) (x : Ag) (μ1 : Mu) : k_zip_i W b σ x μ1 = ((den W b).a σ μ1).bind (k_zip_i' x) := rfl
section
variable (W : Wd) (σ : Sg) (μ : Mu)
@[simp] theorem den_enum_i (a : X) : (den W (.enum a)).i σ μ = ((den W a).a σ μ).bind k_enum_i := rfl
@[simp] theorem den_zip_i (a b : X) : (den W (.zip a b)).i σ μ = ((den W a).a σ μ).bind (k_zip_i W b σ) := rfl
@[simp] theorem den_nil_t  : (den W .nil).t σ μ = (.ok true μ) := rfl
@[simp] theorem den_nil_s  : (den W .nil).s σ μ = (.ok [] μ) := rfl
@[simp] theorem den_nil_g  : (den W .nil).g σ μ = (.ok [] μ) := rfl
@[simp] theorem den_cons_t (e es : X) : (den W (.cons e es)).t σ μ = (((den W e).t σ μ).bind (k_cons_t W es σ)) := rfl
@[simp] theorem den_cons_s (e es : X) : (den W (.cons e es)).s σ μ = (((den W e).f σ μ).bind (k_cons_s W es σ)) := rfl
@[simp] theorem den_cons_g (e es : X) : (den W (.cons e es)).g σ μ = (((den W e).a σ μ).bind (k_cons_g W es σ)) := rfl
@[simp] theorem den_var_a (i : Nat) : (den W (.var i)).a σ μ = (lift (varA σ i) μ) := rfl
@[simp] theorem den_var_t (i : Nat) : (den W (.var i)).t σ μ = ((den W (.var i)).a σ μ).bind kTru := rfl
@[simp] theorem den_var_i (i : Nat) : (den W (.var i)).i σ μ = ((den W (.var i)).a σ μ).bind kIt := rfl
@[simp] theorem den_non_a  : (den W .non).a σ μ = (.ok (.v .non) μ) := rfl
@[simp] theorem den_non_t  : (den W .non).t σ μ = ((den W .non).a σ μ).bind kTru := rfl
@[simp] theorem den_non_i  : (den W .non).i σ μ = ((den W .non).a σ μ).bind kIt := rfl
@[simp] theorem den_bl_a (b : Bool) : (den W (.bl b)).a σ μ = (.ok (.v (.bl b)) μ) := rfl
@[simp] theorem den_bl_t (b : Bool) : (den W (.bl b)).t σ μ = ((den W (.bl b)).a σ μ).bind kTru := rfl
@[simp] theorem den_bl_i (b : Bool) : (den W (.bl b)).i σ μ = ((den W (.bl b)).a σ μ).bind kIt := rfl
@[simp] theorem den_int_a (i : Int) : (den W (.int i)).a σ μ = (.ok (.v (.int i)) μ) := rfl
@[simp] theorem den_int_t (i : Int) : (den W (.int i)).t σ μ = ((den W (.int i)).a σ μ).bind kTru := rfl
@[simp] theorem den_int_i (i : Int) : (den W (.int i)).i σ μ = ((den W (.int i)).a σ μ).bind kIt := rfl
@[simp] theorem den_str_a (s : Str) : (den W (.str s)).a σ μ = (.ok (.v (.str s)) μ) := rfl
@[simp] theorem den_str_t (s : Str) : (den W (.str s)).t σ μ = ((den W (.str s)).a σ μ).bind kTru := rfl
@[simp] theorem den_str_i (s : Str) : (den W (.str s)).i σ μ = ((den W (.str s)).a σ μ).bind kIt := rfl
@[simp] theorem den_glo_a (x : String) : (den W (.glo x)).a σ μ = (lift ((W.con x).map .v) μ) := rfl
@[simp] theorem den_glo_t (x : String) : (den W (.glo x)).t σ μ = ((den W (.glo x)).a σ μ).bind kTru := rfl
@[simp] theorem den_glo_i (x : String) : (den W (.glo x)).i σ μ = ((den W (.glo x)).a σ μ).bind kIt := rfl
@[simp] theorem den_tup_a (es : X) : (den W (.tup es)).a σ μ = (((den W es).s σ μ).bind k_tup_a) := rfl
@[simp] theorem den_tup_t (es : X) : (den W (.tup es)).t σ μ = ((den W (.tup es)).a σ μ).bind kTru := rfl
@[simp] theorem den_tup_i (es : X) : (den W (.tup es)).i σ μ = ((den W (.tup es)).a σ μ).bind kIt := rfl
@[simp] theorem den_lst_a (es : X) : (den W (.lst es)).a σ μ = (((den W es).s σ μ).bind k_lst_a) := rfl
@[simp] theorem den_lst_t (es : X) : (den W (.lst es)).t σ μ = ((den W (.lst es)).a σ μ).bind kTru := rfl
@[simp] theorem den_lst_i (es : X) : (den W (.lst es)).i σ μ = ((den W (.lst es)).a σ μ).bind kIt := rfl
@[simp] theorem den_bin_a (o : Op2) (a b : X) : (den W (.bin o a b)).a σ μ = (((den W a).a σ μ).bind (k_bin_a W o b σ)) := rfl
@[simp] theorem den_bin_t (o : Op2) (a b : X) : (den W (.bin o a b)).t σ μ = ((den W (.bin o a b)).a σ μ).bind kTru := rfl
@[simp] theorem den_bin_i (o : Op2) (a b : X) : (den W (.bin o a b)).i σ μ = ((den W (.bin o a b)).a σ μ).bind kIt := rfl
@[simp] theorem den_neg_a (a : X) : (den W (.neg a)).a σ μ = (((den W a).a σ μ).bind k_neg_a) := rfl
@[simp] theorem den_neg_t (a : X) : (den W (.neg a)).t σ μ = ((den W (.neg a)).a σ μ).bind kTru := rfl
@[simp] theorem den_neg_i (a : X) : (den W (.neg a)).i σ μ = ((den W (.neg a)).a σ μ).bind kIt := rfl
@[simp] theorem den_not_t (a : X) : (den W (.not a)).t σ μ = (((den W a).t σ μ).bind k_not_t) := rfl
@[simp] theorem den_not_a (a : X) : (den W (.not a)).a σ μ = (((den W a).a σ μ).bind k_not_v) := rfl
@[simp] theorem den_and_a (a b : X) : (den W (.and a b)).a σ μ = (((den W a).a σ μ).bind (k_and_a W b σ)) := rfl
@[simp] theorem den_and_t (a b : X) : (den W (.and a b)).t σ μ = (((den W a).t σ μ).bind (k_and_t W b σ)) := rfl
@[simp] theorem den_or_a (a b : X) : (den W (.or a b)).a σ μ = (((den W a).a σ μ).bind (k_or_a W b σ)) := rfl
@[simp] theorem den_or_t (a b : X) : (den W (.or a b)).t σ μ = (((den W a).t σ μ).bind (k_or_t W b σ)) := rfl
@[simp] theorem den_ite_a (c a b : X) : (den W (.ite c a b)).a σ μ = (((den W c).t σ μ).bind (k_ite_a W a b σ)) := rfl
@[simp] theorem den_ite_t (c a b : X) : (den W (.ite c a b)).t σ μ = (((den W c).t σ μ).bind (k_ite_t W a b σ)) := rfl
@[simp] theorem den_ite_i (c a b : X) : (den W (.ite c a b)).i σ μ = ((den W (.ite c a b)).a σ μ).bind kIt := rfl
@[simp] theorem den_cmp_t (o : Cm) (a b : X) : (den W (.cmp o a b)).t σ μ = (((den W a).a σ μ).bind (k_cmp_t W o b σ)) := rfl
@[simp] theorem den_cmp_a (o : Cm) (a b : X) : (den W (.cmp o a b)).a σ μ = ((den W (.cmp o a b)).t σ μ).bind kBl := rfl
@[simp] theorem den_chain_t (o o' : Cm) (a b c : X) : (den W (.chain o o' a b c)).t σ μ = (((den W a).a σ μ).bind (k_chain_t W o o' b c σ)) := rfl
@[simp] theorem den_chain_a (o o' : Cm) (a b c : X) : (den W (.chain o o' a b c)).a σ μ = ((den W (.chain o o' a b c)).t σ μ).bind kBl := rfl
@[simp] theorem den_isN_t (a : X) : (den W (.isN a)).t σ μ = (((den W a).a σ μ).bind k_isN_t) := rfl
@[simp] theorem den_isN_a (a : X) : (den W (.isN a)).a σ μ = ((den W (.isN a)).t σ μ).bind kBl := rfl
@[simp] theorem den_notN_t (a : X) : (den W (.notN a)).t σ μ = (((den W a).a σ μ).bind k_notN_t) := rfl
@[simp] theorem den_notN_a (a : X) : (den W (.notN a)).a σ μ = ((den W (.notN a)).t σ μ).bind kBl := rfl
@[simp] theorem den_ix_a (a b : X) : (den W (.ix a b)).a σ μ = (((den W a).a σ μ).bind (k_ix_a W b σ)) := rfl
@[simp] theorem den_ix_t (a b : X) : (den W (.ix a b)).t σ μ = ((den W (.ix a b)).a σ μ).bind kTru := rfl
@[simp] theorem den_ix_i (a b : X) : (den W (.ix a b)).i σ μ = ((den W (.ix a b)).a σ μ).bind kIt := rfl
@[simp] theorem den_slice_a (a lo hi : X) : (den W (.slice a lo hi)).a σ μ = (((den W a).a σ μ).bind (k_slice_a W lo hi σ)) := rfl
@[simp] theorem den_slice_t (a lo hi : X) : (den W (.slice a lo hi)).t σ μ = ((den W (.slice a lo hi)).a σ μ).bind kTru := rfl
@[simp] theorem den_slice_i (a lo hi : X) : (den W (.slice a lo hi)).i σ μ = ((den W (.slice a lo hi)).a σ μ).bind kIt := rfl
@[simp] theorem den_call_a (f : String) (es : X) : (den W (.call f es)).a σ μ = (((den W es).s σ μ).bind (k_call_a W f)) := rfl
@[simp] theorem den_call_t (f : String) (es : X) : (den W (.call f es)).t σ μ = ((den W (.call f es)).a σ μ).bind kTru := rfl
@[simp] theorem den_call_i (f : String) (es : X) : (den W (.call f es)).i σ μ = ((den W (.call f es)).a σ μ).bind kIt := rfl
@[simp] theorem den_bi_a (f : Bi) (es : X) : (den W (.bi f es)).a σ μ = (((den W es).g σ μ).bind (k_bi_a f)) := rfl
@[simp] theorem den_bi_t (f : Bi) (es : X) : (den W (.bi f es)).t σ μ = ((den W (.bi f es)).a σ μ).bind kTru := rfl
@[simp] theorem den_bi_i (f : Bi) (es : X) : (den W (.bi f es)).i σ μ = ((den W (.bi f es)).a σ μ).bind kIt := rfl
@[simp] theorem den_conv_a (t : Bool) (a : X) : (den W (.conv t a)).a σ μ = (((den W a).i σ μ).bind (k_conv_a t)) := rfl
@[simp] theorem den_conv_t (t : Bool) (a : X) : (den W (.conv t a)).t σ μ = ((den W (.conv t a)).a σ μ).bind kTru := rfl
@[simp] theorem den_conv_i (t : Bool) (a : X) : (den W (.conv t a)).i σ μ = ((den W (.conv t a)).a σ μ).bind kIt := rfl
@[simp] theorem den_isi_t (a : X) (t : Ty) : (den W (.isi a t)).t σ μ = (((den W a).a σ μ).bind (k_isi_t t)) := rfl
@[simp] theorem den_isi_a (a : X) (t : Ty) : (den W (.isi a t)).a σ μ = ((den W (.isi a t)).t σ μ).bind kBl := rfl
@[simp] theorem den_mt_a (m : Mt) (o es : X) : (den W (.mt m o es)).a σ μ = (((den W o).a σ μ).bind (k_mt_a W m es σ)) := rfl
@[simp] theorem den_mt_t (m : Mt) (o es : X) : (den W (.mt m o es)).t σ μ = ((den W (.mt m o es)).a σ μ).bind kTru := rfl
@[simp] theorem den_mt_i (m : Mt) (o es : X) : (den W (.mt m o es)).i σ μ = ((den W (.mt m o es)).a σ μ).bind kIt := rfl
@[simp] theorem den_app_a (o e : X) : (den W (.app o e)).a σ μ = (((den W o).a σ μ).bind (k_app_a W e σ)) := rfl
@[simp] theorem den_app_t (o e : X) : (den W (.app o e)).t σ μ = ((den W (.app o e)).a σ μ).bind kTru := rfl
@[simp] theorem den_app_i (o e : X) : (den W (.app o e)).i σ μ = ((den W (.app o e)).a σ μ).bind kIt := rfl
@[simp] theorem den_comp_a (tg : Tg) (it cond elt : X) : (den W (.comp tg it cond elt)).a σ μ = (((den W it).i σ μ).bind (k_comp_a W tg cond elt σ)) := rfl
@[simp] theorem den_comp_t (tg : Tg) (it cond elt : X) : (den W (.comp tg it cond elt)).t σ μ = ((den W (.comp tg it cond elt)).a σ μ).bind kTru := rfl
@[simp] theorem den_comp_i (tg : Tg) (it cond elt : X) : (den W (.comp tg it cond elt)).i σ μ = ((den W (.comp tg it cond elt)).a σ μ).bind kIt := rfl
@[simp] theorem den_rng_i (es : X) : (den W (.rng es)).i σ μ = (((den W es).g σ μ).bind k_rng_i) := rfl
@[simp] theorem den_rev_a (a : X) : (den W (.rev a)).a σ μ = (((den W a).a σ μ).bind k_rev_a) := rfl
@[simp] theorem den_rev_t (a : X) : (den W (.rev a)).t σ μ = ((den W (.rev a)).a σ μ).bind kTru := rfl
@[simp] theorem den_rev_i (a : X) : (den W (.rev a)).i σ μ = ((den W (.rev a)).a σ μ).bind kIt := rfl
@[simp] theorem den_sortL_a (a : X) : (den W (.sortL a)).a σ μ = (((den W a).a σ μ).bind k_sortL_a) := rfl
@[simp] theorem den_sortL_t (a : X) : (den W (.sortL a)).t σ μ = ((den W (.sortL a)).a σ μ).bind kTru := rfl
@[simp] theorem den_sortL_i (a : X) : (den W (.sortL a)).i σ μ = ((den W (.sortL a)).a σ μ).bind kIt := rfl
@[simp] theorem den_sortSet_a (a : X) : (den W (.sortSet a)).a σ μ = (((den W a).a σ μ).bind k_sortSet_a) := rfl
@[simp] theorem den_sortSet_t (a : X) : (den W (.sortSet a)).t σ μ = ((den W (.sortSet a)).a σ μ).bind kTru := rfl
@[simp] theorem den_sortSet_i (a : X) : (den W (.sortSet a)).i σ μ = ((den W (.sortSet a)).a σ μ).bind kIt := rfl
@[simp] theorem den_heard_a (g : String) (body : X) : (den W (.heard g body)).a σ μ = (heardO (W.hrd g) ((den W body).f σ μ)) := rfl
@[simp] theorem den_heard_t (g : String) (body : X) : (den W (.heard g body)).t σ μ = ((den W (.heard g body)).a σ μ).bind kTru := rfl
@[simp] theorem den_heard_i (g : String) (body : X) : (den W (.heard g body)).i σ μ = ((den W (.heard g body)).a σ μ).bind kIt := rfl
end
/-! ### statements -/
inductive S where
  | nil | seq (s t : S)
  | asg (tg : Tg) (e : X)
  | par2 (i j : Nat) (a b : X) | par3 (i j k : Nat) (a b c : X)
  | setIx (o i e : X)
  | expr (e : X)
  | ife (c : X) (s t : S)
  | forr (tg : Tg) (it : X) (s : S)
  | whil (c : X) (s : S)
  | ret (e : X) | retN | raise (c : String) (e : X) | pass | brk | cont
inductive Fl where
  | nx (σ : Sg) | rt (p : PV) | bk (σ : Sg) | ct (σ : Sg)
def Fl.then (f : Fl) (k : Sg → Mu → Out Fl) (μ : Mu) : Out Fl := match f with
  | .nx σ => k σ μ
  | f => .ok f μ
@[simp] theorem then_nx (σ : Sg) (k : Sg → Mu → Out Fl) (μ : Mu) : (Fl.nx σ).then k μ = k σ μ := rfl
@[simp] theorem then_rt (p : PV) (k : Sg → Mu → Out Fl) (μ : Mu) : (Fl.rt p).then k μ = .ok (.rt p) μ := rfl
@[simp] theorem then_bk (σ : Sg) (k : Sg → Mu → Out Fl) (μ : Mu) : (Fl.bk σ).then k μ = .ok (.bk σ) μ := rfl
@[simp] theorem then_ct (σ : Sg) (k : Sg → Mu → Out Fl) (μ : Mu) : (Fl.ct σ).then k μ = .ok (.ct σ) μ := rfl
/-- behind a loop's turn: go on, or end -/
def Fl.turn (f : Fl) (k : Sg → Mu → Out Fl) (μ : Mu) : Out Fl := match f with
  | .nx σ => k σ μ
  | .ct σ => k σ μ
  | .bk σ => .ok (.nx σ) μ
  | .rt p => .ok (.rt p) μ
@[simp] theorem turn_nx (σ : Sg) (k : Sg → Mu → Out Fl) (μ : Mu) : (Fl.nx σ).turn k μ = k σ μ := rfl
@[simp] theorem turn_ct (σ : Sg) (k : Sg → Mu → Out Fl) (μ : Mu) : (Fl.ct σ).turn k μ = k σ μ := rfl
@[simp] theorem turn_bk (σ : Sg) (k : Sg → Mu → Out Fl) (μ : Mu) : (Fl.bk σ).turn k μ = .ok (.nx σ) μ := rfl
@[simp] theorem turn_rt (p : PV) (k : Sg → Mu → Out Fl) (μ : Mu) : (Fl.rt p).turn k μ = .ok (.rt p) μ := rfl
def forLoop (μ0 : Mu) (src : List Nat) (body : PV → Sg → Mu → Out Fl) : List PV → Sg → Mu → Out Fl
  | [], σ, μ => if stay μ0 μ src then .ok (.nx σ) μ else .bad
  | x :: xs, σ, μ => if stay μ0 μ src then (body x σ μ).bind fun f μ1 => f.turn (fun σ μ => forLoop μ0 src body xs σ μ) μ1 else .bad
def whileLoop (test : Sg → Mu → Out Bool) (body : Sg → Mu → Out Fl) : Nat → Sg → Mu → Out Fl
  | 0, _, _ => .bad
  | n + 1, σ, μ => (test σ μ).bind fun c μ1 => if c = true then (body σ μ1).bind fun f μ2 => f.turn (fun σ μ => whileLoop test body n σ μ) μ2 else .ok (.nx σ) μ1
def setIxA (o i : Ag) (p : PV) (μ : Mu) : Option Mu := match o, i with
  | .v (.ref n), .v (.int k) => (match μ[n]? with
    | some (.lst xs) => (match ixN xs.length k with
      | some j => some (μ.set n (.lst (xs.set j p)))
      | none => none)
    | _ => none)
  | _, _ => none
def liftU (o : Option Mu) (σ : Sg) : Out Fl := match o with
  | some μ => .ok (.nx σ) μ
  | none => .bad
@[simp] theorem liftU_some (μ : Mu) (σ : Sg) : liftU (some μ) σ = .ok (.nx σ) μ := rfl
def ex (W : Wd) : S → Sg → Mu → Out Fl
  | .nil => fun σ μ => .ok (.nx σ) μ
  | .seq s t => fun σ μ => (ex W s σ μ).bind fun f μ1 => f.then (fun σ μ => ex W t σ μ) μ1
  | .asg tg e => fun σ μ => ((den W e).f σ μ).bind fun p μ1 => (lift (tg.put p σ) μ1).bind fun σ1 μ1 => .ok (.nx σ1) μ1
  | .par2 i j a b => fun σ μ => ((den W a).f σ μ).bind fun x μ1 => ((den W b).f σ μ1).bind fun y μ2 => .ok (.nx ((σ.set i (some x)).set j (some y))) μ2
  | .par3 i j k a b c => fun σ μ => ((den W a).f σ μ).bind fun x μ1 => ((den W b).f σ μ1).bind fun y μ2 => ((den W c).f σ μ2).bind fun z μ3 => .ok (.nx (((σ.set i (some x)).set j (some y)).set k (some z))) μ3
  | .setIx o i e => fun σ μ => ((den W e).f σ μ).bind fun p μ1 => ((den W o).a σ μ1).bind fun x μ2 => ((den W i).a σ μ2).bind fun y μ3 => liftU (setIxA x y p μ3) σ
  | .expr e => fun σ μ => ((den W e).a σ μ).bind fun _ μ1 => .ok (.nx σ) μ1
  | .ife c s t => fun σ μ => ((den W c).t σ μ).bind fun k μ1 => if k = true then ex W s σ μ1 else ex W t σ μ1
  | .forr tg it s => fun σ μ => ((den W it).i σ μ).bind fun xs μ1 => forLoop μ1 xs.2 (fun x σ μ => (lift (tg.put x σ) μ).bind fun σ1 μ => ex W s σ1 μ) xs.1 σ μ1
  | .whil c s => fun σ μ => whileLoop (fun σ μ => (den W c).t σ μ) (fun σ μ => ex W s σ μ) W.fuel σ μ
  | .ret e => fun σ μ => ((den W e).f σ μ).bind fun p μ1 => .ok (.rt p) μ1
  | .retN => fun σ μ => .ok (.rt .non) μ
  | .raise c e => fun σ μ => ((den W e).f σ μ).bind fun p μ1 => if c ∈ W.cls then .exc c p μ1 else .bad
  | .pass => fun σ μ => .ok (.nx σ) μ
  | .brk => fun σ μ => .ok (.bk σ) μ
  | .cont => fun σ μ => .ok (.ct σ) μ
def kx_fb (W : Wd) (s : S) : Sg → Mu → Out Fl := fun σ μ => ex W s σ μ
@[simp] theorem kx_fb_eq (W : Wd) (s : S) (σ : Sg) (μ : Mu) : kx_fb W s σ μ = ex W s σ μ := rfl
def forBody (W : Wd) (tg : Tg) (s : S) : PV → Sg → Mu → Out Fl := fun x σ μ => (lift (tg.put x σ) μ).bind (kx_fb W s)
@[simp] theorem forBody_eq (W : Wd) (tg : Tg) (s : S) (x : PV) (σ : Sg) (μ : Mu) : forBody W tg s x σ μ = (lift (tg.put x σ) μ).bind (kx_fb W s) := rfl
def kx_seq (W : Wd) (t : S) : Fl → Mu → Out Fl := fun f μ1 => f.then (ex W t) μ1
def kx_asg'  : Sg → Mu → Out Fl := fun σ1 μ1 => .ok (.nx σ1) μ1
def kx_asg (tg : Tg) (σ : Sg) : PV → Mu → Out Fl := fun p μ1 => (lift (tg.put p σ) μ1).bind kx_asg'
def kx_par2' (i : Nat) (j : Nat) (σ : Sg) (x : PV) : PV → Mu → Out Fl := fun y μ2 => .ok (.nx ((σ.set i (some x)).set j (some y))) μ2
def kx_par2 (W : Wd) (i : Nat) (j : Nat) (b : X) (σ : Sg) : PV → Mu → Out Fl := fun x μ1 => ((den W b).f σ μ1).bind (kx_par2' i j σ x)
def kx_par3'' (i : Nat) (j : Nat) (k : Nat) (σ : Sg) (x : PV) (y : PV) : PV → Mu → Out Fl := fun z μ3 => .ok (.nx (((σ.set i (some x)).set j (some y)).set k (some z))) μ3
def kx_par3' (W : Wd) (i : Nat) (j : Nat) (k : Nat) (c : X) (σ : Sg) (x : PV) : PV → Mu → Out Fl := fun y μ2 => ((den W c).f σ μ2).bind (kx_par3'' i j k σ x y)
def kx_par3 (W : Wd) (i : Nat) (j : Nat) (k : Nat) (b : X) (c : X) (σ : Sg) : PV → Mu → Out Fl := fun x μ1 => ((den W b).f σ μ1).bind (kx_par3' W i j k c σ x)
def kx_setIx'' (σ : Sg) (p : PV) (x : Ag) : Ag → Mu → Out Fl := fun y μ3 => liftU (setIxA x y p μ3) σ
def kx_setIx' (W : Wd) (i : X) (σ : Sg) (p : PV) : Ag → Mu → Out Fl := fun x μ2 => ((den W i).a σ μ2).bind (kx_setIx'' σ p x)
def kx_setIx (W : Wd) (o : X) (i : X) (σ : Sg) : PV → Mu → Out Fl := fun p μ1 => ((den W o).a σ μ1).bind (kx_setIx' W i σ p)
def kx_expr (σ : Sg) : Ag → Mu → Out Fl := fun u_ μ1 => .ok (.nx σ) μ1
def kx_ife (W : Wd) (s : S) (t : S) (σ : Sg) : Bool → Mu → Out Fl := fun k μ1 => if k = true then ex W s σ μ1 else ex W t σ μ1
def kx_forr (W : Wd) (tg : Tg) (s : S) (σ : Sg) : Its → Mu → Out Fl := fun xs μ1 => forLoop μ1 xs.2 (forBody W tg s) xs.1 σ μ1
def kx_ret  : PV → Mu → Out Fl := fun p μ1 => .ok (.rt p) μ1
def kx_raise (W : Wd) (c : String) : PV → Mu → Out Fl := fun p μ1 => if c ∈ W.cls then .exc c p μ1 else .bad
@[simp] theorem kx_seq_eq (W : Wd) (t : S) (f : Fl) (μ1 : Mu) : kx_seq W t f μ1 = (f.then (ex W t) μ1) := rfl
@[simp] theorem kx_asg'_eq  (σ1 : Sg) (μ1 : Mu) : kx_asg'  σ1 μ1 = (.ok (.nx σ1) μ1) := rfl
@[simp] theorem kx_asg_eq (tg : Tg) (σ : Sg) (p : PV) (μ1 : Mu) : kx_asg tg σ p μ1 = ((lift (tg.put p σ) μ1).bind kx_asg') := rfl
@[simp] theorem kx_par2'_eq (i : Nat) (j : Nat) (σ : Sg) (x : PV) (y : PV) (μ2 : Mu) : kx_par2' i j σ x y μ2 = (.ok (.nx ((σ.set i (some x)).set j (some y))) μ2) := rfl
@[simp] theorem kx_par2_eq (W : Wd) (i : Nat) (j : Nat) (b : X) (σ : Sg) (x : PV) (μ1 : Mu) : kx_par2 W i j b σ x μ1 = (((den W b).f σ μ1).bind (kx_par2' i j σ x)) := rfl
@[simp] theorem kx_par3''_eq (i : Nat) (j : Nat) (k : Nat) (σ : Sg) (x : PV) (y : PV) (z : PV) (μ3 : Mu) : kx_par3'' i j k σ x y z μ3 = (.ok (.nx (((σ.set i (some x)).set j (some y)).set k (some z))) μ3) := rfl
@[simp] theorem kx_par3'_eq (W : Wd) (i : Nat) (j : Nat) (k : Nat) (c : X) (σ : Sg) (x : PV) (y : PV) (μ2 : Mu) : kx_par3' W i j k c σ x y μ2 = (((den W c).f σ μ2).bind (kx_par3'' i j k σ x y)) := rfl
@[simp] theorem kx_par3_eq (W : Wd) (i : Nat) (j : Nat) (k : Nat) (b : X) (c : X) (σ : Sg) (x : PV) (μ1 : Mu) : kx_par3 W i j k b c σ x μ1 = (((den W b).f σ μ1).bind (kx_par3' W i j k c σ x)) := rfl
@[simp] theorem kx_setIx''_eq (σ : Sg) (p : PV) (x : Ag) (y : Ag) (μ3 : Mu) : kx_setIx'' σ p x y μ3 = (liftU (setIxA x y p μ3) σ) := rfl
@[simp] theorem kx_setIx'_eq (W : Wd) (i : X) (σ : Sg) (p : PV) (x : Ag) (μ2 : Mu) : kx_setIx' W i σ p x μ2 = (((den W i).a σ μ2).bind (kx_setIx'' σ p x)) := rfl
@[simp] theorem kx_setIx_eq (W : Wd) (o : X) (i : X) (σ : Sg) (p : PV) (μ1 : Mu) : kx_setIx W o i σ p μ1 = (((den W o).a σ μ1).bind (kx_setIx' W i σ p)) := rfl
@[simp] theorem kx_expr_eq (σ : Sg) (u_ : Ag) (μ1 : Mu) : kx_expr σ u_ μ1 = (.ok (.nx σ) μ1) := rfl
@[simp] theorem kx_ife_eq (W : Wd) (s : S) (t : S) (σ : Sg) (k : Bool) (μ1 : Mu) : kx_ife W s t σ k μ1 = (if k = true then ex W s σ μ1 else ex W t σ μ1) := rfl
@[simp] theorem kx_forr_eq (W : Wd) (tg : Tg) (s : S) (σ : Sg) (xs : Its) (μ1 : Mu) : kx_forr W tg s σ xs μ1 = (forLoop μ1 xs.2 (forBody W tg s) xs.1 σ μ1) := rfl
@[simp] theorem kx_ret_eq  (p : PV) (μ1 : Mu) : kx_ret  p μ1 = (.ok (.rt p) μ1) := rfl
@[simp] theorem kx_raise_eq (W : Wd) (c : String) (p : PV) (μ1 : Mu) : kx_raise W c p μ1 = (if c ∈ W.cls then .exc c p μ1 else .bad) := rfl
section
variable (W : Wd) (σ : Sg) (μ : Mu)
@[simp] theorem ex_nil  : ex W (.nil) σ μ = (.ok (.nx σ) μ) := rfl
@[simp] theorem ex_seq (s t : S) : ex W (.seq s t) σ μ = ((ex W s σ μ).bind (kx_seq W t)) := rfl
@[simp] theorem ex_asg (tg : Tg) (e : X) : ex W (.asg tg e) σ μ = (((den W e).f σ μ).bind (kx_asg tg σ)) := rfl
@[simp] theorem ex_par2 (i j : Nat) (a b : X) : ex W (.par2 i j a b) σ μ = (((den W a).f σ μ).bind (kx_par2 W i j b σ)) := rfl
@[simp] theorem ex_par3 (i j k : Nat) (a b c : X) : ex W (.par3 i j k a b c) σ μ = (((den W a).f σ μ).bind (kx_par3 W i j k b c σ)) := rfl
@[simp] theorem ex_setIx (o i e : X) : ex W (.setIx o i e) σ μ = (((den W e).f σ μ).bind (kx_setIx W o i σ)) := rfl
@[simp] theorem ex_expr (e : X) : ex W (.expr e) σ μ = (((den W e).a σ μ).bind (kx_expr σ)) := rfl
@[simp] theorem ex_ife (c : X) (s t : S) : ex W (.ife c s t) σ μ = (((den W c).t σ μ).bind (kx_ife W s t σ)) := rfl
@[simp] theorem ex_forr (tg : Tg) (it : X) (s : S) : ex W (.forr tg it s) σ μ = (((den W it).i σ μ).bind (kx_forr W tg s σ)) := rfl
@[simp] theorem ex_whil (c : X) (s : S) : ex W (.whil c s) σ μ = (whileLoop (den W c).t (ex W s) W.fuel σ μ) := rfl
@[simp] theorem ex_ret (e : X) : ex W (.ret e) σ μ = (((den W e).f σ μ).bind kx_ret) := rfl
@[simp] theorem ex_retN  : ex W (.retN) σ μ = (.ok (.rt .non) μ) := rfl
@[simp] theorem ex_raise (c : String) (e : X) : ex W (.raise c e) σ μ = (((den W e).f σ μ).bind (kx_raise W c)) := rfl
@[simp] theorem ex_pass  : ex W (.pass) σ μ = (.ok (.nx σ) μ) := rfl
@[simp] theorem ex_brk  : ex W (.brk) σ μ = (.ok (.bk σ) μ) := rfl
@[simp] theorem ex_cont  : ex W (.cont) σ μ = (.ok (.ct σ) μ) := rfl
end
/-! ### defs -/
/-- its parameters, its names by slot, its body -/
structure Fd where
  ps : List Str
  N : List Str
  body : S
structure Gm where
  fns : List (String × Fd)
  hrd : List (String × Hrd)
  con : List (String × PV)
  cls : List String
  fuel : Nat
def outO (f : Fl) (μ : Mu) : Out PV := match f with
  | .nx _ => .ok .non μ
  | .rt p => .ok p μ
  | _ => .bad
@[simp] theorem outO_nx (σ : Sg) (μ : Mu) : outO (.nx σ) μ = .ok .non μ := rfl
@[simp] theorem outO_rt (p : PV) (μ : Mu) : outO (.rt p) μ = .ok p μ := rfl
def wd (G : Gm) (c : String → List PV → Mu → Out PV) : Wd := ⟨c, fun g => G.hrd.lookup g, fun x => G.con.lookup x, G.cls, G.fuel⟩
@[simp] theorem wd_call (G : Gm) (c : String → List PV → Mu → Out PV) : (wd G c).call = c := rfl
@[simp] theorem wd_hrd (G : Gm) (c : String → List PV → Mu → Out PV) (g : String) : (wd G c).hrd g = G.hrd.lookup g := rfl
@[simp] theorem wd_con (G : Gm) (c : String → List PV → Mu → Out PV) (g : String) : (wd G c).con g = G.con.lookup g := rfl
@[simp] theorem wd_cls (G : Gm) (c : String → List PV → Mu → Out PV) : (wd G c).cls = G.cls := rfl
@[simp] theorem wd_fuel (G : Gm) (c : String → List PV → Mu → Out PV) : (wd G c).fuel = G.fuel := rfl
def callN (G : Gm) : Nat → String → List PV → Mu → Out PV
  | 0, _, _, _ => .bad
  | n + 1, f, args, μ => match G.fns.lookup f with
    | some d => if args.length = d.ps.length then (ex (wd G (callN G n)) d.body (args.map some ++ List.replicate (d.N.length - d.ps.length) none) μ).bind outO else .bad
    | none => .bad
theorem callN_eq {G : Gm} (n : Nat) {f : String} {d : Fd} {args : List PV} {μ : Mu} (h : G.fns.lookup f = some d) (hl : args.length = d.ps.length) :
    callN G (n + 1) f args μ = (ex (wd G (callN G n)) d.body (args.map some ++ List.replicate (d.N.length - d.ps.length) none) μ).bind outO := by
  simp only [callN, h, if_pos hl]
end
end Ev

set_option Elab.async false
set_option linter.all false
set_option maxRecDepth 100000
/-! EvB: what stands in the model's heap for the evaluator's values; how it lasts. Own work. -/
namespace Ev
open PySem PySem.Spec PyProof.Rows L2
/-! ### the outcome is as wanted -/
def Out.sat {α : Type} (o : Out α) (P : α → Mu → Prop) (E : String → PV → Mu → Prop) : Prop := match o with
  | .ok a μ => P a μ
  | .exc c w μ => E c w μ
  | .bad => False
theorem sat_bind {α β : Type} {o : Out α} {f : α → Mu → Out β} {P : β → Mu → Prop} {E : String → PV → Mu → Prop} (h : (o.bind f).sat P E) : o.sat (fun a μ => (f a μ).sat P E) E := by
  cases o <;> exact h
theorem sat_mono {α : Type} {o : Out α} {P P' : α → Mu → Prop} {E E' : String → PV → Mu → Prop} (h : o.sat P E) (hp : ∀ a μ, P a μ → P' a μ) (he : ∀ c w μ, E c w μ → E' c w μ) : o.sat P' E' := by
  cases o with
  | ok a μ => exact hp _ _ h
  | exc c w μ => exact he _ _ _ h
  | bad => exact h
theorem sat_lift {α : Type} {o : Option α} {μ : Mu} {P : α → Mu → Prop} {E : String → PV → Mu → Prop} (h : (lift o μ).sat P E) : ∃ a, o = some a ∧ P a μ := by
  cases o with
  | none => exact h.elim
  | some a => exact ⟨a, rfl, h⟩
theorem sat_liftM {α : Type} {o : Option (α × Mu)} {P : α → Mu → Prop} {E : String → PV → Mu → Prop} (h : (liftM o).sat P E) : ∃ a μ, o = some (a, μ) ∧ P a μ := by
  cases o with
  | none => exact h.elim
  | some a => exact ⟨a.1, a.2, rfl, h⟩
theorem sat_if {α : Type} {c : Prop} [Decidable c] {o : Out α} {P : α → Mu → Prop} {E : String → PV → Mu → Prop} (h : (if c then o else .bad).sat P E) : c ∧ o.sat P E := by
  by_cases hc : c
  · rw [if_pos hc] at h; exact ⟨hc, h⟩
  · rw [if_neg hc] at h; exact h.elim
/-! ### values in the heap -/
/-- the tables of code objects that stand in the heap, each with its name -/
class Tb where
  T : List (Addr × Str)
variable [Tb]
/-- anything but such a table -/
def Pr (o : HO) : Prop := ∀ ps, o ≠ .tbl ps
theorem pr_lst {ys : List V} : Pr (.lst ys) := fun _ z => nomatch z
theorem pr_tup {ys : List V} : Pr (.tup ys) := fun _ z => nomatch z
theorem pr_frz {o : Obj} {u : HO} : Pr (.frz o u) := fun _ z => nomatch z
section
variable (K : PySem.W.Frag)
def FrzAt (H : Hp) (a : Addr) (ns : List Int) : Prop :=
  (∃ o, H a = some (.frz o (.lst (ns.map V.int)))) ∨
    ∃ (o : Obj) (its : Array Value) (n : Nat), K.lookup a = some o ∧ o.cls = .type "list" ∧ o.dict = none ∧ o.data = .seq its n ∧ its.size ≤ sizeLine ∧ Vals (ns.map V.int) its.toList
theorem FrzAt.seq {K : PySem.W.Frag} {H : Hp} {a : Addr} {ns : List Int} (h : FrzAt K H a ns) : SqL K H a (ns.map V.int) := h.imp (fun h => .inr h) id
def RV (ρ : List Addr) (H : Hp) : PV → V → Prop
  | .non, v => v = .non
  | .bl b, v => v = .bl b
  | .int i, v => v = .int i
  | .str s, v => v = .str s
  | .tup xs, v => ∃ a ys, v = .ref a ∧ SqT K H a ys ∧ RV.all ρ H xs ys
  | .ref n, v => ∃ a, v = .ref a ∧ ρ[n]? = some a
  | .frz ns, v => ∃ a, v = .ref a ∧ FrzAt K H a ns
where all (ρ : List Addr) (H : Hp) : List PV → List V → Prop
  | [], ys => ys = []
  | x :: xs, ys => ∃ y r, ys = y :: r ∧ RV ρ H x y ∧ RV.all ρ H xs r
abbrev RVs := RV.all
def MOk (ρ : List Addr) (H : Hp) (a : Addr) : MO → Prop
  | .lst xs => ∃ ys, H a = some (.lst ys) ∧ RVs K ρ H xs ys
  | .dct _ => False
structure Rel (ρ : List Addr) (μ : Mu) (H : Hp) : Prop where
  nd : ρ.Nodup
  len : ρ.length = μ.length
  at_ : ∀ (i : Nat) (o : MO), μ[i]? = some o → ∃ a, ρ[i]? = some a ∧ MOk K ρ H a o
  tabs : LamX.Tabs Tb.T H
structure Post (ρ : List Addr) (H : Hp) (ρ' : List Addr) (μ' : Mu) (H' : Hp) : Prop where
  pre : ∃ t, ρ' = ρ ++ t
  rel : Rel K ρ' μ' H'
  frm : ∀ a o, H a = some o → Pr o → a ∉ ρ → H' a = some o
  out : ∀ a o, H a = some o → Pr o → a ∉ ρ → a ∉ ρ'
def RA (H0 : Hp) (ρ : List Addr) (H : Hp) : Ag → V → Prop
  | .v p, v => RV K ρ H p v
  | .l xs, v => ∃ a ys, v = .ref a ∧ H a = some (.lst ys) ∧ RVs K ρ H xs ys ∧ a ∉ ρ ∧ ∀ o, H0 a = some o → ¬ Pr o
def RAs (H0 : Hp) (ρ : List Addr) (H : Hp) : List Ag → List V → Prop
  | [], ys => ys = []
  | x :: xs, ys => ∃ y r, ys = y :: r ∧ RA K H0 ρ H x y ∧ RAs H0 ρ H xs r
structure RS (ρ : List Addr) (H : Hp) (σp : Sg) (σ : L2.St) : Prop where
  len : σ.length = σp.length
  at_ : ∀ (i : Nat) (p : PV), σp[i]? = some (some p) → ∃ v, σ[i]? = some (some v) ∧ RV K ρ H p v
end
section
variable {K : PySem.W.Frag} {ρ ρ' ρ1 ρ2 : List Addr} {H H' H1 H2 H0 : Hp} {μ μ' μ1 μ2 : Mu}
theorem Rel.lst (R : Rel K ρ μ H) {a : Addr} (h : a ∈ ρ) : ∃ ys, H a = some (.lst ys) := by
  obtain ⟨i, hi, e⟩ := List.mem_iff_getElem.mp h
  have hm : i < μ.length := by rw [← R.len]; exact hi
  obtain ⟨b, hb, mo⟩ := R.at_ i μ[i] (List.getElem?_eq_getElem hm)
  rw [List.getElem?_eq_getElem hi, e] at hb
  cases hb
  cases ho : μ[i] with
  | lst xs =>
    rw [ho] at mo
    obtain ⟨ys, q, _⟩ := mo
    exact ⟨ys, q⟩
  | dct kvs =>
    rw [ho] at mo
    exact mo.elim
/-- what lasts: tuples, the script, the numbers of objects -/
structure Las (K : PySem.W.Frag) (ρ : List Addr) (H : Hp) (ρ' : List Addr) (H' : Hp) : Prop where
  pre : ∃ t, ρ' = ρ ++ t
  tup : ∀ a ys, SqT K H a ys → SqT K H' a ys
  frz : ∀ a ns, FrzAt K H a ns → FrzAt K H' a ns
theorem Las.refl : Las K ρ H ρ H := ⟨⟨[], by simp⟩, fun _ _ h => h, fun _ _ h => h⟩
theorem Las.trans (a : Las K ρ H ρ1 H1) (b : Las K ρ1 H1 ρ2 H2) : Las K ρ H ρ2 H2 := by
  obtain ⟨t, e⟩ := a.pre
  obtain ⟨u, e'⟩ := b.pre
  exact ⟨⟨t ++ u, by rw [e', e, List.append_assoc]⟩, fun x ys h => b.tup x ys (a.tup x ys h), fun x ns h => b.frz x ns (a.frz x ns h)⟩
theorem Las.get (L : Las K ρ H ρ' H') {n : Nat} {a : Addr} (h : ρ[n]? = some a) : ρ'[n]? = some a := by
  obtain ⟨t, e⟩ := L.pre
  rw [e, List.getElem?_append_left (List.getElem?_eq_some_iff.mp h).1]
  exact h
theorem Las.mem (L : Las K ρ H ρ' H') {a : Addr} (h : a ∈ ρ) : a ∈ ρ' := by
  obtain ⟨t, e⟩ := L.pre
  rw [e]; exact List.mem_append_left _ h
mutual
theorem RV.las (L : Las K ρ H ρ' H') : ∀ (p : PV) (v : V), RV K ρ H p v → RV K ρ' H' p v
  | .non, _, h => by simpa [RV] using h
  | .bl _, _, h => by simpa [RV] using h
  | .int _, _, h => by simpa [RV] using h
  | .str _, _, h => by simpa [RV] using h
  | .tup xs, _, h => by
    simp only [RV] at h ⊢
    obtain ⟨a, ys, e, s, r⟩ := h
    exact ⟨a, ys, e, L.tup a ys s, RVs.las L xs ys r⟩
  | .ref n, _, h => by
    simp only [RV] at h ⊢
    obtain ⟨a, e, s⟩ := h
    exact ⟨a, e, L.get s⟩
  | .frz ns, _, h => by
    simp only [RV] at h ⊢
    obtain ⟨a, e, s⟩ := h
    exact ⟨a, e, L.frz a ns s⟩
theorem RVs.las (L : Las K ρ H ρ' H') : ∀ (xs : List PV) (ys : List V), RVs K ρ H xs ys → RVs K ρ' H' xs ys
  | [], _, h => by simpa [RV.all] using h
  | x :: xs, _, h => by
    simp only [RV.all] at h ⊢
    obtain ⟨y, r, e, h1, h2⟩ := h
    exact ⟨y, r, e, RV.las L x y h1, RVs.las L xs r h2⟩
end
theorem Post.las (R : Rel K ρ μ H) (P : Post K ρ H ρ' μ' H') : Las K ρ H ρ' H' := by
  have key : ∀ a o, H a = some o → (∀ ys, o ≠ .lst ys) → Pr o → H' a = some o := fun a o e n pr => P.frm a o e pr fun z => by
    obtain ⟨ys, q⟩ := R.lst z
    rw [e] at q
    exact n ys (Option.some.inj q)
  refine ⟨P.pre, fun a ys h => ?_, fun a ns h => ?_⟩
  · rcases h with (h | ⟨o, h⟩) | h
    · exact .inl (.inl (key a _ h (fun _ z => nomatch z) pr_tup))
    · exact .inl (.inr ⟨o, key a _ h (fun _ z => nomatch z) pr_frz⟩)
    · exact .inr h
  · rcases h with ⟨o, h⟩ | h
    · exact .inl ⟨o, key a _ h (fun _ z => nomatch z) pr_frz⟩
    · exact .inr h
theorem Post.refl (R : Rel K ρ μ H) : Post K ρ H ρ μ H := ⟨⟨[], by simp⟩, R, fun _ _ h _ _ => h, fun _ _ _ _ n => n⟩
theorem Post.mem (P : Post K ρ H ρ' μ' H') {a : Addr} (h : a ∈ ρ) : a ∈ ρ' := by
  obtain ⟨t, e⟩ := P.pre
  rw [e]; exact List.mem_append_left _ h
theorem Post.trans (P : Post K ρ H ρ1 μ1 H1) (Q : Post K ρ1 H1 ρ2 μ2 H2) : Post K ρ H ρ2 μ2 H2 := by
  obtain ⟨t, e⟩ := P.pre
  obtain ⟨u, e'⟩ := Q.pre
  exact ⟨⟨t ++ u, by rw [e', e, List.append_assoc]⟩, Q.rel, fun a o h pr n => Q.frm a o (P.frm a o h pr n) pr (P.out a o h pr n), fun a o h pr n => Q.out a o (P.frm a o h pr n) pr (P.out a o h pr n)⟩
theorem RA.post {x : Ag} {v : V} (R : Rel K ρ1 μ1 H1) (P : Post K ρ1 H1 ρ2 μ2 H2) (h : RA K H0 ρ1 H1 x v) : RA K H0 ρ2 H2 x v := by
  cases x with
  | v p => exact RV.las (P.las R) p v h
  | l xs =>
    obtain ⟨a, ys, e, e1, r, n, f⟩ := h
    exact ⟨a, ys, e, P.frm a _ e1 pr_lst n, RVs.las (P.las R) xs ys r, P.out a _ e1 pr_lst n, f⟩
/-- a list that is new behind H1 was new behind H -/
theorem RA.back {x : Ag} {v : V} (P : Post K ρ H ρ1 μ1 H1) (h : RA K H1 ρ2 H2 x v) (m : ∀ a, a ∈ ρ1 → a ∈ ρ2) : RA K H ρ2 H2 x v := by
  cases x with
  | v p => exact h
  | l xs =>
    obtain ⟨a, ys, e, e1, r, n, f⟩ := h
    refine ⟨a, ys, e, e1, r, n, ?_⟩
    exact fun o e2 pr => f o (P.frm a o e2 pr fun z => n (m a (P.mem z))) pr
theorem RAs.post (R : Rel K ρ1 μ1 H1) (P : Post K ρ1 H1 ρ2 μ2 H2) : ∀ {xs : List Ag} {vs : List V}, RAs K H0 ρ1 H1 xs vs → RAs K H0 ρ2 H2 xs vs
  | [], _, h => h
  | x :: xs, _, h => by
    obtain ⟨y, r, e, h1, h2⟩ := h
    exact ⟨y, r, e, h1.post R P, RAs.post R P h2⟩
theorem RAs.back (P : Post K ρ H ρ1 μ1 H1) (m : ∀ a, a ∈ ρ1 → a ∈ ρ2) : ∀ {xs : List Ag} {vs : List V}, RAs K H1 ρ2 H2 xs vs → RAs K H ρ2 H2 xs vs
  | [], _, h => h
  | x :: xs, _, h => by
    obtain ⟨y, r, e, h1, h2⟩ := h
    exact ⟨y, r, e, h1.back P m, RAs.back P m h2⟩
theorem RS.las {σp : Sg} {σ : L2.St} (L : Las K ρ H ρ' H') (h : RS K ρ H σp σ) : RS K ρ' H' σp σ := ⟨h.len, fun i p e => by
  obtain ⟨v, h1, h2⟩ := h.at_ i p e
  exact ⟨v, h1, RV.las L p v h2⟩⟩
theorem RS.set {σp : Sg} {σ : L2.St} {p : PV} {v : V} (h : RS K ρ H σp σ) (r : RV K ρ H p v) (i : Nat) : RS K ρ H (σp.set i (some p)) (σ.set i (some v)) := by
  refine ⟨by simp [h.len], fun j q e => ?_⟩
  by_cases hj : i = j
  · subst hj
    by_cases hl : i < σp.length
    · rw [List.getElem?_set_self hl] at e
      cases e
      exact ⟨v, by rw [List.getElem?_set_self (by rw [h.len]; exact hl)], r⟩
    · rw [List.getElem?_eq_none (by simpa using hl)] at e
      cases e
  · rw [List.getElem?_set_ne hj] at e
    obtain ⟨w, h1, h2⟩ := h.at_ j q e
    exact ⟨w, by rw [List.getElem?_set_ne hj]; exact h1, h2⟩
theorem RS.wipe {σp : Sg} {σ : L2.St} (h : RS K ρ H σp σ) : ∀ vs : List Nat, RS K ρ H (wipeP σp vs) (wipe σ vs)
  | [] => h
  | v :: vs => by
    have ih := RS.wipe h vs
    refine ⟨by simp [wipeP, L2.wipe, ih.len], fun j q e => ?_⟩
    simp only [wipeP] at e
    simp only [L2.wipe]
    by_cases hj : v = j
    · subst hj
      by_cases hl : v < (wipeP σp vs).length
      · rw [List.getElem?_set_self hl] at e
        cases e
      · rw [List.getElem?_eq_none (by simpa using hl)] at e
        cases e
    · rw [List.getElem?_set_ne hj] at e
      obtain ⟨w, h1, h2⟩ := ih.at_ j q e
      exact ⟨w, by rw [List.getElem?_set_ne hj]; exact h1, h2⟩
theorem nodup_get {α : Type} : ∀ {l : List α} {i j : Nat} {a : α}, l.Nodup → l[i]? = some a → l[j]? = some a → i = j
  | [], i, _, _, _, h, _ => by simp at h
  | x :: l, 0, 0, _, _, _, _ => rfl
  | x :: l, 0, j + 1, a, n, h, g => by
    simp at h g
    subst h
    exact absurd (List.mem_of_getElem? g) (List.nodup_cons.mp n).1
  | x :: l, i + 1, 0, a, n, h, g => by
    simp at h g
    subst g
    exact absurd (List.mem_of_getElem? h) (List.nodup_cons.mp n).1
  | x :: l, i + 1, j + 1, a, n, h, g => by
    simp at h g
    rw [nodup_get (List.nodup_cons.mp n).2 h g]
/-! ### a new object, a written list -/
/-- a new object that the evaluator does not number -/
theorem Post.fresh (R : Rel K ρ μ H) {p : Addr} {o : HO} (hp : H p = none) : Post K ρ H ρ μ (upd H p o) := by
  have ne : ∀ a u, H a = some u → a ≠ p := fun a u e => ne_of_none e hp
  have kp : ∀ a u, H a = some u → upd H p o a = some u := fun a u e => by rw [upd_ne (ne a u e)]; exact e
  have L : Las K ρ H ρ (upd H p o) := by
    refine ⟨⟨[], by simp⟩, fun a ys h => ?_, fun a ns h => ?_⟩
    · rcases h with (h | ⟨u, h⟩) | h
      · exact .inl (.inl (kp _ _ h))
      · exact .inl (.inr ⟨u, kp _ _ h⟩)
      · exact .inr h
    · rcases h with ⟨u, h⟩ | h
      · exact .inl ⟨u, kp _ _ h⟩
      · exact .inr h
  refine ⟨⟨[], by simp⟩, ⟨R.nd, R.len, fun i m e => ?_, R.tabs.ext kp⟩, fun a u e _ _ => kp a u e, fun a _ _ _ n => n⟩
  obtain ⟨a, ha, mo⟩ := R.at_ i m e
  refine ⟨a, ha, ?_⟩
  cases m with
  | lst xs =>
    obtain ⟨ys, q, r⟩ := mo
    exact ⟨ys, kp _ _ q, RVs.las L xs ys r⟩
  | dct _ => exact mo.elim
theorem Las.fresh {p : Addr} {o : HO} (hp : H p = none) : Las K ρ H ρ (upd H p o) := by
  have kp : ∀ a u, H a = some u → upd H p o a = some u := fun a u e => by rw [upd_ne (ne_of_none e hp)]; exact e
  refine ⟨⟨[], by simp⟩, fun a ys h => ?_, fun a ns h => ?_⟩
  · rcases h with (h | ⟨u, h⟩) | h
    · exact .inl (.inl (kp _ _ h))
    · exact .inl (.inr ⟨u, kp _ _ h⟩)
    · exact .inr h
  · rcases h with ⟨u, h⟩ | h
    · exact .inl ⟨u, kp _ _ h⟩
    · exact .inr h
/-- the list at ρ[n] is written -/
theorem Post.write (R : Rel K ρ μ H) {n : Nat} {a : Addr} {xs : List PV} {ys : List V} (ha : ρ[n]? = some a) (r : RVs K ρ H xs ys) : Post K ρ H ρ (μ.set n (.lst xs)) (upd H a (.lst ys)) := by
  have hm : a ∈ ρ := List.mem_of_getElem? ha
  obtain ⟨zs, hz⟩ := R.lst hm
  have kp : ∀ b u, H b = some u → b ≠ a → upd H a (.lst ys) b = some u := fun b u e h => by rw [upd_ne h]; exact e
  have nl : ∀ b u, H b = some u → (∀ ws, u ≠ .lst ws) → b ≠ a := fun b u e h z => by
    rw [z, hz] at e
    exact h zs (Option.some.inj e).symm
  have L : Las K ρ H ρ (upd H a (.lst ys)) := by
    refine ⟨⟨[], by simp⟩, fun b ws h => ?_, fun b ns h => ?_⟩
    · rcases h with (h | ⟨u, h⟩) | h
      · exact .inl (.inl (kp _ _ h (nl _ _ h fun _ z => nomatch z)))
      · exact .inl (.inr ⟨u, kp _ _ h (nl _ _ h fun _ z => nomatch z)⟩)
      · exact .inr h
    · rcases h with ⟨u, h⟩ | h
      · exact .inl ⟨u, kp _ _ h (nl _ _ h fun _ z => nomatch z)⟩
      · exact .inr h
  have tabs : LamX.Tabs Tb.T (upd H a (.lst ys)) := fun p hp => by
    obtain ⟨ps, h1, h2, h3⟩ := R.tabs p hp
    refine ⟨ps, kp _ _ h1 (nl _ _ h1 fun _ z => nomatch z), h2, fun pos cv hc => ?_⟩
    obtain ⟨c, e1, e2⟩ := h3 pos cv hc
    exact ⟨c, e1, kp _ _ e2 (nl _ _ e2 fun _ z => by
      unfold LamX.CodeO at z
      cases z)⟩
  refine ⟨⟨[], by simp⟩, ⟨R.nd, by simp [R.len], fun i m e => ?_, tabs⟩, fun b u e _ h => kp b u e (fun z => h (by rw [z]; exact hm)), fun b _ _ _ n' => n'⟩
  by_cases hi : n = i
  · subst hi
    have hl : n < μ.length := by
      rw [← R.len]
      exact (List.getElem?_eq_some_iff.mp ha).1
    rw [List.getElem?_set_self hl] at e
    cases e
    exact ⟨a, ha, ys, upd_same, RVs.las L xs ys r⟩
  · rw [List.getElem?_set_ne hi] at e
    obtain ⟨b, hb, mo⟩ := R.at_ i m e
    refine ⟨b, hb, ?_⟩
    have hne : b ≠ a := fun z => by
      rw [z] at hb
      exact hi (nodup_get R.nd ha hb)
    cases m with
    | lst ws =>
      obtain ⟨vs, q, r'⟩ := mo
      exact ⟨vs, kp _ _ q hne, RVs.las L ws vs r'⟩
    | dct _ => exact mo.elim
/-- a new list is numbered -/
theorem Post.num (R : Rel K ρ μ H) {a : Addr} {xs : List PV} {ys : List V} (ha : H a = some (.lst ys)) (n : a ∉ ρ) (r : RVs K ρ H xs ys) :
    Rel K (ρ ++ [a]) (μ ++ [.lst xs]) H ∧ Las K ρ H (ρ ++ [a]) H := by
  have L : Las K ρ H (ρ ++ [a]) H := ⟨⟨[a], rfl⟩, fun _ _ h => h, fun _ _ h => h⟩
  refine ⟨⟨?_, by simp [R.len], fun i m e => ?_, R.tabs⟩, L⟩
  · rw [List.nodup_append]
    exact ⟨R.nd, by simp, fun x hx y hy z => by
      simp only [List.mem_singleton] at hy
      rw [z, hy] at hx
      exact n hx⟩
  · by_cases hi : i < μ.length
    · rw [List.getElem?_append_left hi] at e
      obtain ⟨b, hb, mo⟩ := R.at_ i m e
      refine ⟨b, L.get hb, ?_⟩
      cases m with
      | lst ws =>
        obtain ⟨vs, q, r'⟩ := mo
        exact ⟨vs, q, RVs.las L ws vs r'⟩
      | dct _ => exact mo.elim
    · have hi2 : i = μ.length := by
        have h3 := (List.getElem?_eq_some_iff.mp e).1
        simp at h3
        omega
      subst hi2
      rw [List.getElem?_append_right (Nat.le_refl _)] at e
      simp at e
      subst e
      refine ⟨a, ?_, ys, ha, RVs.las L xs ys r⟩
      rw [← R.len, List.getElem?_append_right (Nat.le_refl _)]
      simp
end
end Ev

set_option Elab.async false
set_option linter.all false
set_option maxRecDepth 100000
/-! EvC: operators and built-ins: what the evaluator tells is what the model does. Own work. -/
namespace Ev
open PySem PySem.Spec PyProof.Rows L2
variable [Tb]
section
variable {K : PySem.W.Frag} {ρ : List Addr} {H H0 : Hp} {μ : Mu}
theorem Rel.out (R : Rel K ρ μ H) {p : Addr} (hp : H p = none) : p ∉ ρ := fun z => by
  obtain ⟨ys, e⟩ := R.lst z
  rw [hp] at e; cases e
theorem RVs.ints : ∀ (ns : List Int), RVs K ρ H (ns.map .int) (ns.map V.int)
  | [] => rfl
  | n :: ns => ⟨_, _, rfl, rfl, RVs.ints ns⟩
theorem RVs.length : ∀ {xs : List PV} {ys : List V}, RVs K ρ H xs ys → xs.length = ys.length
  | [], _, h => by
    simp only [RV.all] at h
    rw [h] <;> rfl
  | x :: xs, _, h => by
    simp only [RV.all] at h
    obtain ⟨y, r, e, _, h2⟩ := h
    rw [e, List.length_cons, List.length_cons, RVs.length h2]
theorem RVs.get : ∀ {xs : List PV} {ys : List V} {i : Nat} {x : PV}, RVs K ρ H xs ys → xs[i]? = some x → ∃ y, ys[i]? = some y ∧ RV K ρ H x y
  | [], _, i, _, _, e => by simp at e
  | x :: xs, _, 0, _, h, e => by
    simp only [RV.all] at h
    obtain ⟨y, r, e', h1, _⟩ := h
    simp at e
    subst e e'
    exact ⟨y, rfl, h1⟩
  | x :: xs, _, i + 1, _, h, e => by
    simp only [RV.all] at h
    obtain ⟨y, r, e', _, h2⟩ := h
    subst e'
    obtain ⟨z, q, r'⟩ := RVs.get h2 (by simpa using e)
    exact ⟨z, by simpa using q, r'⟩
theorem RVs.append : ∀ {xs xs' : List PV} {ys ys' : List V}, RVs K ρ H xs ys → RVs K ρ H xs' ys' → RVs K ρ H (xs ++ xs') (ys ++ ys')
  | [], _, _, _, h, h' => by
    simp only [RV.all] at h
    subst h
    exact h'
  | x :: xs, _, _, _, h, h' => by
    simp only [RV.all] at h
    obtain ⟨y, r, e, h1, h2⟩ := h
    subst e
    exact ⟨y, _, rfl, h1, RVs.append h2 h'⟩
theorem RVs.take : ∀ {xs : List PV} {ys : List V} (n : Nat), RVs K ρ H xs ys → RVs K ρ H (xs.take n) (ys.take n)
  | _, _, 0, _ => by simp [RV.all]
  | [], _, n + 1, h => by
    simp only [RV.all] at h
    subst h
    simp [RV.all]
  | x :: xs, _, n + 1, h => by
    simp only [RV.all] at h
    obtain ⟨y, r, e, h1, h2⟩ := h
    subst e
    exact ⟨y, _, rfl, h1, RVs.take n h2⟩
theorem RVs.drop : ∀ {xs : List PV} {ys : List V} (n : Nat), RVs K ρ H xs ys → RVs K ρ H (xs.drop n) (ys.drop n)
  | _, _, 0, h => h
  | [], _, n + 1, h => by
    simp only [RV.all] at h
    subst h
    simp [RV.all]
  | x :: xs, _, n + 1, h => by
    simp only [RV.all] at h
    obtain ⟨y, r, e, h1, h2⟩ := h
    subst e
    exact RVs.drop n h2
theorem RVs.set : ∀ {xs : List PV} {ys : List V} {x : PV} {y : V} (i : Nat), RVs K ρ H xs ys → RV K ρ H x y → RVs K ρ H (xs.set i x) (ys.set i y)
  | [], _, _, _, i, h, _ => by
    simp only [RV.all] at h
    subst h
    simp [RV.all]
  | x :: xs, _, _, _, 0, h, r => by
    simp only [RV.all] at h
    obtain ⟨y, t, e, _, h2⟩ := h
    subst e
    exact ⟨_, _, rfl, r, h2⟩
  | x :: xs, _, _, _, i + 1, h, r => by
    simp only [RV.all] at h
    obtain ⟨y, t, e, h1, h2⟩ := h
    subst e
    exact ⟨_, _, rfl, h1, RVs.set i h2 r⟩
theorem RVs.dropLast {xs : List PV} {ys : List V} (h : RVs K ρ H xs ys) : RVs K ρ H xs.dropLast ys.dropLast := by
  rw [List.dropLast_eq_take, List.dropLast_eq_take, ← RVs.length h]
  exact h.take _
theorem RVs.eraseIdx {xs : List PV} {ys : List V} (h : RVs K ρ H xs ys) (i : Nat) : RVs K ρ H (xs.eraseIdx i) (ys.eraseIdx i) := by
  rw [List.eraseIdx_eq_take_drop_succ, List.eraseIdx_eq_take_drop_succ]
  exact (h.take i).append (h.drop (i + 1))
theorem RVs.rep {xs : List PV} {ys : List V} (h : RVs K ρ H xs ys) : ∀ k : Nat, RVs K ρ H (List.replicate k xs).flatten (List.replicate k ys).flatten
  | 0 => rfl
  | k + 1 => by
    rw [List.replicate_succ, List.replicate_succ, List.flatten_cons, List.flatten_cons]
    exact h.append (RVs.rep h k)
theorem RVs.nil_iff {xs : List PV} {ys : List V} (h : RVs K ρ H xs ys) : xs = [] ↔ ys = [] := by
  have e := h.length
  constructor
  · intro z
    rw [z] at e
    exact List.length_eq_zero_iff.mp e.symm
  · intro z
    rw [z] at e
    exact List.length_eq_zero_iff.mp e
theorem RVs.isEmpty {xs : List PV} {ys : List V} (h : RVs K ρ H xs ys) : xs.isEmpty = ys.isEmpty := by
  have e := h.nil_iff
  cases xs <;> cases ys <;> simp_all
theorem mview_at (R : Rel K ρ μ H) {a : Ag} {x : V} {xs : List PV} (h : RA K H0 ρ H a x) (e : mview μ a = some xs) : ∃ l ys, x = .ref l ∧ H l = some (.lst ys) ∧ RVs K ρ H xs ys := by
  cases a with
  | l zs =>
    cases e
    obtain ⟨l, ys, e1, e2, r, _⟩ := h
    exact ⟨l, ys, e1, e2, r⟩
  | v p =>
    cases p with
    | ref n =>
      simp only [mview] at e
      split at e
      · rename_i zs hz
        cases e
        obtain ⟨l, e1, e2⟩ := h
        obtain ⟨b, hb, ys, e3, r⟩ := R.at_ _ _ hz
        rw [e2] at hb
        cases hb
        exact ⟨l, ys, e1, e3, r⟩
      · cases e
    | _ => cases e
theorem lview_at (R : Rel K ρ μ H) {a : Ag} {x : V} {xs : List PV} (h : RA K H0 ρ H a x) (e : lview μ a = some xs) : ∃ l ys, x = .ref l ∧ SqL K H l ys ∧ RVs K ρ H xs ys := by
  have go : mview μ a = some xs → ∃ l ys, x = .ref l ∧ SqL K H l ys ∧ RVs K ρ H xs ys := fun e => by
    obtain ⟨l, ys, e1, e2, r⟩ := mview_at R h e
    exact ⟨l, ys, e1, SqL.of e2, r⟩
  cases a with
  | l zs => exact go e
  | v p =>
    cases p with
    | frz ns =>
      cases e
      obtain ⟨l, e1, f⟩ := h
      exact ⟨l, _, e1, f.seq, RVs.ints ns⟩
    | _ => exact go e
theorem tview_at {a : Ag} {x : V} {xs : List PV} (h : RA K H0 ρ H a x) (e : tview a = some xs) : ∃ l ys, x = .ref l ∧ SqT K H l ys ∧ RVs K ρ H xs ys := by
  cases a with
  | l zs => cases e
  | v p =>
    cases p with
    | tup ws =>
      cases e
      simp only [RA, RV] at h
      exact h
    | _ => cases e
theorem sview_at (R : Rel K ρ μ H) {a : Ag} {x : V} {xs : List PV} (h : RA K H0 ρ H a x) (e : sview μ a = some xs) : ∃ l ys, x = .ref l ∧ (SqL K H l ys ∨ SqT K H l ys) ∧ RVs K ρ H xs ys := by
  unfold sview at e
  cases ht : tview a with
  | some ws =>
    rw [ht] at e
    cases e
    obtain ⟨l, ys, e1, s, r⟩ := tview_at h ht
    exact ⟨l, ys, e1, .inr s, r⟩
  | none =>
    rw [ht] at e
    obtain ⟨l, ys, e1, s, r⟩ := lview_at R h e
    exact ⟨l, ys, e1, .inl s, r⟩
theorem int_at {a : Ag} {x : V} {i : Int} (h : RA K H0 ρ H a x) (e : intOf a = some i) : x = .int i := by
  cases a with
  | l zs => cases e
  | v p =>
    cases p with
    | int j =>
      cases e
      simpa [RA, RV] using h
    | _ => cases e
/-- a new list, a new tuple -/
theorem new_l (R : Rel K ρ μ H) {xs : List PV} {ys : List V} (r : RVs K ρ H xs ys) {p : Addr} (hp : H p = none) : RA K H ρ (upd H p (.lst ys)) (.l xs) (.ref p) :=
  ⟨p, ys, rfl, upd_same, RVs.las (Las.fresh hp) xs ys r, R.out hp, fun o e => by rw [hp] at e; cases e⟩
theorem new_t (R : Rel K ρ μ H) {xs : List PV} {ys : List V} (r : RVs K ρ H xs ys) {p : Addr} (hp : H p = none) : RA K H ρ (upd H p (.tup ys)) (.v (.tup xs)) (.ref p) := by
  simp only [RA, RV]
  exact ⟨p, ys, rfl, SqT.of upd_same, RVs.las (Las.fresh hp) xs ys r⟩
/-! ### data -/
mutual
theorem toD_at : ∀ (p : PV) (v : V) (d : PyData), RV K ρ H p v → toD p = some d → Dp K H v d
  | .non, v, d, h, e => by
    simp only [toD] at e
    cases e
    simp only [RV] at h
    subst h
    exact .non
  | .bl b, v, d, h, e => by
    simp only [toD] at e
    cases e
    simp only [RV] at h
    subst h
    exact .bl b
  | .int b, v, d, h, e => by
    simp only [toD] at e
    cases e
    simp only [RV] at h
    subst h
    exact .int b
  | .str b, v, d, h, e => by
    simp only [toD] at e
    cases e
    simp only [RV] at h
    subst h
    exact .str b
  | .tup xs, v, d, h, e => by
    simp only [toD] at e
    simp only [RV] at h
    obtain ⟨a, ys, e1, s, r⟩ := h
    subst e1
    cases hd : toD.toDs xs with
    | none => rw [hd] at e; cases e
    | some ds =>
      rw [hd] at e
      cases e
      exact .tup s (toDs_at xs ys ds r hd)
  | .ref _, _, _, _, e => by simp only [toD] at e; cases e
  | .frz _, _, _, _, e => by simp only [toD] at e; cases e
theorem toDs_at : ∀ (xs : List PV) (ys : List V) (ds : List PyData), RVs K ρ H xs ys → toD.toDs xs = some ds → DpAll K H ys ds
  | [], ys, ds, h, e => by
    simp only [toD.toDs] at e
    cases e
    simp only [RV.all] at h
    subst h
    exact .nil
  | x :: xs, ys, ds, h, e => by
    simp only [RV.all] at h
    obtain ⟨y, r, e1, h1, h2⟩ := h
    subst e1
    simp only [toD.toDs] at e
    cases hx : toD x with
    | none => rw [hx] at e; cases e
    | some d =>
      rw [hx] at e
      cases hxs : toD.toDs xs with
      | none => rw [hxs] at e; cases e
      | some ds' =>
        rw [hxs] at e
        cases e
        exact .cons (toD_at x y d h1 hx) (toDs_at xs r ds' h2 hxs)
end
theorem toDA_at (R : Rel K ρ μ H) {a : Ag} {x : V} {d : PyData} (h : RA K H0 ρ H a x) (e : toDA μ a = some d) : Dp K H x d := by
  unfold toDA at e
  cases hl : lview μ a with
  | some xs =>
    rw [hl] at e
    obtain ⟨l, ys, e1, s, r⟩ := lview_at R h hl
    subst e1
    cases hd : toD.toDs xs with
    | none => simp [hd] at e
    | some ds =>
      simp only [hd, Option.map_some, Option.some.injEq] at e
      subst e
      exact .lst s (toDs_at xs ys ds r hd)
  | none =>
    rw [hl] at e
    cases a with
    | v p => exact toD_at p x d h e
    | l _ => cases e
/-- flat items -/
theorem flat_at {p : PV} {v : V} (h : RV K ρ H p v) (f : flatP p = true) : flatV v = true := by
  cases p with
  | non => simp only [RV] at h; subst h; rfl
  | bl _ => simp only [RV] at h; subst h; rfl
  | int _ => simp only [RV] at h; subst h; rfl
  | str _ => simp only [RV] at h; subst h; rfl
  | _ => cases f
theorem flats_at : ∀ {xs : List PV} {ys : List V}, RVs K ρ H xs ys → xs.all flatP = true → ys.all flatV = true
  | [], _, h, _ => by
    simp only [RV.all] at h
    subst h
    rfl
  | x :: xs, _, h, f => by
    simp only [RV.all] at h
    obtain ⟨y, r, e, h1, h2⟩ := h
    subst e
    simp only [List.all_cons, Bool.and_eq_true] at f ⊢
    exact ⟨flat_at h1 f.1, flats_at h2 f.2⟩
end
end Ev

set_option Elab.async false
set_option linter.all false
set_option maxRecDepth 100000
/-! EvD: operators. Own work. -/
namespace Ev
open PySem PySem.Spec PyProof.Rows L2
variable [Tb]
open Classical
/-! ### operators -/
def opOf : Op2 → Operator
  | .add => .Add | .sub => .Sub | .mul => .Mult | .fdiv => .FloorDiv | .mod => .Mod | .pow => .Pow | .shl => .LShift | .shr => .RShift | .band => .BitAnd | .bor => .BitOr | .bxor => .BitXor
def cmOf : Cm → CmpOp
  | .eq => .Eq | .ne => .NotEq | .lt => .Lt | .le => .LtE | .gt => .Gt | .ge => .GtE | .in_ => .In | .nin => .NotIn
/-- what a value-giving step is asked: the evaluator's answer -/
def rOp (K : PySem.W.Frag) (o : Op2) : R2 := fun x y H Q => ∃ ρ μ H0 a b z, Rel K ρ μ H ∧ RA K H0 ρ H a x ∧ RA K H0 ρ H b y ∧ op2 o a b μ = some z ∧ ∀ v H', Post K ρ H ρ μ H' → RA K H ρ H' z v → Q v H'
def rCm (K : PySem.W.Frag) (o : Cm) : R2 := fun x y H Q => ∃ ρ μ H0 a b z, Rel K ρ μ H ∧ RA K H0 ρ H a x ∧ RA K H0 ρ H b y ∧ cmA o a b μ = some z ∧ Q (.bl z) H
section
variable {C : Cx}
theorem intOp_at {K : PySem.W.Frag} {ρ : List Addr} {H H0 : Hp} {f : Int → Int → Option Int} {a b z : Ag} {x y : V} (ra : RA K H0 ρ H a x) (rb : RA K H0 ρ H b y) (e : intOp f a b = some z) : ∃ i j k, x = .int i ∧ y = .int j ∧ f i j = some k ∧ z = .v (.int k) := by
  unfold intOp at e
  split at e
  · rename_i i j hi hj
    cases hf : f i j with
    | none => rw [hf] at e; cases e
    | some k =>
      rw [hf] at e
      cases e
      exact ⟨i, j, k, int_at ra hi, int_at rb hj, hf, rfl⟩
  · cases e
theorem some_if {α : Type} {c : Prop} [Decidable c] {x y : α} (h : (if c then some x else none) = some y) : c ∧ x = y := by
  by_cases hc : c
  · rw [if_pos hc] at h
    exact ⟨hc, Option.some.inj h⟩
  · rw [if_neg hc] at h
    cases h
theorem op_ev (o : Op2) : OpR C (binaryOp (opOf o)) (rOp C.K o) := by
  intro pins s σ H x y v u Q I rx ry h
  obtain ⟨ρ, μ, H0, a, b, z, R, ra, rb, e, k⟩ := h
  have kI : ∀ i, z = .v (.int i) → Q (.int i) H := fun i hz => k _ _ (Post.refl R) (by rw [hz]; simp [RA, RV])
  cases o with
  | add =>
    change addA μ a b = some z at e
    unfold addA at e
    split at e
    · cases e
      simp only [RA, RV] at ra rb
      subst ra rb
      exact op_add pins s σ H _ _ v u Q I rx ry ⟨_, _, rfl, rfl, kI _ rfl⟩
    · obtain ⟨hz, e⟩ := some_if e
      subst e
      simp only [RA, RV] at ra rb
      subst ra rb
      exact op_add_str pins s σ H _ _ v u Q I rx ry ⟨_, _, rfl, rfl, hz, k _ _ (Post.refl R) (by simp [RA, RV])⟩
    · rename_i xs ys
      obtain ⟨hz, e⟩ := some_if e
      subst e
      obtain ⟨l, zs, e1, s1, r1⟩ := tview_at ra rfl
      obtain ⟨l2, zs2, e2, s2, r2⟩ := tview_at rb rfl
      subst e1 e2
      refine op_catA pins s σ H _ _ v u Q I rx ry ⟨l, l2, zs, zs2, rfl, rfl, s1, s2, by rw [← r1.length, ← r2.length]; exact hz, fun n => ?_, fun n n2 => ?_, fun n n2 p hp => ?_⟩
      · exact k _ _ (Post.refl R) (by rw [r1.nil_iff.mpr n]; exact rb)
      · exact k _ _ (Post.refl R) (by rw [r2.nil_iff.mpr n2, List.append_nil]; exact ra)
      · exact k _ _ (Post.fresh R hp) (new_t R (r1.append r2) hp)
    · split at e
      · rename_i xs ys h1 h2
        obtain ⟨hz, e⟩ := some_if e
        subst e
        obtain ⟨l, zs, e1, s1, r1⟩ := mview_at R ra h1
        obtain ⟨l2, zs2, e2, s2, r2⟩ := mview_at R rb h2
        subst e1 e2
        exact op_cat pins s σ H _ _ v u Q I rx ry ⟨l, l2, zs, zs2, rfl, rfl, s1, s2, by rw [← r1.length, ← r2.length]; exact hz, fun p hp => k _ _ (Post.fresh R hp) (new_l R (r1.append r2) hp)⟩
      · cases e
  | mul =>
    change mulA μ a b = some z at e
    unfold mulA at e
    split at e
    · obtain ⟨hz, e⟩ := some_if e
      subst e
      simp only [RA, RV] at ra rb
      subst ra rb
      exact op_mulX pins s σ H _ _ v u Q I rx ry ⟨_, _, rfl, rfl, hz, kI _ rfl⟩
    · obtain ⟨⟨h1, h2, h3, h4⟩, e⟩ := some_if e
      subst e
      obtain ⟨l, zs, e1, s1, r1⟩ := tview_at ra rfl
      simp only [RA, RV] at rb
      subst e1 rb
      exact op_repT pins s σ H _ _ v u Q I rx ry ⟨l, _, zs, rfl, rfl, s1, fun n => h1 (r1.nil_iff.mpr n), h2, h3, by rw [← r1.length]; exact h4, fun p hp => k _ _ (Post.fresh R hp) (new_t R (r1.rep _) hp)⟩
    · split at e
      · rename_i xs h1
        obtain ⟨⟨h2, h4⟩, e⟩ := some_if e
        obtain ⟨h2, h3⟩ := h2.w
        subst e
        obtain ⟨l, zs, e1, s1, r1⟩ := mview_at R ra h1
        simp only [RA, RV] at rb
        subst e1 rb
        exact op_rep pins s σ H _ _ v u Q I rx ry ⟨l, _, zs, rfl, rfl, s1, h2, h3, by rw [← r1.length]; exact h4, fun p hp => k _ _ (Post.fresh R hp) (new_l R (r1.rep _) hp)⟩
      · cases e
    · cases e
  | sub =>
    obtain ⟨i, j, n, rfl, rfl, hf, hz⟩ := intOp_at ra rb e
    cases hf
    exact op_sub pins s σ H _ _ v u Q I rx ry ⟨_, _, rfl, rfl, kI _ hz⟩
  | fdiv =>
    obtain ⟨i, j, n, rfl, rfl, hf, hz⟩ := intOp_at ra rb e
    obtain ⟨hc, hf⟩ := some_if hf
    subst hf
    exact op_fdivW pins s σ H _ _ v u Q I rx ry ⟨_, _, rfl, rfl, hc, kI _ hz⟩
  | mod =>
    obtain ⟨i, j, n, rfl, rfl, hf, hz⟩ := intOp_at ra rb e
    obtain ⟨hc, hf⟩ := some_if hf
    subst hf
    exact op_mod pins s σ H _ _ v u Q I rx ry ⟨_, _, rfl, rfl, hc, kI _ hz⟩
  | pow =>
    obtain ⟨i, j, n, rfl, rfl, hf, hz⟩ := intOp_at ra rb e
    obtain ⟨hc, hf⟩ := some_if hf
    subst hf
    exact op_pow pins s σ H _ _ v u Q I rx ry ⟨_, _, rfl, rfl, hc, kI _ hz⟩
  | shl =>
    obtain ⟨i, j, n, rfl, rfl, hf, hz⟩ := intOp_at ra rb e
    obtain ⟨hc, hf⟩ := some_if hf
    subst hf
    exact op_shlW pins s σ H _ _ v u Q I rx ry ⟨_, _, rfl, rfl, hc, kI _ hz⟩
  | shr =>
    obtain ⟨i, j, n, rfl, rfl, hf, hz⟩ := intOp_at ra rb e
    obtain ⟨hc, hf⟩ := some_if hf
    subst hf
    exact op_shr pins s σ H _ _ v u Q I rx ry ⟨_, _, rfl, rfl, hc, kI _ hz⟩
  | band =>
    obtain ⟨i, j, n, rfl, rfl, hf, hz⟩ := intOp_at ra rb e
    cases hf
    exact op_and pins s σ H _ _ v u Q I rx ry ⟨_, _, rfl, rfl, kI _ hz⟩
  | bor =>
    obtain ⟨i, j, n, rfl, rfl, hf, hz⟩ := intOp_at ra rb e
    cases hf
    exact op_or pins s σ H _ _ v u Q I rx ry ⟨_, _, rfl, rfl, kI _ hz⟩
  | bxor =>
    obtain ⟨i, j, n, rfl, rfl, hf, hz⟩ := intOp_at ra rb e
    cases hf
    exact op_xor pins s σ H _ _ v u Q I rx ry ⟨_, _, rfl, rfl, kI _ hz⟩
theorem intCm_at {K : PySem.W.Frag} {ρ : List Addr} {H H0 : Hp} {f : Int → Int → Bool} {a b : Ag} {z : Bool} {x y : V} (ra : RA K H0 ρ H a x) (rb : RA K H0 ρ H b y) (e : intCm f a b = some z) : ∃ i j, x = .int i ∧ y = .int j ∧ z = f i j := by
  unfold intCm at e
  split at e
  · rename_i i j hi hj
    cases e
    exact ⟨i, j, int_at ra hi, int_at rb hj, rfl⟩
  · cases e
theorem eqA_at {K : PySem.W.Frag} {ρ : List Addr} {H H0 : Hp} {μ : Mu} (R : Rel K ρ μ H) {a b : Ag} {z : Bool} {x y : V} (ra : RA K H0 ρ H a x) (rb : RA K H0 ρ H b y) (e : eqA μ a b = some z) :
    (∃ d d', Dp K H x d ∧ Dp K H y d' ∧ SeqAt.shaped d = true ∧ SeqAt.shaped d' = true ∧ z = PyData.eqv d d') ∨
    (∃ l l' xs ys, x = .ref l ∧ y = .ref l' ∧ SqL K H l xs ∧ SqL K H l' ys ∧ xs.length ≠ ys.length ∧ z = false) ∨
    (∃ l l' xs ys, x = .ref l ∧ y = .ref l' ∧ SqT K H l xs ∧ SqT K H l' ys ∧ (xs.length = 0 ∨ ys.length = 0) ∧ z = decide (xs.length = ys.length)) := by
  unfold eqA at e
  split at e
  · rename_i z' hz
    cases e
    unfold eqLen at hz
    split at hz
    · rename_i xs ys h1 h2
      split at hz
      · rename_i hn
        cases hz
        obtain ⟨l, vs, e1, s1, r1⟩ := tview_at ra h1
        obtain ⟨l', vs', e2, s2, r2⟩ := tview_at rb h2
        refine .inr (.inr ⟨l, l', vs, vs', e1, e2, s1, s2, ?_, ?_⟩)
        · rw [← r1.length, ← r2.length]
          rcases hn with rfl | rfl
          · exact .inl rfl
          · exact .inr rfl
        · rw [← r1.length, ← r2.length]
      · cases hz
    · split at hz
      · rename_i xs ys h1 h2
        split at hz
        · cases hz
        · rename_i hn
          cases hz
          obtain ⟨l, vs, e1, s1, r1⟩ := lview_at R ra h1
          obtain ⟨l', vs', e2, s2, r2⟩ := lview_at R rb h2
          exact .inr (.inl ⟨l, l', vs, vs', e1, e2, s1, s2, by rw [← r1.length, ← r2.length]; exact hn, rfl⟩)
      · cases hz
    · cases hz
  · unfold eqDt at e
    split at e
    · rename_i d d' h1 h2
      obtain ⟨⟨s1, s2⟩, e⟩ := some_if e
      exact .inl ⟨d, d', toDA_at R ra h1, toDA_at R rb h2, s1, s2, e.symm⟩
    · cases e
theorem eqRun {C : Cx} (hr : Room 1 C.A) (ne : Bool) {pins : List (Addr × Obj)} {s : Shared} {σ : L2.St} {H : Hp} {x y : V} {v u : Value} (I : Inv C pins σ H s) (rx : RelV x v) (ry : RelV y u) {ρ : List Addr} {H0 : Hp} {μ : Mu} {a b : Ag} {z : Bool} (R : Rel C.K ρ μ H) (ra : RA C.K H0 ρ H a x) (rb : RA C.K H0 ρ H b y)
    (e : eqA μ a b = some z) (E : Value → Shared → Prop) (Q' : Value → Shared → Prop) (k : Q' (.bool (z != ne)) s) : wpAny (model C.prog C.w) C.A (compareOp (if ne = true then .NotEq else .Eq) v u) Q' E s := by
  have hu : C.A.units + 65 < cLine := by have := hr.un; omega
  rcases eqA_at R ra rb e with ⟨d, d', h1, h2, s1, s2, hz⟩ | ⟨l, l', xs, ys, rfl, rfl, h1, h2, hn, hz⟩ | ⟨l, l', xs, ys, rfl, rfl, h1, h2, hn, hz⟩
  · obtain ⟨as, r1⟩ := Dp.reads I d x v h1 rx
    obtain ⟨bs, r2⟩ := Dp.reads I d' y u h2 ry
    subst hz
    cases ne with
    | false => exact SeqAt.compareEq_shaped r1 r2 s1 s2 (by omega) (by simpa using k)
    | true => exact SeqAt.compareNe_shaped r1 r2 s1 s2 (by omega) (by simpa using k)
  · cases (show v = Value.ref l from rx)
    cases (show u = Value.ref l' from ry)
    obtain ⟨us, r1, p1, _⟩ := I.list h1
    obtain ⟨ws, r2, p2, _⟩ := I.list h2
    subst hz
    have hsz : (us.toArray.size != ws.toArray.size) = true := by
      rw [List.size_toArray, List.size_toArray, ← r1.length, ← r2.length]
      simpa using hn
    cases ne with
    | false => exact SeqAt.RcAt.lists_lengths p1.isList p2.isList hsz (by omega) _ _ _ _ k
    | true => exact SeqAt.RcNeAt.lists_lengths p1.isList p2.isList hsz (by omega) _ _ _ _ k
  · cases (show v = Value.ref l from rx)
    cases (show u = Value.ref l' from ry)
    obtain ⟨us, r1, p1, _⟩ := I.tuple h1
    obtain ⟨ws, r2, p2, _⟩ := I.tuple h2
    have hm : min us.toArray.size ws.toArray.size = 0 := by
      rw [List.size_toArray, List.size_toArray, ← r1.length, ← r2.length]
      omega
    have hb : (us.toArray.size == ws.toArray.size) = z := by
      rw [hz, List.size_toArray, List.size_toArray, ← r1.length, ← r2.length]
      rfl
    have none : ∀ j, j < us.toArray.size → j < ws.toArray.size → False := fun j h1 h2 => by omega
    cases ne with
    | false =>
      refine SeqAt.RcAt.tuples (e := fun _ => true) p1 p2 (by omega) (fun j h1 h2 => (none j h1 h2).elim) _ _ _ _ ?_
      rw [hm, hb]
      simpa using k
    | true =>
      refine SeqAt.RcNeAt.tuples (e := fun _ => true) p1 p2 (by omega) (fun j h1 h2 => (none j h1 h2).elim) _ _ _ _ ?_
      rw [hm, hb]
      simpa using k
/-- flat data: eqV is eqv -/
theorem eqV_at {K : PySem.W.Frag} {ρ : List Addr} {H : Hp} {p q : PV} {x y : V} {d e : PyData} (rx : RV K ρ H p x) (ry : RV K ρ H q y) (fp : flatP p = true) (fq : flatP q = true) (hd : toD p = some d) (he : toD q = some e) : eqV x y = PyData.eqv d e := by
  cases p <;> cases q <;> simp only [flatP] at fp fq <;> first | (exact Bool.noConfusion fp) | (exact Bool.noConfusion fq) | skip
  all_goals
    simp only [RV] at rx ry
    subst rx ry
    simp only [toD, Option.some.injEq] at hd he
    subst hd he
    simp only [eqV, PyData.eqv]
theorem inV_at {K : PySem.W.Frag} {ρ : List Addr} {H : Hp} {p : PV} {x : V} {d : PyData} (rx : RV K ρ H p x) (fp : flatP p = true) (hd : toD p = some d) : ∀ {xs : List PV} {ys : List V} {ds : List PyData}, RVs K ρ H xs ys → xs.all flatP = true → toD.toDs xs = some ds →
    inV x ys = ds.any fun z => PyData.eqv z d
  | [], _, _, h, _, e => by
    simp only [toD.toDs] at e
    cases e
    simp only [RV.all] at h
    subst h
    rfl
  | q :: xs, _, _, h, f, e => by
    simp only [RV.all] at h
    obtain ⟨y, r, e1, h1, h2⟩ := h
    subst e1
    simp only [List.all_cons, Bool.and_eq_true] at f
    simp only [toD.toDs] at e
    cases hx : toD q with
    | none => rw [hx] at e; cases e
    | some dq =>
      rw [hx] at e
      cases hxs : toD.toDs xs with
      | none => rw [hxs] at e; cases e
      | some ds' =>
        rw [hxs] at e
        cases e
        have ih := inV_at rx fp hd h2 f.2 hxs
        simp only [inV, List.any_cons] at ih ⊢
        rw [eqV_at h1 rx f.1 fp hx hd, ih]
theorem Dp.list_of {K : PySem.W.Frag} {H : Hp} {x : V} {xs : List V} {ds : List PyData} {l : Addr} (h : SqL K H l xs) (hd : DpAll K H xs ds) : Dp K H (.ref l) (.list ds) := .lst h hd
theorem inA_at {K : PySem.W.Frag} {ρ : List Addr} {H H0 : Hp} {μ : Mu} (R : Rel K ρ μ H) {a b : Ag} {z : Bool} {x y : V} (ra : RA K H0 ρ H a x) (rb : RA K H0 ρ H b y) (e : inA μ a b = some z) :
    (∃ p xs, y = .ref p ∧ (SqL K H p xs ∨ SqT K H p xs) ∧ flatV x = true ∧ xs.all flatV = true ∧ z = inV x xs) ∨
    (∃ d ds, Dp K H x d ∧ Dp K H y (.list ds) ∧ SeqAt.shaped d = true ∧ SeqAt.shaped (.list ds) = true ∧ z = ds.any fun w => PyData.eqv w d) := by
  cases a with
  | l _ => cases e
  | v q =>
    simp only [inA] at e
    cases hs : sview μ b with
    | none => rw [hs] at e; cases e
    | some ys =>
      rw [hs] at e
      simp only at e
      split at e
      · rename_i hf
        obtain ⟨l, vs, e1, s1, r1⟩ := sview_at R rb hs
        split at e
        · rename_i d ds h1 h2
          cases e
          exact .inl ⟨l, vs, e1, s1, flat_at ra hf.1, flats_at r1 hf.2, (inV_at ra hf.1 h1 r1 hf.2 h2).symm⟩
        · cases e
      · split at e
        · rename_i d ds ht h1 h2
          obtain ⟨⟨s1, s2⟩, e⟩ := some_if e
          have hl : lview μ b = some ys := by
            unfold sview at hs
            rw [ht] at hs
            exact hs
          obtain ⟨l, vs, e1, sq, r1⟩ := lview_at R rb hl
          subst e1
          exact .inr ⟨d, ds, toD_at q x d ra h1, .lst sq (toDs_at ys vs ds r1 h2), s1, s2, e.symm⟩
        · cases e
theorem op_cm (hr : Room 1 C.A) (o : Cm) : OpR C (compareOp (cmOf o)) (rCm C.K o) := by
  intro pins s σ H x y v u Q I rx ry h
  obtain ⟨ρ, μ, H0, a, b, z, R, ra, rb, e, k⟩ := h
  have hu : C.A.units + 65 < cLine := by have := hr.un; omega
  cases o with
  | eq => exact eqRun hr false I rx ry R ra rb e _ _ ⟨.bl z, H, I, by cases z <;> rfl, k⟩
  | ne =>
    have e' : (eqA μ a b).map (!·) = some z := e
    cases he : eqA μ a b with
    | none => rw [he] at e'; cases e'
    | some w =>
      rw [he] at e'
      cases e'
      exact eqRun hr true I rx ry R ra rb he _ _ ⟨.bl (!w), H, I, by cases w <;> rfl, k⟩
  | lt =>
    obtain ⟨i, j, rfl, rfl, hz⟩ := intCm_at ra rb e
    rw [hz] at k
    exact op_lt pins s σ H _ _ v u Q I rx ry ⟨_, _, rfl, rfl, k⟩
  | le =>
    obtain ⟨i, j, rfl, rfl, hz⟩ := intCm_at ra rb e
    rw [hz] at k
    exact op_le pins s σ H _ _ v u Q I rx ry ⟨_, _, rfl, rfl, k⟩
  | gt =>
    obtain ⟨i, j, rfl, rfl, hz⟩ := intCm_at ra rb e
    rw [hz] at k
    exact op_gt pins s σ H _ _ v u Q I rx ry ⟨_, _, rfl, rfl, k⟩
  | ge =>
    obtain ⟨i, j, rfl, rfl, hz⟩ := intCm_at ra rb e
    rw [hz] at k
    exact op_ge pins s σ H _ _ v u Q I rx ry ⟨_, _, rfl, rfl, k⟩
  | in_ =>
    rcases inA_at R ra rb e with ⟨p, xs, h1, h2, h3, h4, hz⟩ | ⟨d, ds, h1, h2, s1, s2, hz⟩
    · rw [hz] at k
      exact op_in_seq pins s σ H _ _ v u Q I rx ry ⟨p, xs, h1, h2, h3, h4, k⟩
    · rw [hz] at k
      exact op_inD hu pins s σ H _ _ v u Q I rx ry ⟨d, ds, h1, h2, s1, s2, k⟩
  | nin =>
    have e' : (inA μ a b).map (!·) = some z := e
    cases he : inA μ a b with
    | none => rw [he] at e'; cases e'
    | some w =>
      rw [he] at e'
      cases e'
      rcases inA_at R ra rb he with ⟨p, xs, h1, h2, h3, h4, hz⟩ | ⟨d, ds, h1, h2, s1, s2, hz⟩
      · rw [hz] at k
        exact op_notIn_seq pins s σ H _ _ v u Q I rx ry ⟨p, xs, h1, h2, h3, h4, k⟩
      · rw [hz] at k
        exact op_notInD hu pins s σ H _ _ v u Q I rx ry ⟨d, ds, h1, h2, s1, s2, k⟩
/-! ### truth, places, slices -/
theorem tru_ev : TruR C (fun x H Q => ∃ ρ μ H0 a z, Rel C.K ρ μ H ∧ RA C.K H0 ρ H a x ∧ truA μ a = some z ∧ Q z H) := by
  intro pins s σ H x v Q I rx h
  obtain ⟨ρ, μ, H0, a, z, R, ra, e, k⟩ := h
  refine tru_ok pins s σ H x v Q I rx ⟨z, ?_, k⟩
  have lst : mview μ a = some (match mview μ a with | some xs => xs | none => []) → True := fun _ => trivial
  have fl : ∀ xs, mview μ a = some xs → z = !xs.isEmpty → TruV C.K x H z := fun xs hm hz => by
    obtain ⟨l, ys, e1, s1, r1⟩ := mview_at R ra hm
    subst e1
    exact .inl ⟨ys, SqL.of s1, by rw [hz, r1.isEmpty]⟩
  have go : (mview μ a).map (fun xs => !xs.isEmpty) = some z → TruV C.K x H z := fun e => by
    cases hm : mview μ a with
    | none => rw [hm] at e; cases e
    | some xs =>
      rw [hm] at e
      cases e
      exact fl xs hm rfl
  cases a with
  | l xs => exact go e
  | v p =>
    cases p with
    | non => cases e; simp only [RA, RV] at ra; subst ra; rfl
    | bl b => cases e; simp only [RA, RV] at ra; subst ra; rfl
    | int b => cases e; simp only [RA, RV] at ra; subst ra; rfl
    | str b =>
      obtain ⟨hz, e⟩ := some_if e
      simp only [RA, RV] at ra
      subst ra e
      exact ⟨hz, rfl⟩
    | tup xs =>
      cases e
      obtain ⟨l, ys, e1, s1, r1⟩ := tview_at ra rfl
      subst e1
      exact .inr (.inl ⟨ys, s1, by rw [r1.isEmpty]⟩)
    | ref n => exact go e
    | frz ns => exact go e
def rIxE (K : PySem.W.Frag) : R2 := fun x y H Q => ∃ ρ μ H0 a b z, Rel K ρ μ H ∧ RA K H0 ρ H a x ∧ RA K H0 ρ H b y ∧ ixA μ a b = some z ∧ ∀ v, RA K H ρ H z v → Q v H
theorem RVs.atI {K : PySem.W.Frag} {ρ : List Addr} {H : Hp} {xs : List PV} {ys : List V} {i : Int} {x : PV} (h : RVs K ρ H xs ys) (e : atI xs i = some x) : ∃ y, L2.atI ys i = some y ∧ RV K ρ H x y := by
  unfold L2.atI at e ⊢
  rw [← h.length]
  cases hi : ixN xs.length i with
  | none => rw [hi] at e; cases e
  | some j =>
    rw [hi] at e
    exact h.get e
theorem ix_ev : IxR C (rIxE C.K) := by
  intro ex1 ex2 pins s σ H x y v u Q I rx ry h hp
  obtain ⟨ρ, μ, H0, a, b, z, R, ra, rb, e, k⟩ := h
  refine ix_seq ex1 ex2 pins s σ H x y v u Q I rx ry ?_ hp
  unfold ixA at e
  split at e
  · rename_i i
    simp only [RA, RV] at rb
    subst rb
    split at e
    · rename_i zs
      obtain ⟨hz, e⟩ : zs.length ≤ sizeLine ∧ (atI zs.cps.toList i).map (fun c => Ag.v (.str ⟨#[c]⟩)) = some z := by
        split at e
        · rename_i hz
          exact ⟨hz, e⟩
        · cases e
      cases hc : atI zs.cps.toList i with
      | none => rw [hc] at e; cases e
      | some c =>
        rw [hc] at e
        cases e
        simp only [RA, RV] at ra
        subst ra
        exact .inr (.inr ⟨zs, i, c, rfl, rfl, hz, hc, k _ (by simp [RA, RV])⟩)
    · split at e
      · rename_i xs hs
        obtain ⟨l, ys, e1, s1, r1⟩ := sview_at R ra hs
        subst e1
        cases hx : atI xs i with
        | none => rw [hx] at e; cases e
        | some w =>
          rw [hx] at e
          cases e
          obtain ⟨vw, h1, h2⟩ := r1.atI hx
          rcases s1 with s1 | s1
          · exact .inl ⟨l, ys, i, vw, rfl, rfl, s1, h1, k _ h2⟩
          · exact .inr (.inl ⟨l, ys, i, vw, rfl, rfl, s1, h1, k _ h2⟩)
      · cases e
  · cases e
theorem cut_at {K : PySem.W.Frag} {ρ : List Addr} {H : Hp} {xs : List PV} {ys : List V} (h : RVs K ρ H xs ys) (lo hi : Option Int) : RVs K ρ H (cutP xs lo hi) (cutV ys lo hi) := by
  unfold cutP cutV
  rw [← h.length]
  exact (h.drop _).take _
def rSlE (K : PySem.W.Frag) : V → Option Int → Option Int → Hp → VK → Prop := fun x lo hi H Q => ∃ ρ μ H0 a z, Rel K ρ μ H ∧ RA K H0 ρ H a x ∧ sliceA μ a lo hi = some z ∧ ∀ v H', Post K ρ H ρ μ H' → RA K H ρ H' z v → Q v H'
theorem cut_whole {xs : List PV} {lo hi : Option Int} (h : HT.sIx xs.length 0 lo = 0 ∧ HT.sIx xs.length xs.length hi = xs.length) : cutP xs lo hi = xs := by
  unfold cutP
  rw [h.1, h.2]
  simp
theorem sl_ev : SlR C (rSlE C.K) := by
  intro pins s σ H x v vl vu lo hi sl Q I rx hs pl pu h
  obtain ⟨ρ, μ, H0, a, z, R, ra, e, k⟩ := h
  unfold sliceA at e
  split at e
  · rename_i xs ht
    cases e
    obtain ⟨l, ys, e1, s1, r1⟩ := tview_at ra ht
    subst e1
    refine sl_tupA pins s σ H _ v vl vu lo hi sl Q I rx hs pl pu ⟨l, ys, rfl, s1, fun hw => ?_, fun hw p hp => k _ _ (Post.fresh R hp) (new_t R (cut_at r1 lo hi) hp)⟩
    refine k _ _ (Post.refl R) ?_
    rw [← r1.length] at hw
    rw [cut_whole hw]
    simp only [RA, RV]
    exact ⟨l, ys, rfl, s1, r1⟩
  · split at e
    · rename_i xs hl
      cases e
      obtain ⟨l, ys, e1, s1, r1⟩ := lview_at R ra hl
      subst e1
      exact sl_list pins s σ H _ v vl vu lo hi sl Q I rx hs pl pu ⟨l, ys, rfl, s1, fun p hp => k _ _ (Post.fresh R hp) (new_l R (cut_at r1 lo hi) hp)⟩
    · cases e
/-! ### built-ins -/
def rBi (K : PySem.W.Frag) (f : Bi) : List V → Hp → VK → Prop := fun vs H Q => ∃ ρ μ H0 as z, Rel K ρ μ H ∧ RAs K H0 ρ H as vs ∧ biA f as μ = some z ∧ ∀ v H', Post K ρ H ρ μ H' → RA K H ρ H' z v → Q v H'
def biOf : Bi → Value
  | .len => .builtin "len" | .int => .type "int" | .max2 => .builtin "max" | .min2 => .builtin "min" | .tuple => .type "tuple" | .list => .type "list" | .abs => .builtin "abs"
theorem RAs.one {K : PySem.W.Frag} {ρ : List Addr} {H H0 : Hp} {a : Ag} {vs : List V} (h : RAs K H0 ρ H [a] vs) : ∃ x, vs = [x] ∧ RA K H0 ρ H a x := by
  obtain ⟨y, r, e, h1, h2⟩ := h
  have h2 : r = [] := h2
  subst h2
  exact ⟨y, e, h1⟩
theorem RAs.two {K : PySem.W.Frag} {ρ : List Addr} {H H0 : Hp} {a b : Ag} {vs : List V} (h : RAs K H0 ρ H [a, b] vs) : ∃ x y, vs = [x, y] ∧ RA K H0 ρ H a x ∧ RA K H0 ρ H b y := by
  obtain ⟨y, r, e, h1, h2⟩ := h
  obtain ⟨z, e2, h3⟩ := RAs.one h2
  subst e2
  exact ⟨y, z, e, h1, h3⟩
theorem map_some {α β : Type} {o : Option α} {f : α → β} {z : β} (h : o.map f = some z) : ∃ a, o = some a ∧ f a = z := by
  cases o with
  | none => cases h
  | some a => exact ⟨a, rfl, Option.some.inj h⟩
theorem bi_ev (hc : C.calm = true) (f : Bi) : CallR C (biOf f) (rBi C.K f) := by
  intro pins s σ H xs us Q I rs h
  obtain ⟨ρ, μ, H0, as, z, R, ra, e, k⟩ := h
  have kP : ∀ p v, z = .v p → RV C.K ρ H p v → Q v H := fun p v hz r => k _ _ (Post.refl R) (by rw [hz]; exact r)
  unfold biA at e
  split at e
  · -- len
    obtain ⟨x, rfl, r1⟩ := ra.one
    split at e
    · obtain ⟨hz, e⟩ := some_if e
      simp only [RA, RV] at r1
      subst r1
      exact call_len pins s σ H _ us Q I rs ⟨_, _, rfl, ⟨hz, rfl⟩, kP _ _ e.symm (by simp [RV])⟩
    · obtain ⟨ys, hs, e⟩ := map_some e
      obtain ⟨l, vs, e1, s1, r2⟩ := sview_at R r1 hs
      subst e1
      refine call_len pins s σ H _ us Q I rs ⟨_, vs.length, rfl, ?_, kP _ _ e.symm (by simp [RV, r2.length])⟩
      rcases s1 with s1 | s1
      · exact .inl ⟨vs, s1, rfl⟩
      · exact .inr ⟨vs, s1, rfl⟩
  · cases e
    obtain ⟨x, rfl, r1⟩ := ra.one
    simp only [RA, RV] at r1
    subst r1
    exact call_int1 pins s σ H _ us Q I rs (.inl ⟨_, rfl, kP _ _ rfl (by simp [RV])⟩)
  · cases e
    obtain ⟨x, rfl, r1⟩ := ra.one
    simp only [RA, RV] at r1
    subst r1
    exact call_int1 pins s σ H _ us Q I rs (.inr ⟨_, rfl, kP _ _ rfl (by simp [RV])⟩)
  · cases e
    obtain ⟨x, y, rfl, r1, r2⟩ := ra.two
    simp only [RA, RV] at r1 r2
    subst r1 r2
    exact call_max2 hc pins s σ H _ us Q I rs ⟨_, _, rfl, kP _ _ rfl (by simp [RV])⟩
  · cases e
    obtain ⟨x, y, rfl, r1, r2⟩ := ra.two
    simp only [RA, RV] at r1 r2
    subst r1 r2
    exact call_min2 hc pins s σ H _ us Q I rs ⟨_, _, rfl, kP _ _ rfl (by simp [RV])⟩
  · cases e
    obtain ⟨x, rfl, r1⟩ := ra.one
    simp only [RA, RV] at r1
    subst r1
    exact call_abs pins s σ H _ us Q I rs ⟨_, rfl, kP _ _ rfl (by simp [RV])⟩
  · obtain ⟨x, rfl, r1⟩ := ra.one
    obtain ⟨ys, hs, e⟩ := map_some e
    subst e
    obtain ⟨l, vs, e1, s1, r2⟩ := sview_at R r1 hs
    subst e1
    refine call_tuple_of pins s σ H _ us Q I rs ⟨l, vs, rfl, ?_⟩
    rcases s1 with s1 | s1
    · exact .inl ⟨s1, fun p hp => k _ _ (Post.fresh R hp) (new_t R r2 hp)⟩
    · exact .inr ⟨s1, k _ _ (Post.refl R) (by simp only [RA, RV]; exact ⟨l, vs, rfl, s1, r2⟩)⟩
  · obtain ⟨x, rfl, r1⟩ := ra.one
    obtain ⟨ys, hs, e⟩ := map_some e
    subst e
    obtain ⟨l, vs, e1, s1, r2⟩ := sview_at R r1 hs
    subst e1
    exact call_list_of pins s σ H _ us Q I rs ⟨l, vs, rfl, s1, fun p hp => k _ _ (Post.fresh R hp) (new_l R r2 hp)⟩
  · cases e
/-! ### isinstance -/
def tyOf : Ty → String
  | .int => "int" | .bool => "bool" | .str => "str" | .tuple => "tuple" | .list => "list"
def tyL : Ty → Bool
  | .list => true
  | _ => false
def rIsE (K : PySem.W.Frag) (t : Ty) : List V → Hp → VK → Prop := fun vs H Q => ∃ ρ μ H0 a x z, vs = [x, .ty (tyOf t)] ∧ Rel K ρ μ H ∧ RA K H0 ρ H a x ∧ isA μ t a = some z ∧ Q (.bl z) H
theorem isi_ev (hr : Room 1 C.A) (t : Ty) : CallR C (.builtin "isinstance") (rIsE C.K t) := by
  intro pins s σ H xs us Q I rs h
  obtain ⟨ρ, μ, H0, a, x, z, rfl, R, ra, e, k⟩ := h
  have go : ∀ T, TyX C.K H x (.type T) → PySem.W.kitOne C.K (.type T) (.type (tyOf t)) = some z → wpAny (model C.prog C.w) C.A (call (.builtin "isinstance") us) (EP C pins σ Q) C.xe s := fun T h1 h2 =>
    call_isi pins s σ H _ us Q I rs ⟨x, _, _, _, z, rfl, .ty _, h1, h2, k⟩
  have lst : ∀ ys, lview μ a = some ys → z = tyL t → wpAny (model C.prog C.w) C.A (call (.builtin "isinstance") us) (EP C pins σ Q) C.xe s := fun ys hl hz => by
    obtain ⟨l, vs, e1, s1, r1⟩ := lview_at R ra hl
    subst e1
    have h1 : TyX C.K H (.ref l) (.type "list") := by
      rcases s1 with (s1 | ⟨o, s1⟩) | ⟨o, its, n, q1, q2, _⟩
      · exact .base (.lst s1)
      · exact .base (.frz s1)
      · exact .kList q1 q2
    subst hz
    cases t <;> exact go "list" h1 (kit_ty (by decide +kernel))
  cases a with
  | l ys =>
    cases e
    exact lst ys rfl rfl
  | v p =>
    cases p with
    | non =>
      cases e
      simp only [RA, RV] at ra
      subst ra
      cases t <;> exact go _ (.base .non) (kit_ty (by decide +kernel))
    | bl b =>
      cases e
      simp only [RA, RV] at ra
      subst ra
      cases t <;> exact go _ (.base (.bl b)) (kit_ty (by decide +kernel))
    | int b =>
      cases e
      simp only [RA, RV] at ra
      subst ra
      cases t <;> exact go _ (.base (.int b)) (kit_ty (by decide +kernel))
    | str b =>
      cases e
      simp only [RA, RV] at ra
      subst ra
      cases t <;> exact go _ (.base (.str b)) (kit_ty (by decide +kernel))
    | tup ws =>
      cases e
      obtain ⟨l, vs, e1, s1, r1⟩ := tview_at ra rfl
      subst e1
      have h1 : TyX C.K H (.ref l) (.type "tuple") := by
        rcases s1 with (s1 | ⟨o, s1⟩) | ⟨o, its, n, q1, q2, _⟩
        · exact .base (.tup s1)
        · exact .fTuple s1
        · exact .kTuple q1 q2
      cases t <;> exact go _ h1 (kit_ty (by decide +kernel))
    | ref n =>
      simp only [isA] at e
      split at e
      · rename_i ys hy
        cases e
        exact lst ys hy rfl
      · cases e
    | frz ns =>
      cases e
      exact lst _ rfl rfl
/-! ### methods of lists -/
def rMt (K : PySem.W.Frag) (m : Mt) : V → List V → Hp → VK → Prop := fun x vs H Q => ∃ ρ μ H0 a as z μ', Rel K ρ μ H ∧ RA K H0 ρ H a x ∧ RAs K H0 ρ H as vs ∧ mtA m a as μ = some (z, μ') ∧ ∀ v H', Post K ρ H ρ μ' H' → RA K H ρ H' z v → Q v H'
def mtOf : Mt → Str × String
  | .extend => ("extend", "list.extend") | .pop0 => ("pop", "list.pop") | .pop1 => ("pop", "list.pop")
theorem mtA_list {K : PySem.W.Frag} {ρ : List Addr} {H H0 : Hp} {μ μ' : Mu} {m : Mt} {a z : Ag} {as : List Ag} {x : V} (R : Rel K ρ μ H) (ra : RA K H0 ρ H a x) (e : mtA m a as μ = some (z, μ')) : ∃ n xs l ys, a = .v (.ref n) ∧ μ[n]? = some (.lst xs) ∧ ρ[n]? = some l ∧ x = .ref l ∧ H l = some (.lst ys) ∧ RVs K ρ H xs ys := by
  unfold mtA at e
  split at e
  · rename_i n
    split at e
    · rename_i xs hm
      obtain ⟨l, e1, e2⟩ := ra
      obtain ⟨b, hb, ys, e3, r⟩ := R.at_ _ _ hm
      rw [e2] at hb
      cases hb
      exact ⟨n, xs, l, ys, rfl, hm, e2, e1, e3, r⟩
    · cases e
  · cases e
theorem mt_ev (m : Mt) : MtM C (mtOf m).2 (rMt C.K m) := by
  intro pins s σ H x xs v us Q I rx rs h
  obtain ⟨ρ, μ, H0, a, as, z, μ', R, ra, rag, e, k⟩ := h
  obtain ⟨n, ps, l, ys, rfl, hm, hl, rfl, hH, r⟩ := mtA_list R ra e
  simp only [mtA, hm] at e
  cases m with
  | extend =>
    match as, rag, e with
    | [], _, e => cases e
    | [b], rag, e =>
      obtain ⟨y, rfl, r1⟩ := rag.one
      cases hz : mview μ b with
      | none => simp [hz] at e
      | some zs =>
        simp only [hz] at e
        obtain ⟨hsz, e⟩ := some_if e
        cases e
        obtain ⟨l2, vs, e1, s1, r2⟩ := mview_at R r1 hz
        subst e1
        exact mt_extend pins s σ H _ _ v us Q I rx rs ⟨l, l2, ys, vs, rfl, rfl, hH, s1, by rw [← r.length, ← r2.length]; exact hsz, k _ _ (Post.write R hl (r.append r2)) (by simp [RA, RV])⟩
    | _ :: _ :: _, _, e => cases e
  | pop0 =>
    match as, rag, e with
    | [], rag, e =>
      have rag : xs = [] := rag
      subst rag
      cases hz : ps[ps.length - 1]? with
      | none => simp [hz] at e
      | some y =>
        simp only [hz] at e
        cases e
        obtain ⟨w, h1, h2⟩ := r.get hz
        have P := Post.write R hl r.dropLast
        exact mt_pop pins s σ H _ _ v us Q I rx rs ⟨l, ys, w, rfl, rfl, hH, by rw [← r.length]; exact h1, k _ _ P (RV.las (P.las R) _ _ h2)⟩
    | _ :: _, _, e => cases e
  | pop1 =>
    match as, rag, e with
    | [], _, e => cases e
    | [b], rag, e =>
      obtain ⟨y, rfl, r1⟩ := rag.one
      cases b with
      | l _ => cases e
      | v p =>
        cases p with
        | int i =>
          simp only [RA, RV] at r1
          subst r1
          simp only at e
          split at e
          · rename_i hb
            cases hk : seqIndex? i ps.length with
            | none => simp [hk] at e
            | some j =>
              simp only [hk] at e
              cases hz : ps[j]? with
              | none => simp [hz] at e
              | some y =>
                simp only [hz] at e
                cases e
                obtain ⟨w, h1, h2⟩ := r.get hz
                have P := Post.write R hl (r.eraseIdx j)
                exact mt_popAt pins s σ H _ _ v us Q I rx rs ⟨l, ys, i, j, w, rfl, rfl, hH, (Sm.w hb).1, (Sm.w hb).2, by rw [← r.length]; exact hk, h1, k _ _ P (RV.las (P.las R) _ _ h2)⟩
          · cases e
        | _ => cases e
    | _ :: _ :: _, _, e => simp at e
/-- o.append(y), y held -/
def rApE (K : PySem.W.Frag) : V → List V → Hp → VK → Prop := fun x vs H Q => ∃ ρ μ H0 a p z μ' y, Rel K ρ μ H ∧ RA K H0 ρ H a x ∧ vs = [y] ∧ RV K ρ H p y ∧ appA a p μ = some (z, μ') ∧ ∀ H', Post K ρ H ρ μ' H' → z = .v .non → Q .non H'
theorem app_ev : MtM C "list.append" (rApE C.K) := by
  intro pins s σ H x xs v us Q I rx rs h
  obtain ⟨ρ, μ, H0, a, p, z, μ', y, R, ra, rfl, rp, e, k⟩ := h
  unfold appA at e
  split at e
  · rename_i n
    split at e
    · rename_i ps hm
      obtain ⟨hsz, e⟩ := some_if e
      cases e
      obtain ⟨l, e1, e2⟩ := ra
      obtain ⟨b, hb, ys, e3, r⟩ := R.at_ _ _ hm
      rw [e2] at hb
      cases hb
      subst e1
      exact mt_append pins s σ H _ _ v us Q I rx rs ⟨l, ys, y, rfl, rfl, e3, by rw [← r.length]; exact hsz, k _ (Post.write R e2 (r.append ⟨y, [], rfl, rp, rfl⟩)) rfl⟩
    · cases e
  · cases e
end
end Ev

set_option Elab.async false
set_option linter.all false
set_option maxRecDepth 100000
/-! EvE: the check that a term is the written text's. Own work. -/
namespace Ev
open PySem PySem.Spec PyProof.Rows L2
/-! ### the text -/
def visB (sc : Scope) (x : Str) : Bool := match sc.names.lookup x with
  | some .local => true
  | some .cell => true
  | some .free => true
  | _ => false
def glB (sc : Scope) (x : Str) : Bool := decide (sc.names.lookup x = some .globalImplicit)
def okN (x : Str) : Bool := !(x == ("__debug__" : Str)) && !(x == ("__classdict__" : Str)) && !decide (x = "__name__")
def noStar : Expr → Bool
  | .Starred _ _ => false
  | _ => true
def noSet : Expr → Bool
  | .Set _ _ _ => false
  | _ => true
def noSlice : Expr → Bool
  | .Slice _ _ _ _ => false
  | _ => true
def noSuper : Expr → Bool
  | .Call (.Name id _) [] [] _ => id != "super"
  | _ => true
def noComp : Expr → Bool
  | .ListComp _ _ _ _ | .SetComp _ _ _ _ | .DictComp _ _ _ _ _ => false
  | _ => true
def lineB (p q : Pos) : Bool := p.endLine == q.line
def gName (sc : Scope) (x : String) : Expr → Bool
  | .Name y _ => decide (y = Str.ofString x) && glB sc y && okN y
  | _ => false
def ownOf (N : List Str) (tg : Tg) : List (Str × Nat) := tg.slots.map fun i => (N.getD i Str.empty, i)
def biNm : Bi → String
  | .len => "len" | .int => "int" | .max2 => "max" | .min2 => "min" | .tuple => "tuple" | .list => "list" | .abs => "abs"
def locB (sc : Scope) (x : Str) : Bool := match sc.names.lookup x with
  | some .local => true
  | some .cell => true
  | _ => false
def isTup : Expr → Bool
  | .Tuple _ _ _ => true
  | _ => false
mutual
/-- the target, as one thing -/
def chkT (N : List Str) (sc : Scope) : Tg → Expr → Bool
  | .nm i, .Name x _ => decide (N[i]? = some x) && locB sc x
  | .tup ts, .Tuple es _ _ => chkTs N sc ts es && decide (es.length = ts.len)
  | _, _ => false
def chkTs (N : List Str) (sc : Scope) : Tg → List Expr → Bool
  | .nil, [] => true
  | .cons t ts, e :: es => chkT N sc t e && chkTs N sc ts es && noStar e
  | _, _ => false
end
/-- the iterables that want a tuple for their target -/
def itTgt : X → Expr → Bool
  | .enum _, t => isTup t
  | .zip _ _, t => isTup t
  | _, _ => true
mutual
def chk (N : List Str) (fs : List String) : X → Bool → Scope → Expr → Bool
  | .var i, _, sc, .Name x _ => decide (N[i]? = some x) && visB sc x && okN x
  | .non, _, _, .Constant .none _ _ => true
  | .bl b, _, _, .Constant (.bool c) _ _ => b == c
  | .int i, _, _, .Constant (.int j) _ _ => decide (i = j)
  | .str s, _, _, .Constant (.str t) _ _ => decide (s = t)
  | .glo x, _, sc, e => gName sc x e
  | .tup es, hd, sc, .Tuple as _ _ => chks N fs es hd sc as
  | .lst es, hd, sc, .List as _ => chks N fs es hd sc as
  | .bin o a b, hd, sc, .BinOp x op y _ => decide (op = opOf o) && chk N fs a hd sc x && chk N fs b hd sc y
  | .neg a, hd, sc, .UnaryOp op x _ => decide (op = .USub) && chk N fs a hd sc x
  | .not a, hd, sc, .UnaryOp op x _ => decide (op = .Not) && chk N fs a hd sc x
  | .and a b, hd, sc, .BoolOp op (x :: y :: rest) p => decide (op = .And) && chk N fs a hd sc x && (match rest with | [] => chk N fs b hd sc y | _ => chk N fs b hd sc (.BoolOp .And (y :: rest) p))
  | .or a b, hd, sc, .BoolOp op (x :: y :: rest) p => decide (op = .Or) && chk N fs a hd sc x && (match rest with | [] => chk N fs b hd sc y | _ => chk N fs b hd sc (.BoolOp .Or (y :: rest) p))
  | .ite c a b, hd, sc, .IfExp x y z _ => chk N fs c hd sc x && chk N fs a hd sc y && chk N fs b hd sc z
  | .cmp o a b, hd, sc, .Compare x [op] [y] _ => decide (op = cmOf o) && chk N fs a hd sc x && chk N fs b hd sc y && noSet y
  | .chain o o' a b c, hd, sc, .Compare x [op, op'] [y, z] _ => decide (op = cmOf o) && decide (op' = cmOf o') && chk N fs a hd sc x && chk N fs b hd sc y && chk N fs c hd sc z && noSet z
  | .isN a, hd, sc, .Compare x [op] [.Constant .none _ _] _ => decide (op = .Is) && chk N fs a hd sc x
  | .notN a, hd, sc, .Compare x [op] [.Constant .none _ _] _ => decide (op = .IsNot) && chk N fs a hd sc x
  | .ix a b, hd, sc, .Subscript x y _ => chk N fs a hd sc x && chk N fs b hd sc y && noSlice y
  | .slice a lo hi, hd, sc, .Subscript x (.Slice l h none _) _ => chk N fs a hd sc x && (match l with | none => chks N fs lo hd sc [] | some e => chks N fs lo hd sc [e]) && (match h with | none => chks N fs hi hd sc [] | some e => chks N fs hi hd sc [e])
  | .call f es, hd, sc, .Call g as [] _ => gName sc f g && chks N fs es hd sc as && !as.isEmpty && fs.contains f
  | .bi f es, hd, sc, .Call g as [] _ => gName sc (biNm f) g && chks N fs es hd sc as && !as.isEmpty
  | .isi a t, hd, sc, .Call g [x, ty] [] _ => gName sc "isinstance" g && chk N fs a hd sc x && noStar x && gName sc (tyOf t) ty
  | .mt m o es, hd, sc, .Call (.Attribute x nm p) as [] q => decide (nm = (mtOf m).1) && chk N fs o hd sc x && chks N fs es hd sc as && noSuper x && lineB p q && decide (as.length < 29)
  | .app o e, hd, sc, .Call (.Attribute x nm p) [y] [] q => decide (nm = "append") && chk N fs o hd sc x && chk N fs e hd sc y && noStar y && noSuper x && lineB p q
  | .conv t (.rng es), hd, sc, .Call g [.Call g' as [] _] [] _ => gName sc (if t = true then "tuple" else "list") g && gName sc "range" g' && chks N fs es hd sc as && (decide (as.length = 1) || decide (as.length = 2))
  | .rev a, hd, sc, .Subscript x (.Slice none none (some (.UnaryOp .USub (.Constant (.int 1) _ _) _)) _) _ => chk N fs a hd sc x
  | .sortL a, hd, sc, .Call g [x] [] _ => gName sc "sorted" g && chk N fs a hd sc x && noStar x
  | .sortSet a, hd, sc, .Call g [.Call g' [x] [] _] [] _ => gName sc "sorted" g && gName sc "set" g' && chk N fs a hd sc x && noStar x
  | .comp tg it cond elt, hd, sc, .ListComp e [⟨t, i, ifs, asy⟩] scope _ => decide (asy = 0) && blkC N sc scope (ownOf N tg) && chkT N scope tg t && chk N fs it hd sc i && itTgt it t && noSet i && chks N fs cond false (relS scope sc) ifs && decide (ifs.length ≤ 1) && chk N fs elt false (relS scope sc) e
  | .heard g body, hd, sc, .Call f [.Lambda as e scope _] [] _ => hd && gName sc g f && LamX.lamSB sc scope && chk N fs body false scope e && as.posonlyargs.isEmpty && as.args.isEmpty && as.kwonlyargs.isEmpty && as.vararg.isNone && as.kwarg.isNone && as.defaults.isEmpty && as.kw_defaults.isEmpty
  | .rng es, hd, sc, .Call g as [] _ => gName sc "range" g && chks N fs es hd sc as && (decide (as.length = 1) || decide (as.length = 2))
  | .enum a, hd, sc, .Call g [x] [] _ => gName sc "enumerate" g && chk N fs a hd sc x && noStar x
  | _, _, _, _ => false
termination_by structural x => x
def chks (N : List Str) (fs : List String) : X → Bool → Scope → List Expr → Bool
  | .nil, _, _, [] => true
  | .cons e es, hd, sc, a :: as => chk N fs e hd sc a && noStar a && chks N fs es hd sc as
  | _, _, _, _ => false
termination_by structural x => x
end
/-- a, b = x, y stored from the right: as the model has it -/
def parB (sc : Scope) (N : List Str) (is : List Nat) (ts vs : List Expr) : Bool :=
  decide (sc.kind = .function) && !vs.all (foldedForSure 8) && !vs.all (constantsAlone 8) && vs.all noStar && decide (is.Nodup) && decide (ts.length = is.length) && decide (vs.length = is.length) &&
    (List.zip is ts).all fun p => match p.2 with
      | .Name x q => decide (N[p.1]? = some x) && decide (sc.names.lookup x = some .local) && (q.line == ((ts.head?.map (·.pos.line)).getD 0))
      | _ => false
/-- the target and value of a plain assignment: nothing is swapped -/
def plainB (sc : Scope) (t v : Expr) : Bool := match t, v with
  | .Tuple ts _ _, .Tuple vs _ _ => vs.all (foldedForSure 8) || (ts.filterMap fun | .Name id pos => if sc.names.lookup id == some .local && pos.line == (ts.head?.map (·.pos.line)).getD 0 then some id else none | _ => none).length != ts.length
  | .Tuple _ _ _, _ => true
  | .Name x q, .ListComp _ _ s p => !(decide (sc.names.lookup x = some .local) && (q.line == p.line) && !(s.names.any fun y => y.1 == x && (y.2 == .local || y.2 == .cell)))
  | .Name _ _, _ => noComp v
  | _, _ => false
/-- x = [..] kept by the machine till the comprehension's own names are gone -/
def swapB (sc : Scope) (t v : Expr) : Bool := match t, v with
  | .Name x q, .ListComp _ _ s p => decide (sc.names.lookup x = some .local) && (q.line == p.line) && !(s.names.any fun y => y.1 == x && (y.2 == .local || y.2 == .cell))
  | _, _ => false
def chkS (N : List Str) (fs cs : List String) (hd : Bool) (sc : Scope) : S → Stmt → Bool
  | .asg tg e, .Assign [t] v _ => chkT N sc tg t && chk N fs e hd sc v && (plainB sc t v || swapB sc t v)
  | .par2 i j a b, .Assign [.Tuple ts _ _] (.Tuple vs _ _) _ => parB sc N [i, j] ts vs && chks N fs (.cons a (.cons b .nil)) hd sc vs
  | .par3 i j k a b c, .Assign [.Tuple ts _ _] (.Tuple vs _ _) _ => parB sc N [i, j, k] ts vs && chks N fs (.cons a (.cons b (.cons c .nil))) hd sc vs
  | .setIx o i e, .Assign [.Subscript x y _] v _ => chk N fs o hd sc x && chk N fs i hd sc y && chk N fs e hd sc v && noSlice y
  | .expr e, .Expr v _ => chk N fs e hd sc v && noComp v
  | .ife c s t, .If x bs os _ => chk N fs c hd sc x && chkB N fs cs hd sc s bs && chkB N fs cs hd sc t os
  | .forr tg it s, .For t i bs [] _ => chkT N sc tg t && chk N fs it hd sc i && itTgt it t && noSet i && chkB N fs cs hd sc s bs
  | .whil c s, .While x bs [] _ => chk N fs c hd sc x && chkB N fs cs hd sc s bs
  | .ret e, .Return (some v) _ => chk N fs e hd sc v
  | .retN, .Return none _ => true
  | .raise c e, .Raise (some (.Call g [x] [] _)) none _ => gName sc c g && chk N fs e hd sc x && noStar x && cs.contains c
  | .pass, .Pass _ => true
  | .brk, .Break _ => true
  | .cont, .Continue _ => true
  | _, _ => false
where chkB (N : List Str) (fs cs : List String) (hd : Bool) (sc : Scope) : S → List Stmt → Bool
  | .nil, [] => true
  | .seq s t, a :: as => chkS N fs cs hd sc s a && chkS.chkB N fs cs hd sc t as
  | _, _ => false
end Ev

set_option Elab.async false
set_option linter.all false
set_option maxRecDepth 100000
/-! EvF: an expression does what its term's readings tell. Own work. -/
namespace Ev
open PySem PySem.Spec PyProof.Rows L2
variable [Tb]
open Classical
abbrev whatS : Str := Str.ofString "what"
section
variable (K : PySem.W.Frag) (W : WX)
/-- a refusal that leaves, as it is wanted -/
def EXC (ρ : List Addr) (H : Hp) (σ : L2.St) : String → PV → Mu → Prop := fun c w μ' => ∀ ρ' H' d wv, Post K ρ H ρ' μ' H' → RV K ρ' H' w wv → H' d = some (.xd [(whatS, wv)]) → W (.ref (He.ga K (Str.ofString c))) (some d) σ H'
def tX {α β : Type} (RR : Hp → List Addr → Mu → Hp → α → β → Prop) (d : Sg → Mu → Out α) : L2.St → Hp → (β → Hp → Prop) → Prop := fun σ H Q =>
  ∃ ρ μ σp, Rel K ρ μ H ∧ RS K ρ H σp σ ∧ (d σp μ).sat (fun x μ' => ∀ ρ' v H', Post K ρ H ρ' μ' H' → RR H ρ' μ' H' x v → Q v H') (EXC K W ρ H σ)
/-- J walks the items, while the lists at src stay -/
def Walks (ρ : List Addr) (μ : Mu) (H : Hp) (its : Its) (J : It) : Prop := ∀ ρ2 μ2 H2, Post K ρ H ρ2 μ2 H2 → stay μ μ2 its.2 →
  (∀ i, i < its.1.length → J.go i H2) ∧ J.stop its.1.length H2 ∧ ∀ i x H3, i < its.1.length → J.yld i H2 x H3 → ∃ p, its.1[i]? = some p ∧ RV K ρ2 H3 p x ∧ Post K ρ2 H2 ρ2 μ2 H3
abbrev tA (d : Sg → Mu → Out Ag) : TE := tX K W (fun H ρ' _ H' x v => RA K H ρ' H' x v) d
abbrev tT (d : Sg → Mu → Out Bool) : TT := tX K W (fun _ _ _ _ b c => b = c) d
abbrev tS (d : Sg → Mu → Out (List PV)) : TA := tX K W (fun _ ρ' _ H' xs vs => RVs K ρ' H' xs vs) d
abbrev tG (d : Sg → Mu → Out (List Ag)) : TA := tX K W (fun H ρ' _ H' xs vs => RAs K H ρ' H' xs vs) d
abbrev tI (d : Sg → Mu → Out Its) : TI := tX K W (fun _ ρ' μ' H' x J => Walks K ρ' μ' H' x J) d
abbrev tF (d : Sg → Mu → Out PV) : TE := tX K W (fun _ ρ' _ H' x v => RV K ρ' H' x v) d
end
section
variable {K : PySem.W.Frag} {W : WX} {ρ ρ0 : List Addr} {H H0 : Hp} {μ : Mu} {σ : L2.St} {σp : Sg}
theorem EXC.post {ρ1 : List Addr} {H1 : Hp} {μ1 : Mu} (P : Post K ρ H ρ1 μ1 H1) {c : String} {w : PV} {μ' : Mu} (h : EXC K W ρ H σ c w μ') : EXC K W ρ1 H1 σ c w μ' := fun ρ' H' d wv P2 r e => h ρ' H' d wv (P.trans P2) r e
/-- one step, then the rest -/
theorem tX_step {α β γ : Type} {RR : Hp → List Addr → Mu → Hp → α → β → Prop} {d : Sg → Mu → Out α} {f : α → Mu → Out γ} {P : γ → Mu → Prop} {Q : β → Hp → Prop} (R : Rel K ρ μ H) (P0 : Post K ρ0 H0 ρ μ H) (S : RS K ρ H σp σ)
    (h : ((d σp μ).bind f).sat P (EXC K W ρ0 H0 σ))
    (k : ∀ x μ1 ρ1 v H1, Post K ρ H ρ1 μ1 H1 → RR H ρ1 μ1 H1 x v → (f x μ1).sat P (EXC K W ρ0 H0 σ) → Q v H1) : tX K W RR d σ H Q :=
  ⟨ρ, μ, σp, R, S, sat_mono (sat_bind h) (fun x μ1 hx ρ1 v H1 P1 r => k x μ1 ρ1 v H1 P1 r hx) fun _ _ _ e => e.post P0⟩
theorem tX_stepE {α β γ : Type} {RR : Hp → List Addr → Mu → Hp → α → β → Prop} {d : Sg → Mu → Out α} {f : α → Mu → Out γ} {P : γ → Mu → Prop} {Q : β → Hp → Prop} (R : Rel K ρ μ H) (P0 : Post K ρ0 H0 ρ μ H) (S : RS K ρ H σp σ)
    (h : ((d σp μ).bind f).sat P (EXC K W ρ0 H0 σ))
    (k : ∀ x μ1 ρ1 v H1, d σp μ = .ok x μ1 → Post K ρ H ρ1 μ1 H1 → RR H ρ1 μ1 H1 x v → (f x μ1).sat P (EXC K W ρ0 H0 σ) → Q v H1) : tX K W RR d σ H Q := by
  refine ⟨ρ, μ, σp, R, S, ?_⟩
  have h' := sat_bind h
  cases hd : d σp μ with
  | bad => rw [hd] at h'; exact h'.elim
  | exc c w μ' => rw [hd] at h'; exact h'.post P0
  | ok x μ1 => rw [hd] at h'; exact fun ρ1 v H1 P1 r => k x μ1 ρ1 v H1 hd P1 r h'
/-- the whole -/
theorem tX_mono {α β : Type} {RR : Hp → List Addr → Mu → Hp → α → β → Prop} {d : Sg → Mu → Out α} {P : α → Mu → Prop} {Q : β → Hp → Prop} (R : Rel K ρ μ H) (P0 : Post K ρ0 H0 ρ μ H) (S : RS K ρ H σp σ)
    (h : (d σp μ).sat P (EXC K W ρ0 H0 σ)) (k : ∀ x μ1 ρ1 v H1, Post K ρ H ρ1 μ1 H1 → RR H ρ1 μ1 H1 x v → P x μ1 → Q v H1) : tX K W RR d σ H Q :=
  ⟨ρ, μ, σp, R, S, sat_mono h (fun x μ1 hx ρ1 v H1 P1 r => k x μ1 ρ1 v H1 P1 r hx) fun _ _ _ e => e.post P0⟩
end
/-! ### rules under weaker readings -/
section
variable {C : Cx} {a b c : Expr} {es : List Expr} {pos : Pos}
theorem _root_.L2.PE.imp {t t' : TE} (h : PE C a t) (hi : ∀ σ H Q, t' σ H Q → t σ H Q) : PE C a t' := ⟨fun pins s σ H Q I q => h.run pins s σ H Q I (hi σ H Q q)⟩
theorem _root_.L2.PT.imp {t t' : TT} (h : PT C a t) (hi : ∀ σ H Q, t' σ H Q → t σ H Q) : PT C a t' := ⟨fun pins s σ H Q I q => h.run pins s σ H Q I (hi σ H Q q)⟩
theorem _root_.L2.PW.imp {t t' : TT} (h : PW C a t) (hi : ∀ σ H Q, t' σ H Q → t σ H Q) : PW C a t' := ⟨fun wh pins s σ H Q I q => h.run wh pins s σ H Q I (hi σ H Q q)⟩
theorem _root_.L2.PA.imp {t t' : TA} (h : PA C es t) (hi : ∀ σ H Q, t' σ H Q → t σ H Q) : PA C es t' := ⟨fun ps pins s σ H Q I q => h.run ps pins s σ H Q I (hi σ H Q q)⟩
theorem _root_.L2.PI.imp {tg : Expr} {t t' : TI} (h : PI C tg a t) (hi : ∀ σ H Q, t' σ H Q → t σ H Q) : PI C tg a t' := ⟨fun pins s σ H Q I q => h.run pins s σ H Q I (hi σ H Q q)⟩
theorem _root_.L2.PTs.imp {t t' : TT} (h : PTs C es t) (hi : ∀ σ H Q, t' σ H Q → t σ H Q) : PTs C es t' := ⟨fun pins s σ H Q I q => h.run pins s σ H Q I (hi σ H Q q)⟩
/-- a rule that is chosen by what the reading tells -/
theorem _root_.L2.PE.by {t : TE} (h : ∀ σ H Q, t σ H Q → ∃ t' : TE, PE C a t' ∧ t' σ H Q) : PE C a t := ⟨fun pins s σ H Q I q => by
  obtain ⟨t', p, q'⟩ := h σ H Q q
  exact p.run pins s σ H Q I q'⟩
theorem _root_.L2.PI.by {tg : Expr} {t : TI} (h : ∀ σ H Q, t σ H Q → ∃ t' : TI, PI C tg a t' ∧ t' σ H Q) : PI C tg a t := ⟨fun pins s σ H Q I q => by
  obtain ⟨t', p, q'⟩ := h σ H Q q
  exact p.run pins s σ H Q I q'⟩
/-- what is bad is told of nothing -/
theorem tX_bad {K : PySem.W.Frag} {W : WX} {α β : Type} {RR : Hp → List Addr → Mu → Hp → α → β → Prop} {σ : L2.St} {H : Hp} {Q : β → Hp → Prop} (h : tX K W RR (fun _ _ => .bad) σ H Q) : False := by
  obtain ⟨_, _, _, _, _, h⟩ := h
  exact h
theorem pe_bad {W : WX} : PE C a (tA C.K W fun _ _ => .bad) := ⟨fun _ _ _ _ _ _ h => (tX_bad h).elim⟩
theorem pt_bad {W : WX} : PT C a (tT C.K W fun _ _ => .bad) := ⟨fun _ _ _ _ _ _ h => (tX_bad h).elim⟩
theorem pi_bad {W : WX} {tg : Expr} : PI C tg a (tI C.K W fun _ _ => .bad) := ⟨fun _ _ _ _ _ _ h => (tX_bad h).elim⟩
theorem pa_badS {W : WX} : PA C es (tS C.K W fun _ _ => .bad) := ⟨fun _ _ _ _ _ _ _ h => (tX_bad h).elim⟩
theorem pa_badG {W : WX} : PA C es (tG C.K W fun _ _ => .bad) := ⟨fun _ _ _ _ _ _ _ h => (tX_bad h).elim⟩
end
theorem it_t {A B : Prop} (h : A) : if true = true then A else B := by rw [if_pos rfl]; exact h
theorem it_f {A B : Prop} (h : B) : if false = true then A else B := by rw [if_neg Bool.false_ne_true]; exact h
/-! ### expressions -/
section
variable {C : Cx} {W : WX} {a b c : Expr} {es : List Expr} {pos : Pos} {da db dc : Sg → Mu → Out Ag} {ta tb tc : Sg → Mu → Out Bool}
/-- what the evaluator walks -/
theorem Walks.src {K : PySem.W.Frag} {ρ : List Addr} {μ : Mu} {H : Hp} {xs : List PV} {s s' : List Nat} {J : It} (h : Walks K ρ μ H (xs, s) J) (hs : ∀ n ∈ s, n ∈ s') : Walks K ρ μ H (xs, s') J := fun ρ2 μ2 H2 P st => h ρ2 μ2 H2 P fun n hn => st n (hs n hn)
/-- a written value -/
theorem s_con {p : PV} {v : V} (r : ∀ ρ H, RV C.K ρ H p v) (h : PE C a (tC v)) : PE C a (tA C.K W fun _ μ => .ok (.v p) μ) := h.imp fun σ H Q q => by
  obtain ⟨ρ, μ, σp, R, S, q⟩ := q
  exact q ρ v H (Post.refl R) (r ρ H)
theorem s_var {i : Nat} (h : PE C a (tVar i)) : PE C a (tA C.K W fun σ μ => lift (varA σ i) μ) := h.imp fun σ H Q q => by
  obtain ⟨ρ, μ, σp, R, S, q⟩ := q
  obtain ⟨x, e, k⟩ := sat_lift q
  unfold varA at e
  split at e
  · rename_i p hp
    cases e
    obtain ⟨v, h1, h2⟩ := S.at_ i p hp
    exact ⟨v, h1, k ρ v H (Post.refl R) h2⟩
  · cases e
/-- held -/
theorem s_force (h : PE C a (tA C.K W da)) : PE C a (tF C.K W fun σ μ => (da σ μ).bind force) := h.imp fun σ H Q q => by
  obtain ⟨ρ, μ, σp, R, S, q⟩ := q
  refine tX_step R (Post.refl R) S q fun x μ1 ρ1 v H1 P1 r q => ?_
  cases x with
  | v p => exact q ρ1 v H1 P1 r
  | l xs =>
    obtain ⟨a, ys, e, e1, rs, n, f⟩ := r
    subst e
    obtain ⟨R2, L⟩ := Post.num P1.rel e1 n rs
    refine q (ρ1 ++ [a]) (.ref a) H1 ⟨?_, R2, P1.frm, fun b o e pr hn hb => ?_⟩ ?_
    · obtain ⟨t, e⟩ := P1.pre
      exact ⟨t ++ [a], by rw [e, List.append_assoc]⟩
    · rcases List.mem_append.mp hb with h | h
      · exact P1.out b o e pr hn h
      · rw [List.mem_singleton.mp h] at e
        exact f o e pr
    · simp only [RV]
      refine ⟨a, rfl, ?_⟩
      rw [← P1.rel.len, List.getElem?_append_right (Nat.le_refl _)]
      simp
theorem s_bin {o : Op2} {op : Operator} (ho : op = opOf o) (ha : PE C a (tA C.K W da)) (hb : PE C b (tA C.K W db)) : PE C (.BinOp a op b pos) (tA C.K W fun σ μ => (da σ μ).bind fun x μ1 => (db σ μ1).bind fun y μ2 => lift (op2 o x y μ2) μ2) := by
  subst ho
  refine (pe_op (op_ev o) ha hb).imp fun σ H Q q => ?_
  obtain ⟨ρ, μ, σp, R, S, q⟩ := q
  dsimp only at q
  dsimp only [tOp, tTest, tNot, tIf, tUn, tIsN, tNotN, tB, tAnd, tOr, rU]
  refine tX_step R (Post.refl R) S q fun x μ1 ρ1 v H1 P1 r1 q => ?_
  refine tX_step P1.rel P1 (S.las (P1.las R)) q fun y μ2 ρ2 w H2 P2 r2 q => ?_
  obtain ⟨z, e, k⟩ := sat_lift q
  have P12 := P1.trans P2
  refine ⟨ρ2, μ2, H, x, y, z, P2.rel, r1.post P1.rel P2, r2.back P1 fun _ h => P2.mem h, e, fun u H3 P3 r3 => k ρ2 u H3 (P12.trans P3) (r3.back P12 fun _ h => h)⟩
theorem s_cmpV {o : Cm} {op : CmpOp} (hr : Room 1 C.A) (ho : op = cmOf o) (hn : noSet b = true) (ha : PE C a (tA C.K W da)) (hb : PE C b (tA C.K W db)) :
    PE C (.Compare a [op] [b] pos) (tA C.K W fun σ μ => ((da σ μ).bind fun x μ1 => (db σ μ1).bind fun y μ2 => lift (cmA o x y μ2) μ2).bind fun b μ1 => .ok (.v (.bl b)) μ1) := by
  subst ho
  have hm : behindInMarks (cmOf o) b = false := by
    cases b <;> first | rfl | cases hn
  refine (pe_cmpR (op_cm hr o) ha hb hm).imp fun σ H Q q => ?_
  obtain ⟨ρ, μ, σp, R, S, q⟩ := q
  dsimp only at q
  dsimp only [tOp, tTest, tNot, tIf, tUn, tIsN, tNotN, tB, tAnd, tOr, rU]
  rw [Out.bind_assoc] at q
  refine tX_step R (Post.refl R) S q fun x μ1 ρ1 v H1 P1 r1 q => ?_
  rw [Out.bind_assoc] at q
  refine tX_step P1.rel P1 (S.las (P1.las R)) q fun y μ2 ρ2 w H2 P2 r2 q => ?_
  obtain ⟨z, e, k⟩ := sat_lift (sat_bind q)
  have P12 := P1.trans P2
  exact ⟨ρ2, μ2, H, x, y, z, P2.rel, r1.post P1.rel P2, r2.back P1 fun _ h => P2.mem h, e, k ρ2 _ H2 P12 (by simp [RA, RV])⟩
theorem s_cmpT {o : Cm} {op : CmpOp} (hr : Room 1 C.A) (ho : op = cmOf o) (hn : noSet b = true) (ha : PE C a (tA C.K W da)) (hb : PE C b (tA C.K W db)) :
    PT C (.Compare a [op] [b] pos) (tT C.K W fun σ μ => (da σ μ).bind fun x μ1 => (db σ μ1).bind fun y μ2 => lift (cmA o x y μ2) μ2) := by
  subst ho
  have hm : behindInMarks (cmOf o) b = false := by
    cases b <;> first | rfl | cases hn
  refine (pt_cmpR (op_cm hr o) ha hb hm).imp fun σ H Q q => ?_
  obtain ⟨ρ, μ, σp, R, S, q⟩ := q
  dsimp only at q
  dsimp only [tOp, tTest, tNot, tIf, tUn, tIsN, tNotN, tB, tAnd, tOr, rU]
  refine tX_step R (Post.refl R) S q fun x μ1 ρ1 v H1 P1 r1 q => ?_
  refine tX_step P1.rel P1 (S.las (P1.las R)) q fun y μ2 ρ2 w H2 P2 r2 q => ?_
  obtain ⟨z, e, k⟩ := sat_lift q
  have P12 := P1.trans P2
  exact ⟨ρ2, μ2, H, x, y, z, P2.rel, r1.post P1.rel P2, r2.back P1 fun _ h => P2.mem h, e, z, rfl, k ρ2 _ H2 P12 rfl⟩
/-- any expression as a test, by its value's truth -/
theorem s_tru (he : ∀ whole, isTrue a C.env whole = (do let v ← whole; standAt a.pos; holding [v] (truthy v))) (ha : PE C a (tA C.K W da)) : PT C a (tT C.K W fun σ μ => (da σ μ).bind fun x μ1 => lift (truA μ1 x) μ1) := by
  refine ⟨fun pins s σ H Q I q => ?_⟩
  obtain ⟨ρ, μ, σp, R, S, q⟩ := q
  have h1 : tA C.K W da σ H (fun v H1 => ∃ ρ μ H0 a z, Rel C.K ρ μ H1 ∧ RA C.K H0 ρ H1 a v ∧ truA μ a = some z ∧ Q z H1) := by
    refine tX_step R (Post.refl R) S q fun x μ1 ρ1 v H1 P1 r1 q => ?_
    obtain ⟨z, e, k⟩ := sat_lift q
    exact ⟨ρ1, μ1, H, x, z, P1.rel, r1, e, k ρ1 z H1 P1 rfl⟩
  exact isTrue_plain (thn (ha.run pins s σ H _ I h1) fun v s1 ⟨x, H1, I1, r1, q1⟩ => tru_ev pins s1 σ H1 x v Q I1 r1 q1) (he _)
theorem s_notV (ha : PE C a (tA C.K W da)) : PE C (.UnaryOp .Not a pos) (tA C.K W fun σ μ => (da σ μ).bind fun x μ1 => (lift (truA μ1 x) μ1).bind fun b μ2 => .ok (.v (.bl (!b))) μ2) := by
  refine ⟨fun pins s σ H Q I q => ?_⟩
  obtain ⟨ρ, μ, σp, R, S, q⟩ := q
  have h1 : tA C.K W da σ H (fun v H1 => ∃ ρ μ H0 a z, Rel C.K ρ μ H1 ∧ RA C.K H0 ρ H1 a v ∧ truA μ a = some z ∧ Q (.bl (!z)) H1) := by
    refine tX_step R (Post.refl R) S q fun x μ1 ρ1 v H1 P1 r1 q => ?_
    obtain ⟨z, e, k⟩ := sat_lift (sat_bind q)
    exact ⟨ρ1, μ1, H, x, z, P1.rel, r1, e, k ρ1 _ H1 P1 (by simp [RA, RV])⟩
  refine UnaryOp_ (thn (ha.run pins s σ H _ I h1) fun v s1 ⟨x, H1, I1, r1, q1⟩ => ?_)
  exact not_of (thn (tru_ev pins s1 σ H1 x v (fun c H2 => Q (.bl (!c)) H2) I1 r1 q1) fun c s2 ⟨H2, I2, q2⟩ => ⟨.bl (!c), H2, I2, rfl, q2⟩)
theorem s_notT (ha : PT C a (tT C.K W ta)) : PT C (.UnaryOp .Not a pos) (tT C.K W fun σ μ => (ta σ μ).bind fun b μ1 => .ok (!b) μ1) := by
  refine (pt_not ha).imp fun σ H Q q => ?_
  obtain ⟨ρ, μ, σp, R, S, q⟩ := q
  dsimp only at q
  dsimp only [tOp, tTest, tNot, tIf, tUn, tIsN, tNotN, tB, tAnd, tOr, rU]
  refine tX_step R (Post.refl R) S q fun x μ1 ρ1 v H1 P1 r1 q => ?_
  subst r1
  exact q ρ1 _ H1 P1 rfl
theorem s_ifV (hc : PT C c (tT C.K W tc)) (ha : PE C a (tA C.K W da)) (hb : PE C b (tA C.K W db)) : PE C (.IfExp c a b pos) (tA C.K W fun σ μ => (tc σ μ).bind fun k μ1 => if k = true then da σ μ1 else db σ μ1) := by
  refine (pe_ifExp hc ha hb).imp fun σ H Q q => ?_
  obtain ⟨ρ, μ, σp, R, S, q⟩ := q
  dsimp only at q
  dsimp only [tOp, tTest, tNot, tIf, tUn, tIsN, tNotN, tB, tAnd, tOr, rU]
  refine tX_step R (Post.refl R) S q fun x μ1 ρ1 v H1 P1 r1 q => ?_
  subst r1
  have S1 := S.las (P1.las R)
  cases x with
  | true => exact it_t (tX_mono P1.rel P1 S1 q (by intro y μ2 ρ2 w H2 P2 r2 k; exact k ρ2 w H2 (P1.trans P2) (r2.back P1 fun _ h => P2.mem h)))
  | false => exact it_f (tX_mono P1.rel P1 S1 q (by intro y μ2 ρ2 w H2 P2 r2 k; exact k ρ2 w H2 (P1.trans P2) (r2.back P1 fun _ h => P2.mem h)))
theorem s_ifT (hc : PT C c (tT C.K W tc)) (ha : PT C a (tT C.K W ta)) (hb : PT C b (tT C.K W tb)) : PT C (.IfExp c a b pos) (tT C.K W fun σ μ => (tc σ μ).bind fun k μ1 => if k = true then ta σ μ1 else tb σ μ1) := by
  refine ⟨fun pins s σ H Q I q => ?_⟩
  obtain ⟨ρ, μ, σp, R, S, q⟩ := q
  have h1 : tT C.K W tc σ H (fun k H1 => if k = true then tT C.K W ta σ H1 Q else tT C.K W tb σ H1 Q) := by
    refine tX_step R (Post.refl R) S q fun x μ1 ρ1 v H1 P1 r1 q => ?_
    subst r1
    have S1 := S.las (P1.las R)
    cases x with
    | true => exact it_t (tX_mono P1.rel P1 S1 q (by intro y μ2 ρ2 w H2 P2 r2 k; exact k ρ2 w H2 (P1.trans P2) r2))
    | false => exact it_f (tX_mono P1.rel P1 S1 q (by intro y μ2 ρ2 w H2 P2 r2 k; exact k ρ2 w H2 (P1.trans P2) r2))
  refine isTrue_IfExp (thn (hc.run pins s σ H _ I h1) fun k s1 ⟨H1, I1, q1⟩ => ?_)
  cases k with
  | true => exact ha.run pins s1 σ H1 Q I1 q1
  | false => exact hb.run pins s1 σ H1 Q I1 q1
theorem s_one {op : BoolOp} {t : TE} (h : PE C a t) : PE C (.BoolOp op [a] pos) t := pe_one h
theorem s_andV {rest : List Expr} (ha : PE C a (tA C.K W da)) (hb : PE C (.BoolOp .And (b :: rest) pos) (tA C.K W db)) : PE C (.BoolOp .And (a :: b :: rest) pos) (tA C.K W fun σ μ => (da σ μ).bind fun x μ1 => (lift (truA μ1 x) μ1).bind fun c μ1 => if c = true then db σ μ1 else .ok x μ1) := by
  refine ⟨fun pins s σ H Q I q => ?_⟩
  obtain ⟨ρ, μ, σp, R, S, q⟩ := q
  have h1 : tA C.K W da σ H (fun v H1 => ∃ ρ μ H0 a z, Rel C.K ρ μ H1 ∧ RA C.K H0 ρ H1 a v ∧ truA μ a = some z ∧ if z = true then tA C.K W db σ H1 Q else Q v H1) := by
    refine tX_step R (Post.refl R) S q fun x μ1 ρ1 v H1 P1 r1 q => ?_
    obtain ⟨z, e, k⟩ := sat_lift (sat_bind q)
    refine ⟨ρ1, μ1, H, x, z, P1.rel, r1, e, ?_⟩
    cases z with
    | true => exact it_t (tX_mono P1.rel P1 (S.las (P1.las R)) k (by intro y μ2 ρ2 w H2 P2 r2 k; exact k ρ2 w H2 (P1.trans P2) (r2.back P1 fun _ h => P2.mem h)))
    | false => exact it_f (k ρ1 v H1 P1 r1)
  refine BoolOp_and (thn (ha.run pins s σ H _ I h1) fun v s1 ⟨x, H1, I1, r1, q1⟩ => ?_)
  obtain ⟨ρ1, μ1, H0, ag, z, R1, ra, e, q1⟩ := q1
  refine thn (tru_ev pins s1 σ H1 x v (fun c H2 => c = z ∧ H2 = H1) I1 r1 ⟨ρ1, μ1, H0, ag, z, R1, ra, e, rfl, rfl⟩) fun c s2 ⟨H2, I2, hc, hH⟩ => ?_
  subst hc hH
  cases c with
  | true => exact hb.run pins s2 σ _ Q I2 q1
  | false => exact ⟨x, _, I2, r1, q1⟩
theorem s_orV {rest : List Expr} (ha : PE C a (tA C.K W da)) (hb : PE C (.BoolOp .Or (b :: rest) pos) (tA C.K W db)) : PE C (.BoolOp .Or (a :: b :: rest) pos) (tA C.K W fun σ μ => (da σ μ).bind fun x μ1 => (lift (truA μ1 x) μ1).bind fun c μ1 => if c = true then .ok x μ1 else db σ μ1) := by
  refine ⟨fun pins s σ H Q I q => ?_⟩
  obtain ⟨ρ, μ, σp, R, S, q⟩ := q
  have h1 : tA C.K W da σ H (fun v H1 => ∃ ρ μ H0 a z, Rel C.K ρ μ H1 ∧ RA C.K H0 ρ H1 a v ∧ truA μ a = some z ∧ if z = true then Q v H1 else tA C.K W db σ H1 Q) := by
    refine tX_step R (Post.refl R) S q fun x μ1 ρ1 v H1 P1 r1 q => ?_
    obtain ⟨z, e, k⟩ := sat_lift (sat_bind q)
    refine ⟨ρ1, μ1, H, x, z, P1.rel, r1, e, ?_⟩
    cases z with
    | false => exact it_f (tX_mono P1.rel P1 (S.las (P1.las R)) k (by intro y μ2 ρ2 w H2 P2 r2 k; exact k ρ2 w H2 (P1.trans P2) (r2.back P1 fun _ h => P2.mem h)))
    | true => exact it_t (k ρ1 v H1 P1 r1)
  refine BoolOp_or (thn (ha.run pins s σ H _ I h1) fun v s1 ⟨x, H1, I1, r1, q1⟩ => ?_)
  obtain ⟨ρ1, μ1, H0, ag, z, R1, ra, e, q1⟩ := q1
  refine thn (tru_ev pins s1 σ H1 x v (fun c H2 => c = z ∧ H2 = H1) I1 r1 ⟨ρ1, μ1, H0, ag, z, R1, ra, e, rfl, rfl⟩) fun c s2 ⟨H2, I2, hc, hH⟩ => ?_
  subst hc hH
  cases c with
  | false => exact hb.run pins s2 σ _ Q I2 q1
  | true => exact ⟨x, _, I2, r1, q1⟩
theorem s_andT {rest : List Expr} (ha : PT C a (tT C.K W ta)) (hb : PW C (.BoolOp .And (b :: rest) pos) (tT C.K W tb)) : PW C (.BoolOp .And (a :: b :: rest) pos) (tT C.K W fun σ μ => (ta σ μ).bind fun c μ1 => if c = true then tb σ μ1 else .ok false μ1) := by
  refine (pw_and ha hb).imp fun σ H Q q => ?_
  obtain ⟨ρ, μ, σp, R, S, q⟩ := q
  dsimp only at q
  dsimp only [tOp, tTest, tNot, tIf, tUn, tIsN, tNotN, tB, tAnd, tOr, rU]
  refine tX_step R (Post.refl R) S q fun x μ1 ρ1 v H1 P1 r1 q => ?_
  subst r1
  cases x with
  | true => exact it_t (tX_mono P1.rel P1 (S.las (P1.las R)) q (by intro y μ2 ρ2 w H2 P2 r2 k; exact k ρ2 w H2 (P1.trans P2) r2))
  | false => exact it_f (q ρ1 false H1 P1 rfl)
theorem s_orT {rest : List Expr} (ha : PT C a (tT C.K W ta)) (hb : PW C (.BoolOp .Or (b :: rest) pos) (tT C.K W tb)) : PW C (.BoolOp .Or (a :: b :: rest) pos) (tT C.K W fun σ μ => (ta σ μ).bind fun c μ1 => if c = true then .ok true μ1 else tb σ μ1) := by
  refine (pw_or ha hb).imp fun σ H Q q => ?_
  obtain ⟨ρ, μ, σp, R, S, q⟩ := q
  dsimp only at q
  dsimp only [tOp, tTest, tNot, tIf, tUn, tIsN, tNotN, tB, tAnd, tOr, rU]
  refine tX_step R (Post.refl R) S q fun x μ1 ρ1 v H1 P1 r1 q => ?_
  subst r1
  cases x with
  | false => exact it_f (tX_mono P1.rel P1 (S.las (P1.las R)) q (by intro y μ2 ρ2 w H2 P2 r2 k; exact k ρ2 w H2 (P1.trans P2) r2))
  | true => exact it_t (q ρ1 true H1 P1 rfl)
theorem s_neg (ha : PE C a (tA C.K W da)) : PE C (.UnaryOp .USub a pos) (tA C.K W fun σ μ => (da σ μ).bind fun x μ1 => lift ((intOf x).map fun i => .v (.int (-i))) μ1) := by
  refine (pe_un un_neg ha).imp fun σ H Q q => ?_
  obtain ⟨ρ, μ, σp, R, S, q⟩ := q
  dsimp only at q
  dsimp only [tOp, tTest, tNot, tIf, tUn, tIsN, tNotN, tB, tAnd, tOr, rU]
  refine tX_step R (Post.refl R) S q fun x μ1 ρ1 v H1 P1 r1 q => ?_
  obtain ⟨z, e, k⟩ := sat_lift q
  obtain ⟨i, hi, e⟩ := map_some e
  exact ⟨i, int_at r1 hi, k ρ1 _ H1 P1 (by rw [← e]; simp [RA, RV])⟩
theorem isNone_at {K : PySem.W.Frag} {ρ : List Addr} {H H0 : Hp} {x : Ag} {v : V} (r : RA K H0 ρ H x v) : isNone x = decide (v = .non) := by
  cases x with
  | l xs =>
    obtain ⟨a, ys, e, _⟩ := r
    subst e
    rfl
  | v p =>
    cases p <;> simp only [RA, RV] at r <;> first
      | (subst r; rfl)
      | (obtain ⟨a, ys, e, _⟩ := r; subst e; rfl)
      | (obtain ⟨a, e, _⟩ := r; subst e; rfl)
theorem s_isNV {j : Nat} {p : Pos} (ha : PE C a (tA C.K W da)) : PE C (.Compare a [.Is] [.Constant .none j p] pos) (tA C.K W fun σ μ => ((da σ μ).bind fun x μ1 => .ok (isNone x) μ1).bind fun b μ1 => .ok (.v (.bl b)) μ1) := by
  refine (pe_cmp (pc_isN ha)).imp fun σ H Q q => ?_
  obtain ⟨ρ, μ, σp, R, S, q⟩ := q
  dsimp only at q
  dsimp only [tOp, tTest, tNot, tIf, tUn, tIsN, tNotN, tB, tAnd, tOr, rU]
  rw [Out.bind_assoc] at q
  refine tX_step R (Post.refl R) S q fun x μ1 ρ1 v H1 P1 r1 q => ?_
  exact q ρ1 _ H1 P1 (by simp only [RA, RV]; rw [isNone_at r1])
theorem s_isNT {j : Nat} {p : Pos} (ha : PE C a (tA C.K W da)) : PT C (.Compare a [.Is] [.Constant .none j p] pos) (tT C.K W fun σ μ => (da σ μ).bind fun x μ1 => .ok (isNone x) μ1) := by
  refine (pt_cmp (pc_isN ha)).imp fun σ H Q q => ?_
  obtain ⟨ρ, μ, σp, R, S, q⟩ := q
  dsimp only at q
  dsimp only [tOp, tTest, tNot, tIf, tUn, tIsN, tNotN, tB, tAnd, tOr, rU]
  refine tX_step R (Post.refl R) S q fun x μ1 ρ1 v H1 P1 r1 q => ?_
  exact ⟨_, rfl, q ρ1 _ H1 P1 (isNone_at r1)⟩
theorem s_notNV {j : Nat} {p : Pos} (ha : PE C a (tA C.K W da)) : PE C (.Compare a [.IsNot] [.Constant .none j p] pos) (tA C.K W fun σ μ => ((da σ μ).bind fun x μ1 => .ok (!isNone x) μ1).bind fun b μ1 => .ok (.v (.bl b)) μ1) := by
  refine (pe_cmp (pc_notN ha)).imp fun σ H Q q => ?_
  obtain ⟨ρ, μ, σp, R, S, q⟩ := q
  dsimp only at q
  dsimp only [tOp, tTest, tNot, tIf, tUn, tIsN, tNotN, tB, tAnd, tOr, rU]
  rw [Out.bind_assoc] at q
  refine tX_step R (Post.refl R) S q fun x μ1 ρ1 v H1 P1 r1 q => ?_
  exact q ρ1 _ H1 P1 (by simp only [RA, RV]; rw [isNone_at r1])
theorem s_notNT {j : Nat} {p : Pos} (ha : PE C a (tA C.K W da)) : PT C (.Compare a [.IsNot] [.Constant .none j p] pos) (tT C.K W fun σ μ => (da σ μ).bind fun x μ1 => .ok (!isNone x) μ1) := by
  refine (pt_cmp (pc_notN ha)).imp fun σ H Q q => ?_
  obtain ⟨ρ, μ, σp, R, S, q⟩ := q
  dsimp only at q
  dsimp only [tOp, tTest, tNot, tIf, tUn, tIsN, tNotN, tB, tAnd, tOr, rU]
  refine tX_step R (Post.refl R) S q fun x μ1 ρ1 v H1 P1 r1 q => ?_
  exact ⟨_, rfl, q ρ1 _ H1 P1 (by rw [isNone_at r1])⟩
end
end Ev

set_option Elab.async false
set_option linter.all false
set_option maxRecDepth 100000
/-! EvG: argument lists, displays, subscripts, built-ins, methods. Own work. -/
namespace Ev
open PySem PySem.Spec PyProof.Rows L2
variable [Tb]
open Classical
theorem star_no {e : Expr} {es : List Expr} {env : Env} (h : noStar e = true) : starEach (e :: es) env = (false, eval e env) :: starEach es env := by
  cases e <;> first | rfl | cases h
theorem star_plain {env : Env} {pos : Pos} : ∀ {es : List Expr}, es.all noStar = true → (backTo pos (starEach es env)).any (·.1) = false
  | [], _ => rfl
  | e :: es, h => by
    simp only [List.all_cons, Bool.and_eq_true] at h
    rw [star_no h.1]
    have ih := star_plain (env := env) (pos := pos) h.2
    simp only [backTo, List.map_cons, List.any_cons] at ih ⊢
    exact ih
theorem star_few {env : Env} {pos : Pos} {es : List Expr} (h : es.all noStar = true) (hl : es.length < 29) :
    ((backTo pos (starEach es env)).all (fun x => !x.1) && (backToKw pos (keywordEach [] env)).all (fun x => x.1.isSome) && decide (es.length + ([] : List Keyword).length + (if ([] : List Keyword).isEmpty then 0 else 1) < 30)) = true := by
  have h1 := star_plain (env := env) (pos := pos) h
  have h2 : (backTo pos (starEach es env)).all (fun x => !x.1) = true := by
    rw [List.all_eq_true]
    intro x hx
    rw [List.any_eq_false] at h1
    have := h1 x hx
    simpa using this
  rw [h2]
  have h3 : (backToKw pos (keywordEach [] env)).all (fun x => x.1.isSome) = true := rfl
  rw [h3]
  simp
  omega
theorem base_plain {o : Expr} {m : Str} {env : Env} {t : PySem.Sem Value} (h : noSuper o = true) : attributeBase o m env t = t := by
  unfold attributeBase
  cases o with
  | Call f as ks p =>
    cases f with
    | Name id q =>
      cases as with
      | nil =>
        cases ks with
        | nil =>
          simp only [noSuper] at h
          simp only [h, Bool.true_or, if_true]
        | cons _ _ => rfl
      | cons _ _ => rfl
    | _ => rfl
  | _ => rfl
section
variable {C : Cx} {W : WX} {a b c : Expr} {es : List Expr} {pos : Pos} {da db dc : Sg → Mu → Out Ag} {ds : Sg → Mu → Out (List PV)} {dg dg2 : Sg → Mu → Out (List Ag)}
theorem s_nilS : PA C [] (tS C.K W fun _ μ => .ok [] μ) := pa_nil.imp fun σ H Q q => by
  obtain ⟨ρ, μ, σp, R, S, q⟩ := q
  exact q ρ [] H (Post.refl R) rfl
theorem s_nilG : PA C [] (tG C.K W fun _ μ => .ok [] μ) := pa_nil.imp fun σ H Q q => by
  obtain ⟨ρ, μ, σp, R, S, q⟩ := q
  exact q ρ [] H (Post.refl R) rfl
theorem s_consS {df : Sg → Mu → Out PV} (hn : noStar a = true) (ha : PE C a (tF C.K W df)) (hs : PA C es (tS C.K W ds)) : PA C (a :: es) (tS C.K W fun σ μ => (df σ μ).bind fun x μ1 => (ds σ μ1).bind fun xs μ2 => .ok (x :: xs) μ2) := by
  refine (pa_cons ha hs (star_no hn)).imp fun σ H Q q => ?_
  obtain ⟨ρ, μ, σp, R, S, q⟩ := q
  dsimp only at q
  dsimp only [tCons]
  refine tX_step R (Post.refl R) S q fun x μ1 ρ1 v H1 P1 r1 q => ?_
  refine tX_step P1.rel P1 (S.las (P1.las R)) q fun y μ2 ρ2 w H2 P2 r2 q => ?_
  exact q ρ2 (v :: w) H2 (P1.trans P2) ⟨v, w, rfl, RV.las (P2.las P1.rel) _ _ r1, r2⟩
theorem s_consG (hn : noStar a = true) (ha : PE C a (tA C.K W da)) (hs : PA C es (tG C.K W dg)) : PA C (a :: es) (tG C.K W fun σ μ => (da σ μ).bind fun x μ1 => (dg σ μ1).bind fun xs μ2 => .ok (x :: xs) μ2) := by
  refine (pa_cons ha hs (star_no hn)).imp fun σ H Q q => ?_
  obtain ⟨ρ, μ, σp, R, S, q⟩ := q
  dsimp only at q
  dsimp only [tCons]
  refine tX_step R (Post.refl R) S q fun x μ1 ρ1 v H1 P1 r1 q => ?_
  refine tX_step P1.rel P1 (S.las (P1.las R)) q fun y μ2 ρ2 w H2 P2 r2 q => ?_
  exact q ρ2 (v :: w) H2 (P1.trans P2) ⟨v, w, rfl, r1.post P1.rel P2, RAs.back P1 (fun _ h => P2.mem h) r2⟩
theorem s_tup {k : Nat} (h : PA C es (tS C.K W ds)) : PE C (.Tuple es k pos) (tA C.K W fun σ μ => (ds σ μ).bind fun xs μ1 => if xs.length ≤ sizeLine then .ok (.v (.tup xs)) μ1 else .bad) := by
  refine (pe_tup h).imp fun σ H Q q => ?_
  obtain ⟨ρ, μ, σp, R, S, q⟩ := q
  dsimp only at q
  dsimp only [tTup]
  refine tX_step R (Post.refl R) S q fun x μ1 ρ1 v H1 P1 r1 q => ?_
  obtain ⟨hz, q⟩ := sat_if q
  exact ⟨by rw [← r1.length]; exact hz, fun p hp => q ρ1 _ _ (P1.trans (Post.fresh P1.rel hp)) (RA.back P1 (new_t P1.rel r1 hp) fun _ h => h)⟩
theorem s_lst (h : PA C es (tS C.K W ds)) : PE C (.List es pos) (tA C.K W fun σ μ => (ds σ μ).bind fun xs μ1 => if xs.length ≤ sizeLine then .ok (.l xs) μ1 else .bad) := by
  refine (pe_lst h).imp fun σ H Q q => ?_
  obtain ⟨ρ, μ, σp, R, S, q⟩ := q
  dsimp only at q
  dsimp only [tLst]
  refine tX_step R (Post.refl R) S q fun x μ1 ρ1 v H1 P1 r1 q => ?_
  obtain ⟨hz, q⟩ := sat_if q
  exact ⟨by rw [← r1.length]; exact hz, fun p hp => q ρ1 _ _ (P1.trans (Post.fresh P1.rel hp)) (RA.back P1 (new_l P1.rel r1 hp) fun _ h => h)⟩
theorem chain_at {σ : L2.St} {H : Hp} {Q : VK} {ρ : List Addr} {μ : Mu} {σp : Sg} {o o' : Cm} (R : Rel C.K ρ μ H) (S : RS C.K ρ H σp σ) {P : Bool → Mu → Prop}
    (q : ((da σp μ).bind fun x μ1 => (db σp μ1).bind fun y μ2 => (lift (cmA o x y μ2) μ2).bind fun k μ2 => if k = true then (dc σp μ2).bind fun z μ3 => lift (cmA o' y z μ3) μ3 else .ok false μ2).sat P (EXC C.K W ρ H σ))
    (k : ∀ z μ' ρ' H', P z μ' → Post C.K ρ H ρ' μ' H' → Q (.bl z) H') : tChain (rCm C.K o) (rCm C.K o') (tA C.K W da) (tA C.K W db) (tA C.K W dc) σ H Q := by
  dsimp only [tChain]
  refine tX_step R (Post.refl R) S q fun x μ1 ρ1 v H1 P1 r1 q => ?_
  have S1 := S.las (P1.las R)
  refine tX_step P1.rel P1 S1 q fun y μ2 ρ2 w H2 P2 r2 q => ?_
  obtain ⟨z, e, q⟩ := sat_lift (sat_bind q)
  have P12 := P1.trans P2
  refine ⟨ρ2, μ2, H, x, y, z, P2.rel, r1.post P1.rel P2, r2.back P1 fun _ h => P2.mem h, e, z, rfl, ?_⟩
  cases z with
  | false => exact it_f (k false μ2 ρ2 H2 q P12)
  | true =>
    refine it_t ?_
    refine tX_step P2.rel P12 (S1.las (P2.las P1.rel)) q fun z μ3 ρ3 u H3 P3 r3 q => ?_
    obtain ⟨z', e', q⟩ := sat_lift q
    exact ⟨ρ3, μ3, H, y, z, z', P3.rel, (r2.back P1 fun _ h => P2.mem h).post P2.rel P3, r3.back P12 fun _ h => P3.mem h, e', k z' μ3 ρ3 H3 q (P12.trans P3)⟩
theorem mark2 {op op' : CmpOp} {b c : Expr} (hn : noSet c = true) : lastMarks [op, op'] [b, c] = false := by
  show lastMarks [op'] [c] = false
  show behindInMarks op' c = false
  cases c <;> first | rfl | cases hn
theorem s_chainV {o o' : Cm} {op op' : CmpOp} (hr : Room 1 C.A) (ho : op = cmOf o) (ho' : op' = cmOf o') (hn : noSet c = true) (ha : PE C a (tA C.K W da)) (hb : PE C b (tA C.K W db)) (hc : PE C c (tA C.K W dc)) :
    PE C (.Compare a [op, op'] [b, c] pos) (tA C.K W fun σ μ => ((da σ μ).bind fun x μ1 => (db σ μ1).bind fun y μ2 => (lift (cmA o x y μ2) μ2).bind fun k μ2 => if k = true then (dc σ μ2).bind fun z μ3 => lift (cmA o' y z μ3) μ3 else .ok false μ2).bind fun b μ1 => .ok (.v (.bl b)) μ1) := by
  subst ho ho'
  refine (pe_chain (op_cm hr o) (op_cm hr o') ha hb hc (mark2 hn)).imp fun σ H Q q => ?_
  obtain ⟨ρ, μ, σp, R, S, q⟩ := q
  exact chain_at R S (sat_bind q) fun z μ' ρ' H' h P => h ρ' _ H' P (by simp [RA, RV])
theorem s_chainT {o o' : Cm} {op op' : CmpOp} (hr : Room 1 C.A) (ho : op = cmOf o) (ho' : op' = cmOf o') (hn : noSet c = true) (ha : PE C a (tA C.K W da)) (hb : PE C b (tA C.K W db)) (hc : PE C c (tA C.K W dc)) :
    PT C (.Compare a [op, op'] [b, c] pos) (tT C.K W fun σ μ => (da σ μ).bind fun x μ1 => (db σ μ1).bind fun y μ2 => (lift (cmA o x y μ2) μ2).bind fun k μ2 => if k = true then (dc σ μ2).bind fun z μ3 => lift (cmA o' y z μ3) μ3 else .ok false μ2) := by
  subst ho ho'
  refine (pt_chain (op_cm hr o) (op_cm hr o') ha hb hc (mark2 hn)).imp fun σ H Q q => ?_
  obtain ⟨ρ, μ, σp, R, S, q⟩ := q
  exact chain_at (Q := fun x H' => ∃ k, x = .bl k ∧ Q k H') R S q fun z μ' ρ' H' h P => ⟨z, rfl, h ρ' _ H' P rfl⟩
theorem s_ix (hp : PlainIx b) (ha : PE C a (tA C.K W da)) (hb : PE C b (tA C.K W db)) : PE C (.Subscript a b pos) (tA C.K W fun σ μ => (da σ μ).bind fun x μ1 => (db σ μ1).bind fun y μ2 => lift (ixA μ2 x y) μ2) := by
  refine (pe_ix ix_ev ha hb hp).imp fun σ H Q q => ?_
  obtain ⟨ρ, μ, σp, R, S, q⟩ := q
  dsimp only at q
  dsimp only [tOp]
  refine tX_step R (Post.refl R) S q fun x μ1 ρ1 v H1 P1 r1 q => ?_
  refine tX_step P1.rel P1 (S.las (P1.las R)) q fun y μ2 ρ2 w H2 P2 r2 q => ?_
  obtain ⟨z, e, k⟩ := sat_lift q
  have P12 := P1.trans P2
  exact ⟨ρ2, μ2, H, x, y, z, P2.rel, r1.post P1.rel P2, r2.back P1 fun _ h => P2.mem h, e, fun u r3 => k ρ2 u H2 P12 (r3.back P12 fun _ h => h)⟩
/-- a bound of a slice -/
abbrev tO (K : PySem.W.Frag) (W : WX) (d : Sg → Mu → Out (Option Int)) : TO := tX K W (fun _ _ _ _ o o' => o = o') d
theorem s_po0 : PO C none (tO C.K W fun _ μ => .ok none μ) := ⟨fun pins s σ H Q I q => by
  obtain ⟨ρ, μ, σp, R, S, q⟩ := q
  exact po_none.run pins s σ H Q I (q ρ none H (Post.refl R) rfl)⟩
theorem s_po1 (ha : PE C a (tA C.K W da)) : PO C (some a) (tO C.K W fun σ μ => (da σ μ).bind fun x μ1 => lift (bnd [x]) μ1) := ⟨fun pins s σ H Q I q => by
  obtain ⟨ρ, μ, σp, R, S, q⟩ := q
  refine (po_some ha).run pins s σ H Q I ?_
  dsimp only [tPart]
  refine tX_step R (Post.refl R) S q fun x μ1 ρ1 v H1 P1 r1 q => ?_
  obtain ⟨o, e, q⟩ := sat_lift q
  cases x with
  | l _ => cases e
  | v p =>
    cases p with
    | int j =>
      cases e
      exact ⟨j, int_at r1 rfl, q ρ1 (some j) H1 P1 rfl⟩
    | _ => cases e⟩
theorem s_slice {lo hi : Option Expr} {p2 : Pos} {dl dh : Sg → Mu → Out (Option Int)} (ha : PE C a (tA C.K W da)) (hl : PO C lo (tO C.K W dl)) (hh : PO C hi (tO C.K W dh)) :
    PE C (.Subscript a (.Slice lo hi none p2) pos) (tA C.K W fun σ μ => (da σ μ).bind fun x μ1 => (dl σ μ1).bind fun l μ2 => (dh σ μ2).bind fun h μ3 => lift (sliceA μ3 x l h) μ3) := by
  refine (pe_slice sl_ev ha hl hh).imp fun σ H Q q => ?_
  obtain ⟨ρ, μ, σp, R, S, q⟩ := q
  dsimp only at q
  dsimp only [tSl]
  refine tX_step R (Post.refl R) S q fun x μ1 ρ1 v H1 P1 r1 q => ?_
  have S1 := S.las (P1.las R)
  refine tX_step P1.rel P1 S1 q fun y μ2 ρ2 w H2 P2 r2 q => ?_
  subst r2
  have P12 := P1.trans P2
  refine tX_step P2.rel P12 (S1.las (P2.las P1.rel)) q fun z μ3 ρ3 u H3 P3 r3 q => ?_
  subst r3
  obtain ⟨t, e, k⟩ := sat_lift q
  have P123 := P12.trans P3
  exact ⟨ρ3, μ3, H, x, t, P3.rel, (r1.post P1.rel P2).post P2.rel P3, e, fun v' H4 P4 r4 => k ρ3 v' H4 (P123.trans P4) (r4.back P123 fun _ h => h)⟩
/-! ### calls of built-ins -/
theorem boot_int' : bootBuiltins "int" = some (.type "int") := boot_int
theorem boot_max' : bootBuiltins "max" = some (.builtin "max") := by decide +kernel
theorem boot_min' : bootBuiltins "min" = some (.builtin "min") := by decide +kernel
theorem boot_abs' : bootBuiltins "abs" = some (.builtin "abs") := by decide +kernel
theorem boot_isi' : bootBuiltins "isinstance" = some (.builtin "isinstance") := by decide +kernel
theorem s_bi {f : Bi} {p : Pos} (hc : C.calm = true) (gl : Gl C (Str.ofString (biNm f))) (hm : C.mg (Str.ofString (biNm f)) = none) (hne : es ≠ []) (hs : es.all noStar = true) (ha : PA C es (tG C.K W dg)) :
    PE C (.Call (.Name (Str.ofString (biNm f)) p) es [] pos) (tA C.K W fun σ μ => (dg σ μ).bind fun xs μ1 => lift (biA f xs μ1) μ1) := by
  have key : PE C (.Call (.Name (Str.ofString (biNm f)) p) es [] pos) (tCB (rBi C.K f) (tG C.K W dg)) := by
    obtain ⟨e, r, rfl⟩ : ∃ e r, es = e :: r := by
      cases es with
      | nil => exact absurd rfl hne
      | cons e r => exact ⟨e, r, rfl⟩
    have h0 : noStar e = true := by
      simp only [List.all_cons, Bool.and_eq_true] at hs
      exact hs.1
    have h1 : r.all noStar = true := by
      simp only [List.all_cons, Bool.and_eq_true] at hs
      exact hs.2
    cases f with
    | len => exact pe_callB (bi_ev hc .len) gl hm boot_len ha (by decide) (by decide) (star_no h0) (star_plain h1)
    | int => exact pe_callTy (bi_ev hc .int) gl hm boot_int ha (by decide) (by decide) (star_no h0) (star_plain h1)
    | max2 => exact pe_callB (bi_ev hc .max2) gl hm boot_max' ha (by decide) (by decide) (star_no h0) (star_plain h1)
    | min2 => exact pe_callB (bi_ev hc .min2) gl hm boot_min' ha (by decide) (by decide) (star_no h0) (star_plain h1)
    | tuple => exact pe_callTy (bi_ev hc .tuple) gl hm boot_tuple ha (by decide) (by decide) (star_no h0) (star_plain h1)
    | list => exact pe_callTy (bi_ev hc .list) gl hm boot_list ha (by decide) (by decide) (star_no h0) (star_plain h1)
    | abs => exact pe_callB (bi_ev hc .abs) gl hm boot_abs' ha (by decide) (by decide) (star_no h0) (star_plain h1)
  refine key.imp fun σ H Q q => ?_
  obtain ⟨ρ, μ, σp, R, S, q⟩ := q
  dsimp only at q
  dsimp only [tCB]
  refine tX_step R (Post.refl R) S q fun x μ1 ρ1 v H1 P1 r1 q => ?_
  obtain ⟨z, e, k⟩ := sat_lift q
  exact ⟨ρ1, μ1, H, x, z, P1.rel, r1, e, fun u H2 P2 r2 => k ρ1 u H2 (P1.trans P2) (r2.back P1 fun _ h => h)⟩
theorem boot_ty (t : Ty) : bootBuiltins (Str.ofString (tyOf t)) = some (.type (tyOf t)) := by cases t <;> decide +kernel
theorem s_isi {t : Ty} {p p2 : Pos} (hr : Room 1 C.A) (gl : Gl C "isinstance") (hm : C.mg "isinstance" = none) (gt : Gl C (Str.ofString (tyOf t))) (ht : C.mg (Str.ofString (tyOf t)) = none) (hn : noStar a = true) (ha : PE C a (tA C.K W da)) :
    PE C (.Call (.Name "isinstance" p) [a, .Name (Str.ofString (tyOf t)) p2] [] pos) (tA C.K W fun σ μ => ((da σ μ).bind fun x μ1 => lift (isA μ1 t x) μ1).bind fun b μ1 => .ok (.v (.bl b)) μ1) := by
  have hT : PE C (.Name (Str.ofString (tyOf t)) p2) (tC (.ty (tyOf t))) := pe_bltn gt ht (boot_ty t) rfl (by cases t <;> decide) (by cases t <;> decide)
  refine (pe_callB (isi_ev hr t) gl hm boot_isi' (pa_cons ha (pa_cons hT pa_nil rfl) (star_no hn)) (by decide) (by decide) (star_no hn) (by rfl)).imp fun σ H Q q => ?_
  obtain ⟨ρ, μ, σp, R, S, q⟩ := q
  dsimp only at q
  dsimp only [tCB, tCons, tNil, tC]
  rw [Out.bind_assoc] at q
  refine tX_step R (Post.refl R) S q fun x μ1 ρ1 v H1 P1 r1 q => ?_
  obtain ⟨z, e, k⟩ := sat_lift (sat_bind q)
  exact ⟨ρ1, μ1, H, x, v, z, rfl, P1.rel, r1, e, k ρ1 _ H1 P1 (by simp [RA, RV])⟩
/-! ### methods -/
theorem rcv_at {K : PySem.W.Frag} {ρ : List Addr} {H H0 : Hp} {μ : Mu} {x : Ag} {v : V} (R : Rel K ρ μ H) (r : RA K H0 ρ H x v) (h : rcvB x = true) : tyV K "list" v H := by
  cases x with
  | l _ => cases h
  | v p =>
    cases p with
    | ref n =>
      obtain ⟨a, e1, e2⟩ := r
      obtain ⟨ys, hy⟩ := R.lst (List.mem_of_getElem? e2)
      subst e1
      exact .inl ⟨rfl, ys, SqL.of hy⟩
    | _ => cases h
theorem tX_imp {K : PySem.W.Frag} {α β : Type} {RR : Hp → List Addr → Mu → Hp → α → β → Prop} {d : Sg → Mu → Out α} {σ : L2.St} {H : Hp} {Q Q' : β → Hp → Prop} (h : tX K W RR d σ H Q) (hi : ∀ v H', Q v H' → Q' v H') : tX K W RR d σ H Q' := by
  obtain ⟨ρ, μ, σp, R, S, q⟩ := h
  exact ⟨ρ, μ, σp, R, S, sat_mono q (fun x μ' h ρ' v H' P r => hi _ _ (h ρ' v H' P r)) fun _ _ _ e => e⟩
theorem mt_slot (m : Mt) : Slot "list" (mtOf m).1 (mtOf m).2 := by
  cases m with
  | extend => exact PySem.F.slot_list_extend
  | pop0 => exact PySem.F.slot_list_pop
  | pop1 => exact PySem.F.slot_list_pop
theorem mt_type (m : Mt) : typeOf (.builtin (mtOf m).2) = pure (.type "method_descriptor") := by
  cases m with
  | extend => exact PySem.F.type_list_extend
  | pop0 => exact PySem.F.type_list_pop
  | pop1 => exact PySem.F.type_list_pop
theorem s_mt {m : Mt} {p : Pos} (hb : noSuper a = true) (hl : lineB p pos = true) (hs : es.all noStar = true) (hf : es.length < 29) (h0 : es = [] → ∀ σ μ, dg σ μ = .ok [] μ) (ha : PE C a (tA C.K W da)) (hg : PA C es (tG C.K W dg)) :
    PE C (.Call (.Attribute a (mtOf m).1 p) es [] pos) (tA C.K W fun σ μ => (da σ μ).bind fun x μ1 => if rcvB x = true then (dg σ μ1).bind fun xs μ2 => liftM (mtA m x xs μ2) else .bad) := by
  have key : PE C (.Call (.Attribute a (mtOf m).1 p) es [] pos) (fun σ H Q => tA C.K W da σ H fun x H1 => tyV C.K "list" x H1 ∧ tG C.K W dg σ H1 fun xs H2 => rMt C.K m x xs H2 Q) := by
    cases es with
    | nil =>
      refine (pe_bm0 (PySem.F.plainAttrs_list) (mt_slot m) (mt_type m) (mt_ev m) ha (base_plain hb) hl).imp fun σ H Q q => ?_
      refine tX_imp q fun v H' ⟨ty, q2⟩ => ⟨ty, ?_⟩
      obtain ⟨ρ2, μ2, σp2, R2, S2, q2⟩ := q2
      rw [h0 rfl] at q2
      exact q2 ρ2 [] H' (Post.refl R2) rfl
    | cons e r =>
      simp only [List.all_cons, Bool.and_eq_true] at hs
      exact pe_bm (PySem.F.plainAttrs_list) (mt_slot m) (mt_type m) (mt_ev m) ha hg (base_plain hb) (star_few (by simp only [List.all_cons, Bool.and_eq_true]; exact hs) hf) hl (star_no hs.1) (star_plain hs.2)
  refine key.imp fun σ H Q q => ?_
  obtain ⟨ρ, μ, σp, R, S, q⟩ := q
  refine tX_step R (Post.refl R) S q fun x μ1 ρ1 v H1 P1 r1 q => ?_
  obtain ⟨hx, q⟩ := sat_if q
  refine ⟨rcv_at P1.rel r1 hx, ?_⟩
  refine tX_step P1.rel P1 (S.las (P1.las R)) q fun y μ2 ρ2 w H2 P2 r2 q => ?_
  obtain ⟨z, μ', e, k⟩ := sat_liftM q
  have P12 := P1.trans P2
  exact ⟨ρ2, μ2, H, x, y, z, μ', P2.rel, r1.post P1.rel P2, RAs.back P1 (fun _ h => P2.mem h) r2, e, fun u H3 P3 r3 => k ρ2 u H3 (P12.trans P3) (r3.back P12 fun _ h => h)⟩
theorem s_app {p : Pos} {df : Sg → Mu → Out PV} (hb : noSuper a = true) (hl : lineB p pos = true) (hn : noStar b = true) (ha : PE C a (tA C.K W da)) (hf : PE C b (tF C.K W df)) :
    PE C (.Call (.Attribute a "append" p) [b] [] pos) (tA C.K W fun σ μ => (da σ μ).bind fun x μ1 => if rcvB x = true then (df σ μ1).bind fun y μ2 => liftM (appA x y μ2) else .bad) := by
  have hs : [b].all noStar = true := by simp [hn]
  refine (pe_bm (T := "list") (name := "append") (id := "list.append") (PySem.F.plainAttrs_list) PySem.F.slot_list_append PySem.F.type_list_append app_ev ha (pa_cons hf pa_nil (star_no hn)) (base_plain hb) (star_few hs (by simp)) hl (star_no hn) (by rfl)).imp fun σ H Q q => ?_
  obtain ⟨ρ, μ, σp, R, S, q⟩ := q
  dsimp only at q
  dsimp only [tBM, tCons, tNil]
  refine tX_step R (Post.refl R) S q fun x μ1 ρ1 v H1 P1 r1 q => ?_
  obtain ⟨hx, q⟩ := sat_if q
  refine ⟨rcv_at P1.rel r1 hx, ?_⟩
  refine tX_step P1.rel P1 (S.las (P1.las R)) q fun y μ2 ρ2 w H2 P2 r2 q => ?_
  obtain ⟨z, μ', e, k⟩ := sat_liftM q
  have P12 := P1.trans P2
  exact ⟨ρ2, μ2, H, x, y, z, μ', w, P2.rel, r1.post P1.rel P2, rfl, r2, e, fun H3 P3 hz => k ρ2 _ H3 (P12.trans P3) (by rw [hz]; simp [RA, RV])⟩
end
end Ev

set_option Elab.async false
set_option linter.all false
set_option maxRecDepth 100000
namespace PySem
open Sem (wp)
open AutoSeq1 (wpAny_loadPart')
theorem meets_enumerate_newT (l : Addr) (items : Array Value) (n : Nat) (dct : Option Addr) (sl : Array (Option Value)) :
    Meets (Builtin.«enumerate.__new__» ⟨[.type "enumerate", .ref l], []⟩) (fun _ R s => s.heap.get? l = some { cls := .type "tuple", dict := dct, data := .seq items n, slots := sl } ∧
      R (.ok (.ret (.ref (s.heap.push { cls := .type "tuple_iterator", data := .fields #[.ref l, .int 0 0] }).objs.size)))
        { s with heap := (s.heap.push { cls := .type "tuple_iterator", data := .fields #[.ref l, .int 0 0] }).push { cls := .type "enumerate", data := .fields #[.none, .bool false, .ref s.heap.objs.size, rawInt 0, .none, .none] } }) :=
  .of_wp fun prog w A R s h => by
    obtain ⟨hp, g, d, tk, os⟩ := s; obtain ⟨hl, h⟩ := h
    have hsub := sub_enumerate
    have hL : Heap.IsTuple (Shared.heap ⟨hp, g, d, tk, os⟩) l items := ⟨_, hl, rfl, n, rfl⟩
    wp_walk using wpAny_loadPart' hl
    refine wpAny_stack_any fun st => wpAny_pure ?_
    split
    · rename_i c _ _ _ _ _
      cases (c == Value.type "enumerate")
      · wp_walk using wpAny_loadPart' hl, wpAny_pyIter_tuple hL
        exact ⟨_, rfl, h⟩
      · wp_walk using wpAny_loadPart' hl, wpAny_pyIter_tuple hL
        exact ⟨_, rfl, h⟩
    · wp_walk using wpAny_loadPart' hl, wpAny_pyIter_tuple hL
      exact ⟨_, rfl, h⟩
section
variable {prog : Program} {w : World} {A : Around} {E : Value → Shared → Prop} {s : Shared}
theorem call_enumerate_tuple {l : Addr} {items : Array Value} {Q : Value → Shared → Prop} (hL : s.heap.IsTuple l items)
    (h : ∀ h', IsEnum h' (s.heap.objs.size + 1) s.heap.objs.size 0 .none → h'.IsTupleIter s.heap.objs.size l 0 → h'.objs.size = s.heap.objs.size + 2 →
      (∀ b o, s.heap.get? b = some o → h'.get? b = some o) → Q (.ref (s.heap.objs.size + 1)) { s with heap := h' }) :
    wpAny (model prog w) A (call (.type "enumerate") [.ref l]) Q E s := by
  obtain ⟨⟨c, dct, dt, sl⟩, hl, hc, n, hd⟩ := hL
  replace hc : c = .type "tuple" := hc
  replace hd : dt = .seq items n := hd
  subst hc hd
  refine callType_new F.called_enumerate (by decide) (F.typeCall_enumerate_1 _) (F.newCall_enumerate_1 _) (fun obj => F.args_object_init_2 obj _) F.entry_enumerate_new
    (meets_enumerate_newT l items n dct sl) ⟨hl, ?_⟩
  have hz : (s.heap.push { cls := .type "tuple_iterator", data := .fields #[.ref l, .int 0 0] }).objs.size = s.heap.objs.size + 1 := Heap.size_push ..
  show _ ∧ _
  rw [hz]
  have he : IsEnum ((s.heap.push { cls := .type "tuple_iterator", data := .fields #[.ref l, .int 0 0] }).push
      { cls := .type "enumerate", data := .fields #[.none, .bool false, .ref s.heap.objs.size, rawInt 0, .none, .none] }) (s.heap.objs.size + 1) s.heap.objs.size 0 .none := by
    have := Heap.get?_push_size (s.heap.push { cls := .type "tuple_iterator", data := .fields #[.ref l, .int 0 0] })
      (o := { cls := .type "enumerate", data := .fields #[.none, .bool false, .ref s.heap.objs.size, rawInt 0, .none, .none] }) rfl
    rw [hz] at this; exact this
  refine ⟨⟨_, he, rfl⟩, h _ he ⟨_, Heap.get?_push_of_some _ (Heap.get?_push_size _ rfl), rfl, rfl⟩ (by rw [Heap.size_push, hz]) fun b o x => Heap.get?_push_of_some _ (Heap.get?_push_of_some _ x)⟩
end
end PySem
namespace Ev
open PySem PySem.Spec PyProof.Rows L2
variable [Tb]
open Classical
/-! ### enumerate of a tuple -/
/-- the tuple at a, each item in a new pair -/
def Itet (K : PySem.W.Frag) (a : Addr) : It where
  go := fun i H => ∃ (xs : List V) (x : V), SqT K H a xs ∧ xs[i]? = some x
  yld := fun i H v H' => ∃ T x, v = .ref T ∧ H T = none ∧ H' = upd H T (.tup [.int (i : Nat), x]) ∧ ∀ xs, SqT K H a xs → xs[i]? = some x
  stop := fun i H => ∃ xs : List V, SqT K H a xs ∧ xs.length = i
theorem turn_enumT {P : Program} {w : World} {K : PySem.W.Frag} {elts : List Expr} {kk : Nat} {tpos : Pos} (a e it : Addr) :
    Turn P w K (.Tuple elts kk tpos) (Itet K a) [e, it] e (fun i h => (∃ old, IsEnum h e it ((i : Nat) : Int) old) ∧ h.IsTupleIter it a i ∧ e ≠ it ∧ a ≠ it ∧ e ≠ a) where
  mem := by simp
  obj := fun i h st b hb => by
    obtain ⟨⟨old, he⟩, ⟨o, ho, hc, hd⟩, _⟩ := st
    rcases List.mem_cons.mp hb with z | hb
    · subst z
      exact ⟨_, he, fun v q => nomatch q⟩
    · cases List.mem_singleton.mp hb
      exact ⟨o, ho, fun v q => by rw [hd] at q; cases q⟩
  keep := fun i h h' ⟨⟨old, he⟩, hi, hne⟩ k => ⟨⟨old, k e (by simp) _ he⟩, hi.at fun o q => k it (by simp) o q, hne⟩
  item := by
    intro X hP hw hK hc i pins s σ H E I hf st hg
    subst hP hw hK
    obtain ⟨⟨old, he⟩, hit, hne, ha, hea⟩ := st
    obtain ⟨xs, x, hq, hx⟩ := hg
    obtain ⟨its, rv, p, hz⟩ := I.tuple hq
    obtain ⟨u, hu, ru⟩ := rv.get hx
    have hel : e < s.heap.objs.size := Heap.lt_size he
    have hil : it < s.heap.objs.size := by
      obtain ⟨_, q, _⟩ := hit
      exact Heap.lt_size q
    have D := Draws.tuple (prog := X.prog) (w := X.w) (A := X.A.in1) (I.ok.hd hc) it a ha its.toArray
    have hlt : i < its.toArray.size := by
      have := (List.getElem?_eq_some_iff.mp hu).1
      simpa using this
    refine wpAny_pyNext_enum_itemD D he ⟨hit, p⟩ hlt hne (by simp [hne, hea]) fun y h' tk hy ho hst hT hsz hk => ⟨_, rfl, ?_⟩
    have ey : y = u := by
      have h1 : its[i]? = some y := by simpa using hy
      rw [hu] at h1
      exact (Option.some.inj h1).symm
    subst ey
    refine wpAny_letOwnedTupleGo_enum (s := { s with heap := h', toks := tk + 1 }) ho fun h'' he' sb => ?_
    have hT2 := (sb.2 _ (Nat.ne_of_gt hel)).trans hT
    have new : ObjOk X.prog X.w (upd H s.heap.objs.size (.tup [.int (i : Nat), x])) h'' s.heap.objs.size (.tup [.int (i : Nat), x]) := by
      refine ⟨by show 2 ≤ sizeLine; decide, [.int i tk, y], .cons ⟨_, rfl⟩ (.cons ru .nil), _, hT2, rfl, _, rfl⟩
    have I1 := I.turnedNew (t' := tk + 1) (ch := [e, it]) (fun b ob hb q => by
      have h1 : b ≠ e := fun z => hb (by simp [z])
      have h2 : b ≠ it := fun z => hb (by simp [z])
      exact (sb.2 b h1).trans (hk b ob h1 h2 q)) hf (Nat.le_refl _) new
    refine ⟨.ref s.heap.objs.size, _, I1, rfl, ⟨_, x, rfl, I.hok.fresh (Nat.le_refl _), rfl, fun ys hy => by rw [I.tuple_inj hy hq]; exact hx⟩, ⟨⟨y, ?_⟩, hst.1.at fun o q => (sb.2 it (Ne.symm hne)).trans q, hne, ha, hea⟩, fun b hb => ?_⟩
    · rw [show ((i + 1 : Nat) : Int) = (i : Int) + 1 by omega]
      exact he'
    · have hb' : b ≠ s.heap.objs.size := by
        rcases List.mem_cons.mp hb with z | hb
        · rw [z]; exact Nat.ne_of_lt hel
        · rw [List.mem_singleton.mp hb]; exact Nat.ne_of_lt hil
      rw [upd_ne hb']
      exact (hf b hb).1
  done := by
    intro X hP hw hK hc i pins s σ H E I hf st hg
    subst hP hw hK
    obtain ⟨⟨old, he⟩, hit, hne, ha, hea⟩ := st
    obtain ⟨xs, hq, hx⟩ := hg
    obtain ⟨its, rv, p, hz⟩ := I.tuple hq
    obtain ⟨f0, f1, f2, f3, f4, f5⟩ := hf it (by simp)
    have hl : its.toArray.size = i := by
      rw [List.size_toArray, ← rv.length]
      exact hx
    subst hl
    have D := Draws.tuple (prog := X.prog) (w := X.w) (A := X.A.in1) (I.ok.hd hc) it a ha its.toArray
    exact wpAny_pyNext_enum_endD D he ⟨hit, p⟩ fun h' eb => ⟨rfl, I.turned (t' := s.toks) (fun b o hb q => eb b o hb q) f0 f1 f3 f4 f5⟩
  self := fun A i s Q E st h => let ⟨⟨_, he⟩, _⟩ := st; wpAny_pyIter_enum he h
/-- enumerate(t), t a tuple, for a tuple of targets -/
def iEnumT (K : PySem.W.Frag) (ta : TA) : TI := fun σ H R => ta σ H fun vs H1 => ∃ a xs, vs = [.ref a] ∧ SqT K H1 a xs ∧ R (Itet K a) H1
theorem pi_enumT {X : Cx} {e : Expr} {ta : TA} {p pos tpos : Pos} {elts : List Expr} {kk : Nat} (hg : Gl X "enumerate") (hm : X.mg "enumerate" = none) (ha : PA X [e] ta) (hn : noStar e = true) :
    PI X (.Tuple elts kk tpos) (.Call (.Name "enumerate" p) [e] [] pos) (iEnumT X.K ta) := by
  refine ⟨fun pins s σ H R I h => Call_ (ld_blt I hg hm boot_enumerate (PyProof.Rows.callWith_type1 (thn (ha.run pos pins s σ H _ I h) fun us s1 ⟨vs, H1, I1, r1, a, xs, ex, hq, q⟩ => ?_) (star_no hn) rfl))⟩
  subst ex
  obtain rfl : us = [Value.ref a] := Vals.ref1 r1
  obtain ⟨its, rv, tp, hz⟩ := I1.tuple hq
  have hal : a < s1.heap.objs.size := by
    obtain ⟨o, ho, _⟩ := id tp
    exact Heap.lt_size ho
  refine call_enumerate_tuple tp fun h' he hit hsz hk => wpAny_pyIter_enum he ?_
  refine ⟨s1.heap.objs.size + 1, [s1.heap.objs.size + 1, s1.heap.objs.size], _, _, H1, rfl, I1.kept (t' := s1.toks) hk, turn_enumT a _ _, ⟨⟨.none, he⟩, hit, Nat.succ_ne_self _, Nat.ne_of_lt hal, Nat.ne_of_gt (Nat.lt_succ_of_lt hal)⟩, fun b hb => ?_, q⟩
  have hle : s1.heap.objs.size ≤ b := by
    rcases List.mem_cons.mp hb with z | hb
    · rw [z]
      exact Nat.le_succ _
    · exact Nat.le_of_eq (List.mem_singleton.mp hb).symm
  exact I1.fpOk hle (I1.hok.fresh hle)
/-! ### iterables -/
section
variable {K : PySem.W.Frag} {W : WX} {ρ : List Addr} {H H0 : Hp} {μ : Mu}
theorem getP {xs : List PV} {i : Nat} (h : i < xs.length) : xs[i]? = some xs[i] := List.getElem?_eq_getElem h
theorem walks_tup {a : Addr} {xs : List PV} {ys : List V} (R : Rel K ρ μ H) (s : SqT K H a ys) (r : RVs K ρ H xs ys) : Walks K ρ μ H (xs, []) (Itt K a) := fun ρ2 μ2 H2 P _ => by
  have L := P.las R
  have s2 := L.tup a ys s
  have r2 := RVs.las L xs ys r
  refine ⟨fun i hi => ?_, ⟨ys, s2, Nat.le_of_eq r2.length.symm⟩, fun i x H3 _ h => ?_⟩
  · obtain ⟨y, h1, _⟩ := r2.get (getP hi)
    exact ⟨ys, y, s2, h1⟩
  · obtain ⟨e, h⟩ := h
    subst e
    have h1 := h ys s2
    have hi : i < xs.length := by
      rw [r2.length]
      exact (List.getElem?_eq_some_iff.mp h1).1
    obtain ⟨y, h2, h3⟩ := r2.get (getP hi)
    rw [h1] at h2
    cases h2
    exact ⟨_, getP hi, h3, Post.refl P.rel⟩
theorem walks_lst {a : Addr} {xs : List PV} {src : List Nat} (hg : ∀ ρ2 μ2 H2, Post K ρ H ρ2 μ2 H2 → stay μ μ2 src → ∃ ys, SqL K H2 a ys ∧ RVs K ρ2 H2 xs ys) : Walks K ρ μ H (xs, src) (Itl K a) := fun ρ2 μ2 H2 P st => by
  obtain ⟨ys, s2, r2⟩ := hg ρ2 μ2 H2 P st
  refine ⟨fun i hi => ?_, ⟨ys, s2, Nat.le_of_eq r2.length.symm⟩, fun i x H3 _ h => ?_⟩
  · obtain ⟨y, h1, _⟩ := r2.get (getP hi)
    exact ⟨ys, y, s2, h1⟩
  · obtain ⟨e, h⟩ := h
    subst e
    have h1 := h ys s2
    have hi : i < xs.length := by
      rw [r2.length]
      exact (List.getElem?_eq_some_iff.mp h1).1
    obtain ⟨y, h2, h3⟩ := r2.get (getP hi)
    rw [h1] at h2
    cases h2
    exact ⟨_, getP hi, h3, Post.refl P.rel⟩
theorem walks_enumT {a : Addr} {xs : List PV} {ys : List V} (R : Rel K ρ μ H) (s : SqT K H a ys) (r : RVs K ρ H xs ys) : Walks K ρ μ H (enumP xs, []) (Itet K a) := fun ρ2 μ2 H2 P _ => by
  have L := P.las R
  have s2 := L.tup a ys s
  have r2 := RVs.las L xs ys r
  have hlen : (enumP xs).length = xs.length := by simp [enumP]
  refine ⟨fun i hi => ?_, ⟨ys, s2, by rw [hlen, r2.length]⟩, fun i x H3 _ h => ?_⟩
  · rw [hlen] at hi
    obtain ⟨y, h1, _⟩ := r2.get (getP hi)
    exact ⟨ys, y, s2, h1⟩
  · obtain ⟨T, v, ex, hT, eH, h⟩ := h
    subst ex eH
    have h1 := h ys s2
    have hi : i < xs.length := by
      rw [r2.length]
      exact (List.getElem?_eq_some_iff.mp h1).1
    obtain ⟨y, h2, h3⟩ := r2.get (getP hi)
    rw [h1] at h2
    cases h2
    have q : RVs K ρ2 H2 [.int (i : Int), xs[i]] [.int (i : Nat), v] := ⟨_, _, rfl, by simp [RV], v, [], rfl, h3, rfl⟩
    exact ⟨.tup [.int (i : Int), xs[i]], by simp [enumP, getP hi], new_t P.rel q hT, Post.fresh P.rel hT⟩
theorem walks_enumL {a : Addr} {xs : List PV} {src : List Nat} (hg : ∀ ρ2 μ2 H2, Post K ρ H ρ2 μ2 H2 → stay μ μ2 src → ∃ ys, SqL K H2 a ys ∧ RVs K ρ2 H2 xs ys) : Walks K ρ μ H (enumP xs, src) (Ite K a) := fun ρ2 μ2 H2 P st => by
  obtain ⟨ys, s2, r2⟩ := hg ρ2 μ2 H2 P st
  have hlen : (enumP xs).length = xs.length := by simp [enumP]
  refine ⟨fun i hi => ?_, ⟨ys, s2, Nat.le_of_eq (by rw [hlen, r2.length])⟩, fun i x H3 _ h => ?_⟩
  · rw [hlen] at hi
    obtain ⟨y, h1, _⟩ := r2.get (getP hi)
    exact ⟨ys, y, s2, h1⟩
  · obtain ⟨T, v, ex, hT, eH, h⟩ := h
    subst ex eH
    have h1 := h ys s2
    have hi : i < xs.length := by
      rw [r2.length]
      exact (List.getElem?_eq_some_iff.mp h1).1
    obtain ⟨y, h2, h3⟩ := r2.get (getP hi)
    rw [h1] at h2
    cases h2
    have q : RVs K ρ2 H2 [.int (i : Int), xs[i]] [.int (i : Nat), v] := ⟨_, _, rfl, by simp [RV], v, [], rfl, h3, rfl⟩
    exact ⟨.tup [.int (i : Int), xs[i]], by simp [enumP, getP hi], new_t P.rel q hT, Post.fresh P.rel hT⟩
theorem walks_rng {lo : Int} {n : Nat} : Walks K ρ μ H ((List.range n).map fun (k : Nat) => .int (lo + (k : Int)), []) (Itr lo n) := fun ρ2 μ2 H2 P _ => by
  refine ⟨fun i hi => ?_, ?_, fun i x H3 hi h => ?_⟩
  · have h1 : i < n := by simpa using hi
    exact h1
  · have h1 : n ≤ ((List.range n).map fun (k : Nat) => PV.int (lo + (k : Int))).length := by simp
    exact h1
  · have h1 : i < n := by simpa using hi
    obtain ⟨e, h⟩ := h
    subst e h
    exact ⟨.int (lo + (i : Int)), by simp [h1], by simp [RV], Post.refl P.rel⟩
/-- an iterable's list lasts -/
theorem list_lasts (R : Rel K ρ μ H) {x : Ag} {v : V} {its : Its} (r : RA K H0 ρ H x v) (e : itA μ x = some its) (ht : tview x = none) : ∃ a, v = .ref a ∧ (∃ ys, SqL K H a ys) ∧ ∀ ρ2 μ2 H2, Post K ρ H ρ2 μ2 H2 → stay μ μ2 its.2 → ∃ ys, SqL K H2 a ys ∧ RVs K ρ2 H2 its.1 ys := by
  cases x with
  | l xs =>
    cases e
    obtain ⟨a, ys, e, e1, rs, n, _⟩ := r
    exact ⟨a, e, ⟨ys, SqL.of e1⟩, fun ρ2 μ2 H2 P _ => ⟨ys, SqL.of (P.frm a _ e1 pr_lst n), RVs.las (P.las R) xs ys rs⟩⟩
  | v p =>
    cases p with
    | tup _ => cases ht
    | frz ns =>
      cases e
      obtain ⟨a, e, f⟩ := r
      exact ⟨a, e, ⟨_, f.seq⟩, fun ρ2 μ2 H2 P _ => ⟨_, ((P.las R).frz a ns f).seq, RVs.ints ns⟩⟩
    | ref n =>
      simp only [itA] at e
      split at e
      · rename_i xs hm
        cases e
        obtain ⟨a, e, hn⟩ := r
        obtain ⟨b, hb, ys, e3, rs⟩ := R.at_ _ _ hm
        rw [hn] at hb
        cases hb
        refine ⟨a, e, ⟨ys, SqL.of e3⟩, fun ρ2 μ2 H2 P st => ?_⟩
        have hm2 : μ2[n]? = some (.lst xs) := by rw [st n (by simp)]; exact hm
        obtain ⟨b, hb, zs, e4, rs2⟩ := P.rel.at_ _ _ hm2
        rw [(P.las R).get hn] at hb
        cases hb
        exact ⟨zs, SqL.of e4, rs2⟩
      · cases e
    | _ => cases e
end
section
variable {C : Cx} {W : WX} {a b c : Expr} {es : List Expr} {pos : Pos} {da db dc : Sg → Mu → Out Ag} {dg : Sg → Mu → Out (List Ag)}
theorem s_it {tg : Expr} (ha : PE C a (tA C.K W da)) : PI C tg a (tI C.K W fun σ μ => (da σ μ).bind fun x μ1 => lift (itA μ1 x) μ1) := by
  refine PI.by fun σ H Q q => ?_
  obtain ⟨ρ, μ, σp, R, S, q⟩ := q
  dsimp only at q
  have q' := sat_bind q
  cases hd : da σp μ with
  | bad => rw [hd] at q'; exact q'.elim
  | exc c w μ' =>
    refine ⟨_, pi_list ha, ρ, μ, σp, R, S, ?_⟩
    rw [hd] at q' ⊢
    exact q'
  | ok x μ1 =>
    rw [hd] at q'
    obtain ⟨its, e, k⟩ := sat_lift q'
    cases ht : tview x with
    | some xs =>
      refine ⟨_, pi_tup ha, ρ, μ, σp, R, S, ?_⟩
      rw [hd]
      intro ρ1 v H1 P1 r1
      obtain ⟨l, ys, e1, s1, rs⟩ := tview_at r1 ht
      refine ⟨l, e1, ⟨ys, s1⟩, k ρ1 _ H1 P1 ?_⟩
      cases x with
      | l _ => cases ht
      | v p =>
        cases p with
        | tup ws => cases ht; cases e; exact walks_tup P1.rel s1 rs
        | _ => cases ht
    | none =>
      refine ⟨_, pi_list ha, ρ, μ, σp, R, S, ?_⟩
      rw [hd]
      intro ρ1 v H1 P1 r1
      obtain ⟨l, e1, s1, hl⟩ := list_lasts P1.rel r1 e ht
      exact ⟨l, e1, s1, k ρ1 _ H1 P1 (walks_lst hl)⟩
theorem s_rng {p : Pos} {tg : Expr} (hg : Gl C "range") (hm : C.mg "range" = none) (hs : es.all noStar = true) (hl : es.length = 1 ∨ es.length = 2) (hA : PA C es (tG C.K W dg)) (hd : ∀ σ μ xs μ', dg σ μ = .ok xs μ' → xs.length = es.length) :
    PI C tg (.Call (.Name "range" p) es [] pos) (tI C.K W fun σ μ => (dg σ μ).bind fun xs μ1 => lift ((rngA xs).map fun l => (l, [])) μ1) := by
  match es, hl, hs, hA, hd with
  | [a], _, hs, hA, hd =>
    simp only [List.all_cons, Bool.and_eq_true] at hs
    refine (pi_range1 hg hm hA (star_no hs.1)).imp fun σ H Q q => ?_
    obtain ⟨ρ, μ, σp, R, S, q⟩ := q
    dsimp only at q
    dsimp only [iRng1]
    refine tX_stepE R (Post.refl R) S q fun x μ1 ρ1 v H1 he P1 r1 q => ?_
    obtain ⟨its, e, k⟩ := sat_lift q
    obtain ⟨l, e, el⟩ := map_some e
    have h1 := hd _ _ _ _ he
    match x, h1, r1, e with
    | [y], _, r1, e =>
      obtain ⟨w, rfl, r2⟩ := r1.one
      cases y with
      | l _ => cases e
      | v p =>
        cases p with
        | int j =>
          obtain ⟨hb, e⟩ := some_if e
          subst e el
          simp only [RA, RV] at r2
          subst r2
          exact ⟨j, rfl, hb.1, hb.2, k ρ1 _ H1 P1 walks_rng⟩
        | _ => cases e
  | [a, b], _, hs, hA, hd =>
    simp only [List.all_cons, Bool.and_eq_true] at hs
    refine (pi_range2 hg hm hA (by rw [star_no hs.1, star_no hs.2.1] <;> rfl) (star_no hs.2.1)).imp fun σ H Q q => ?_
    obtain ⟨ρ, μ, σp, R, S, q⟩ := q
    dsimp only at q
    dsimp only [iRng2]
    refine tX_stepE R (Post.refl R) S q fun x μ1 ρ1 v H1 he P1 r1 q => ?_
    obtain ⟨its, e, k⟩ := sat_lift q
    obtain ⟨l, e, el⟩ := map_some e
    have h1 := hd _ _ _ _ he
    match x, h1, r1, e with
    | [y, z], _, r1, e =>
      obtain ⟨w, u, rfl, r2, r3⟩ := r1.two
      unfold rngA at e
      split at e
      · rename_i hx
        cases hx
      · rename_i i j hx
        cases hx
        obtain ⟨hb, e⟩ := some_if e
        subst e el
        simp only [RA, RV] at r2 r3
        subst r2 r3
        exact ⟨i, j, rfl, ⟨hb.1.1, hb.1.2, hb.2.1, hb.2.2⟩, k ρ1 _ H1 P1 walks_rng⟩
      · cases e
theorem s_enum {p tpos : Pos} {elts : List Expr} {kk : Nat} (hg : Gl C "enumerate") (hm : C.mg "enumerate" = none) (hn : noStar a = true) (ha : PE C a (tA C.K W da)) :
    PI C (.Tuple elts kk tpos) (.Call (.Name "enumerate" p) [a] [] pos) (tI C.K W fun σ μ => (da σ μ).bind fun x μ1 => lift ((itA μ1 x).map fun t => (enumP t.1, t.2)) μ1) := by
  have hA : PA C [a] (tCons (tA C.K W da) tNil) := pa_cons ha pa_nil (star_no hn)
  refine PI.by fun σ H Q q => ?_
  obtain ⟨ρ, μ, σp, R, S, q⟩ := q
  dsimp only at q
  have q' := sat_bind q
  cases hd : da σp μ with
  | bad => rw [hd] at q'; exact q'.elim
  | exc c w μ' =>
    refine ⟨_, pi_enum hg hm hA (star_no hn), ρ, μ, σp, R, S, ?_⟩
    rw [hd] at q' ⊢
    exact q'
  | ok x μ1 =>
    rw [hd] at q'
    obtain ⟨t, e, k⟩ := sat_lift q'
    obtain ⟨its, he, et⟩ := map_some e
    clear e
    subst et
    cases ht : tview x with
    | some xs =>
      refine ⟨_, pi_enumT hg hm hA hn, ρ, μ, σp, R, S, ?_⟩
      rw [hd]
      intro ρ1 v H1 P1 r1
      obtain ⟨l, ys, e1, s1, rs⟩ := tview_at r1 ht
      subst e1
      refine ⟨l, ys, rfl, s1, k ρ1 _ H1 P1 ?_⟩
      cases x with
      | l _ => cases ht
      | v p =>
        cases p with
        | tup ws => cases ht; cases he; exact walks_enumT P1.rel s1 rs
        | _ => cases ht
    | none =>
      refine ⟨_, pi_enum hg hm hA (star_no hn), ρ, μ, σp, R, S, ?_⟩
      rw [hd]
      intro ρ1 v H1 P1 r1
      obtain ⟨l, e1, ⟨ys, s1⟩, hl⟩ := list_lasts P1.rel r1 he ht
      subst e1
      exact ⟨l, ys, rfl, s1, k ρ1 _ H1 P1 (walks_enumL hl)⟩
end
end Ev

set_option Elab.async false
set_option linter.all false
set_option maxRecDepth 100000
/-! EvJ: sorted(set(l)) of a list of ints; the list's turn of the hand layer's set(t). -/
namespace L2
open PySem PySem.Spec PyProof.Rows
/-- a set that was just made -/
abbrev setObj0 (w : World) : Obj := { cls := .type "set", dict := none, data := .set #[] 0 (.fresh 0 0 (!w.params.followText "set-order")) }
section
variable {P : Program} {w : World} {A : Around} {E : Value → Shared → Prop} {s : Shared}
set_option maxHeartbeats 3200000 in
theorem set_of_list {l : Addr} {items : Array Value} (ns : List Int) {Q : Value → Shared → Prop} (hh : A.handled = none) (hl : s.heap.IsList l items) (hit : IntsAre items.toList ns) (hb : ns.length + 1 < scanBound)
    (h : ∀ (h' : Heap) (tk c : Nat), SetR w h' s.heap.objs.size (fun j => decide (j ∈ ns)) c → c ≤ ns.length → (∀ b o, s.heap.get? b = some o → h'.get? b = some o) → Q (.ref s.heap.objs.size) { s with heap := h', toks := tk }) :
    wpAny (model P w) A (call (.type "set") [.ref l]) Q E s := by
  have hsz : items.size = ns.length := by
    rw [← IntsAre.length hit, Array.length_toList]
  obtain ⟨c, tl, hmro⟩ := F.called_set.mro
  have hmade := F.called_set.made
  have hsub := F.called_set.sub
  refine wpAny_call (codeAny_of_tree ?_)
  show wpAny _ _ (callAny (.type "set") _) _ _ _
  refine wpAny_pure ⟨Code.quiet_builtin _ (by decide +kernel), codeAny_builtin F.entry_type_call ?_⟩
  rw [Around.under_plain (weight_type_call_type "set" [.ref l] []) rfl]
  have h1 := F.called_set.notType
  have h2 := F.called_set.canCreate
  have hct := F.typeCall_set_1 (.ref l)
  repeat (any_goals (first | assumption | wp_step))
  refine codeAny_mono (code_set_led1 (.ref l) (E := E) (Q₁ := fun obj s₁ => obj = .ref s.heap.objs.size ∧ s₁ = { s with heap := s.heap.push (setObj0 w) }) ⟨rfl, rfl⟩) fun r s₁ hr => ?_
  match r, hr with
  | .error e, hr => exact hr
  | .ok .next, hr => exact hr.elim
  | .ok .brk, hr => exact hr.elim
  | .ok .cont, hr => exact hr.elim
  | .ok (.ret obj), hr =>
    obtain ⟨rfl, rfl⟩ := hr
    have hS : (s.heap.push (setObj0 w)).get? s.heap.objs.size = some (setObj0 w) := Heap.get?_push_size _ rfl
    have hT : Shared.TypeIs { s with heap := s.heap.push (setObj0 w) } (.ref s.heap.objs.size) "set" := ⟨_, hS, rfl⟩
    have hli := F.called_set.init.lookup
    have hbi := F.called_set.init.bind (.ref s.heap.objs.size)
    repeat (any_goals (first | assumption | wp_step))
    refine codeAny_mono (codeAny_call_builtin (R := wants (fun r s₂ => r = .none ∧ ∃ h' tk c, s₂ = { s with heap := h', toks := tk } ∧ SetR w h' s.heap.objs.size (fun j => decide (j ∈ ns)) c ∧ c ≤ ns.length ∧
          (∀ b o, s.heap.get? b = some o → h'.get? b = some o)) E) F.called_set.init.plain F.entry_set_init (check_set_init_1 hT ?_)) fun r₂ s₂ hr₂ => ?_
    · obtain ⟨⟨oc, od, odt, osl⟩, hol, hcl, nl, hdl⟩ := hl
      simp only at hcl hdl
      subst hcl hdl
      have hol' : (s.heap.push (setObj0 w)).get? l = some { cls := .type "list", dict := od, data := .seq items nl, slots := osl } := Heap.get?_push_of_some _ hol
      have hsls := PySem.F.sub_list_set
      have hslf := PySem.F.sub_list_frozenset
      have hne : (Value.type "list" == Value.type "dict") = false := by decide
      have hl1 : (s.heap.push (setObj0 w)).IsList l items := ⟨_, hol', rfl, nl, rfl⟩
      unfold Builtin.«set.__init__» noKeywords Builtin.Frozenset.updateFrom
      generalize hPI : pyIter = PI
      wp_walk
      subst hPI
      refine wpAny_pyIter_list hl1 ?_
      refine wpAny_bind (wpAny_runValue ?_)
      have hlS : l < s.heap.objs.size := Heap.lt_size hol
      have hh3 : A.in1.in1.in1.handled = none := by simp [hh]
      have ez : (s.heap.push (setObj0 w)).objs.size = s.heap.objs.size + 1 := Heap.size_push ..
      have hneI : l ≠ (s.heap.push (setObj0 w)).objs.size := by
        rw [ez]; exact Nat.ne_of_lt (Nat.lt_succ_of_lt hlS)
      have hSf : s.heap.objs.size ∉ [(s.heap.push (setObj0 w)).objs.size, l] := by
        rw [ez]
        simp only [List.mem_cons, List.not_mem_nil, or_false, not_or]
        exact ⟨Nat.ne_of_lt (Nat.lt_succ_self _), Nat.ne_of_gt hlS⟩
      have hval : ∀ (i : Nat) (v : Value), items[i]? = some v → ∃ k t, ns[i]? = some k ∧ v = .int k t := fun i v hv => by
        have hi : i < ns.length := by
          rw [← hsz]
          exact (Array.getElem?_eq_some_iff.mp hv).1
        obtain ⟨t, e⟩ := PyProof.Rows.IntsAre.int_at hit i v (by rw [Array.getElem?_toList]; exact hv)
        have eg : ns.getD i 0 = ns[i] := by
          rw [List.getD_eq_getElem?_getD, List.getElem?_eq_getElem hi] <;> rfl
        rw [eg] at e
        exact ⟨ns[i], t, List.getElem?_eq_getElem hi, e⟩
      refine set_update_ints ((Walks.list hh3 _ l hneI items).toS) s.heap.objs.size hSf ns hsz hb hval (items.size - 0) 0 _ (by omega) (Nat.zero_le _) ⟨⟨_, Heap.get?_push_size _ rfl, rfl, rfl⟩, (hl1.push _)⟩
        ⟨0, Nat.le_refl 0, setR_new_at (Heap.get?_push_of_some _ hS)⟩ ?_
      rintro ⟨h', g2, d', tk', os'⟩ c' hm hc' hS'
      obtain rfl : g2 = s.gens := hm.gens
      obtain rfl : d' = s.drawn := hm.drawn
      obtain rfl : os' = s.os := hm.os
      show wpAny _ _ _ _ _ _
      refine wpAny_pure ?_
      show wpAny _ _ (ret Value.none) _ _ _
      rw [hsz] at hc'
      refine wpAny_pure ⟨rfl, h', tk', c', rfl, hS', hc', fun b o e => ?_⟩
      have hb0 : b < s.heap.objs.size := Heap.lt_size e
      refine hm.heap b o ?_ (Heap.get?_push_of_some _ (Heap.get?_push_of_some _ e))
      simp only [List.mem_cons, List.not_mem_nil, or_false, not_or, ez]
      exact ⟨Nat.ne_of_lt hb0, Nat.ne_of_lt (Nat.lt_succ_of_lt hb0)⟩
    · match r₂, hr₂ with
      | .error e, hr₂ => exact hr₂
      | .ok .next, hr₂ => exact hr₂.elim
      | .ok .brk, hr₂ => exact hr₂.elim
      | .ok .cont, hr₂ => exact hr₂.elim
      | .ok (.ret r), hr₂ =>
        obtain ⟨rfl, h', tk, c', rfl, hS', hc', hk'⟩ := hr₂
        repeat (any_goals (first | assumption | wp_step))
        exact h _ _ _ hS' hc' hk'
end
end L2

set_option Elab.async false
set_option linter.all false
set_option maxRecDepth 100000
/-! EvK: sorted(set(..)), list(range(..)), zip. Own work. -/
namespace Ev
open PySem PySem.Spec PyProof.Rows L2
variable [Tb]
open Classical
theorem mem_insI {x y : Int} : ∀ {l : List Int}, y ∈ insI x l ↔ y = x ∨ y ∈ l
  | [] => by simp [insI]
  | z :: l => by
    unfold insI
    by_cases h1 : x < z
    · rw [if_pos h1]
      simp
    · rw [if_neg h1]
      by_cases h2 : x = z
      · rw [if_pos h2]
        subst h2
        simp
      · rw [if_neg h2, List.mem_cons, mem_insI, List.mem_cons]
        constructor
        · rintro (h | h | h)
          · exact .inr (.inl h)
          · exact .inl h
          · exact .inr (.inr h)
        · rintro (h | h | h)
          · exact .inr (.inl h)
          · exact .inl h
          · exact .inr (.inr h)
theorem insI_lt {x : Int} : ∀ {l : List Int}, l.Pairwise (· < ·) → (insI x l).Pairwise (· < ·)
  | [], _ => by simp [insI]
  | z :: l, h => by
    obtain ⟨h1, h2⟩ := List.pairwise_cons.mp h
    unfold insI
    by_cases c1 : x < z
    · rw [if_pos c1]
      refine List.pairwise_cons.mpr ⟨fun y hy => ?_, h⟩
      rcases List.mem_cons.mp hy with e | hy
      · rw [e]; exact c1
      · have := h1 y hy
        omega
    · rw [if_neg c1]
      by_cases c2 : x = z
      · rw [if_pos c2]; exact h
      · rw [if_neg c2]
        refine List.pairwise_cons.mpr ⟨fun y hy => ?_, insI_lt h2⟩
        rcases mem_insI.mp hy with e | hy
        · omega
        · exact h1 y hy
theorem mem_sortD {y : Int} : ∀ {l : List Int}, y ∈ sortD l ↔ y ∈ l
  | [] => by simp [sortD]
  | x :: l => by
    have ih := mem_sortD (y := y) (l := l)
    show y ∈ insI x (sortD l) ↔ _
    rw [mem_insI, ih, List.mem_cons]
theorem sortD_lt : ∀ (l : List Int), (sortD l).Pairwise (· < ·)
  | [] => by simp [sortD]
  | x :: l => insI_lt (sortD_lt l)
theorem lt_ext : ∀ {l m : List Int}, l.Pairwise (· < ·) → m.Pairwise (· < ·) → (∀ x, x ∈ l ↔ x ∈ m) → l = m
  | [], [], _, _, _ => rfl
  | [], y :: m, _, _, h => absurd ((h y).mpr List.mem_cons_self) (by simp)
  | x :: l, [], _, _, h => absurd ((h x).mp List.mem_cons_self) (by simp)
  | x :: l, y :: m, hl, hm, h => by
    obtain ⟨l1, l2⟩ := List.pairwise_cons.mp hl
    obtain ⟨m1, m2⟩ := List.pairwise_cons.mp hm
    have e : x = y := by
      rcases List.mem_cons.mp ((h x).mp List.mem_cons_self) with e | e
      · exact e
      · rcases List.mem_cons.mp ((h y).mpr List.mem_cons_self) with e2 | e2
        · exact e2.symm
        · have a := m1 x e
          have b := l1 y e2
          omega
    subst e
    rw [lt_ext l2 m2 fun z => ?_]
    constructor
    · intro hz
      rcases List.mem_cons.mp ((h z).mp (List.mem_cons_of_mem _ hz)) with e | e
      · have := l1 z hz
        omega
      · exact e
    · intro hz
      rcases List.mem_cons.mp ((h z).mpr (List.mem_cons_of_mem _ hz)) with e | e
      · have := m1 z hz
        omega
      · exact e
theorem nodup_le : ∀ {l m : List Int}, l.Nodup → (∀ x ∈ l, x ∈ m) → l.length ≤ m.length
  | [], _, _, _ => Nat.zero_le _
  | x :: l, m, h, s => by
    obtain ⟨h1, h2⟩ := List.nodup_cons.mp h
    have ih := nodup_le (m := m.erase x) h2 fun y hy => (List.mem_erase_of_ne (fun e => h1 (by rw [← e]; exact hy))).mpr (s y (List.mem_cons_of_mem _ hy))
    have hx := s x List.mem_cons_self
    have hl := List.length_erase_of_mem hx
    have hp : 0 < m.length := List.length_pos_of_mem hx
    rw [List.length_cons]
    omega
theorem lt_nodup {l : List Int} (h : l.Pairwise (· < ·)) : l.Nodup := h.imp fun {a b} h e => by omega
theorem setR_card {w : World} {h : Heap} {a : Addr} {ns : List Int} {c : Nat} (R : SetR w h a (fun j => decide (j ∈ ns)) c) : c = (sortD ns).length := by
  obtain ⟨o, es, ep, t, _, _, _, _, nd, hm, _, _, hn, _⟩ := R
  have h1 : ∀ k, k ∈ es.toList.map keyOf ↔ k ∈ sortD ns := fun k => by
    rw [← hm k, mem_sortD]
    simp
  have l1 := nodup_le nd fun x hx => (h1 x).mp hx
  have l2 := nodup_le (lt_nodup (sortD_lt ns)) fun x hx => (h1 x).mpr hx
  rw [List.length_map] at l1 l2
  have e : es.toList.length = es.size := by simp
  omega
theorem intsOf_at {K : PySem.W.Frag} {ρ : List Addr} {H : Hp} : ∀ {xs : List PV} {ns : List Int} {ys : List V}, RVs K ρ H xs ys → intsOf xs = some ns → ys = ns.map V.int
  | [], _, _, h, e => by
    cases e
    simp only [RV.all] at h
    exact h
  | x :: xs, _, _, h, e => by
    simp only [RV.all] at h
    obtain ⟨y, r, e1, h1, h2⟩ := h
    cases x with
    | int i =>
      simp only [intsOf] at e
      obtain ⟨ms, hm, e⟩ := map_some e
      subst e
      simp only [RV] at h1
      rw [e1, h1, intsOf_at h2 hm]
      rfl
    | _ => cases e
section
variable {C : Cx} {W : WX} {a b c : Expr} {es : List Expr} {pos : Pos} {da db dc : Sg → Mu → Out Ag} {dg : Sg → Mu → Out (List Ag)}
/-- set(x), x a list or a tuple of ints -/
def rSetE (K : PySem.W.Frag) (w : World) : List V → Hp → VK → Prop := fun vs H Q => ∃ l ns, vs = [.ref l] ∧ ns.length + 1 < scanBound ∧ (SqL K H l (ns.map V.int) ∨ SqT K H l (ns.map V.int)) ∧
  ∀ p, H p = none → Q (.ref p) (upd H p (SetO w p (fun j => decide (j ∈ ns)) (sortD ns).length))
theorem call_setE (hc : C.calm = true) : CallR C (.type "set") (rSetE C.K C.w) := by
  intro pins s σ H xs us Q I rs h
  obtain ⟨l, ns, rfl, hb, hs, q⟩ := h
  obtain rfl : us = [Value.ref l] := Vals.ref1 rs
  have fin : ∀ (h' : Heap) (tk c : Nat), SetR C.w h' s.heap.objs.size (fun j => decide (j ∈ ns)) c → c ≤ ns.length → (∀ b o, s.heap.get? b = some o → h'.get? b = some o) → EP C pins σ Q (.ref s.heap.objs.size) { s with heap := h', toks := tk } := fun h' tk c R _ k => by
    rw [setR_card R] at R
    exact ⟨.ref _, _, I.laid (t' := tk) k (Nat.le_refl _) (setO_new R), rfl, q _ (I.hok.fresh (Nat.le_refl _))⟩
  rcases hs with hs | hs
  · obtain ⟨its, rv, p, _⟩ := I.list hs
    exact set_of_list ns (I.ok.hd hc) p.isList (by simpa using rv.ints) hb fin
  · obtain ⟨its, rv, p, _⟩ := I.tuple hs
    exact call_set_tupI ns (I.ok.hd hc) p (by simpa using rv.ints) hb fin
theorem boot_sorted' : bootBuiltins "sorted" = some (.builtin "sorted") := by decide +kernel
theorem scan_ok {n : Nat} (h : n < 4000) : n + 1 < scanBound := by
  have : (4001 : Nat) < scanBound := by decide +kernel
  omega
theorem s_sortSet {p p2 pos2 : Pos} (hc : C.calm = true) (g1 : Gl C "sorted") (m1 : C.mg "sorted" = none) (g2 : Gl C "set") (m2 : C.mg "set" = none) (hn : noStar a = true) (ha : PE C a (tA C.K W da)) :
    PE C (.Call (.Name "sorted" p) [.Call (.Name "set" p2) [a] [] pos2] [] pos) (tA C.K W fun σ μ => (da σ μ).bind fun x μ1 => lift (sortSetA μ1 x) μ1) := by
  have hin := pe_callTy (pos := pos2) (p := p2) (call_setE hc) g2 m2 boot_set (pa_cons ha pa_nil (star_no hn)) (by decide) (by decide) (star_no hn) (by rfl)
  refine (pe_callB (cr_sortedSet hc) g1 m1 boot_sorted' (pa_cons hin pa_nil rfl) (by decide) (by decide) rfl (by rfl)).imp fun σ H Q q => ?_
  obtain ⟨ρ, μ, σp, R, S, q⟩ := q
  dsimp only at q
  dsimp only [tCB, tCons, tNil]
  refine tX_step R (Post.refl R) S q fun x μ1 ρ1 v H1 P1 r1 q => ?_
  obtain ⟨z, e, k⟩ := sat_lift q
  unfold sortSetA at e
  cases hs : sview μ1 x with
  | none => simp [hs] at e
  | some xs =>
    cases hi : intsOf xs with
    | none => simp [hs, hi] at e
    | some ns =>
      simp only [hs, hi, Option.bind_some] at e
      obtain ⟨hb, e⟩ := some_if e
      subst e
      obtain ⟨l, ys, e1, s1, rs⟩ := sview_at P1.rel r1 hs
      subst e1
      rw [intsOf_at rs hi] at s1
      refine ⟨l, ns, rfl, scan_ok hb.2, s1, fun p0 hp0 => ?_⟩
      have P2 : Post C.K ρ1 H1 ρ1 μ1 (upd H1 p0 (SetO C.w p0 (fun j => decide (j ∈ ns)) (sortD ns).length)) := Post.fresh P1.rel hp0
      refine ⟨p0, _, _, rfl, upd_same, hb.1, fun ms p' hpw hmem hlen hp' => ?_⟩
      have em : ms = sortD ns := lt_ext hpw (sortD_lt ns) fun x => by
        rw [hmem x, mem_sortD]
        simp
      subst em
      have P3 := Post.fresh (o := .lst ((sortD ns).map V.int)) P2.rel hp'
      refine k ρ1 _ _ (P1.trans (P2.trans P3)) ?_
      have r3 := new_l P2.rel (RVs.ints (sortD ns)) hp'
      exact r3.back (P1.trans P2) fun _ h => h
/-- list(range(..)), tuple(range(..)) -/
theorem rg_eq (i j : Int) : rgV i j = ((List.range (j - i).toNat).map fun (k : Nat) => PV.int (i + (k : Int))).map fun p => (match p with | .int n => V.int n | _ => V.non) := by
  simp [rgV]
theorem rg_at {K : PySem.W.Frag} {ρ : List Addr} {H : Hp} (i : Int) : ∀ (ks : List Nat), RVs K ρ H (ks.map fun (k : Nat) => PV.int (i + (k : Int))) (ks.map fun k => V.int (i + (k : Nat)))
  | [] => rfl
  | k :: ks => ⟨_, _, rfl, by simp [RV], rg_at i ks⟩
theorem prg_at {p : Pos} (hg : Gl C "range") (hm : C.mg "range" = none) (hs : es.all noStar = true) (hl : es.length = 1 ∨ es.length = 2) (hA : PA C es (tG C.K W dg)) :
    PRg C (.Call (.Name "range" p) es [] pos) (fun σ H Q => tG C.K W dg σ H fun vs H1 => ∃ i j, vs.length = es.length ∧ (vs = [.int j] ∧ i = 0 ∨ vs = [.int i, .int j]) ∧ Q i j H1) := by
  intro pins s σ H Q I h
  match es, hl, hs, hA, h with
  | [a], _, hs, hA, h =>
    simp only [List.all_cons, Bool.and_eq_true] at hs
    refine Call_ (ld_blt I hg hm boot_range (PyProof.Rows.callWith_type1 (thn (hA.run pos pins s σ H _ I h) fun us s1 ⟨vs, H1, I1, r1, i, j, hl, hv, q⟩ => ?_) (star_no hs.1) rfl))
    rcases hv with ⟨rfl, rfl⟩ | rfl
    · cases r1 with
      | cons r rr =>
        cases rr
        obtain ⟨t, rfl⟩ := r
        exact call_range_1 ⟨_, 0, j, _, _, _, H1, rfl, IsRange.new _ _ _ _ _ _ _, I1.kept fun b u e => Heap.get?_push_of_some _ e, q⟩
    · cases hl
  | [a, b], _, hs, hA, h =>
    simp only [List.all_cons, Bool.and_eq_true] at hs
    refine Call_ (ld_blt I hg hm boot_range (PyProof.Rows.callWith_type1 (thn (hA.run pos pins s σ H _ I h) fun us s1 ⟨vs, H1, I1, r1, i, j, hl, hv, q⟩ => ?_) (star_no hs.1) (star_plain (by simp [hs.2.1]))))
    rcases hv with ⟨rfl, rfl⟩ | rfl
    · cases hl
    · cases r1 with
      | cons r rr =>
        cases rr with
        | cons r' rr =>
          cases rr
          obtain ⟨t, rfl⟩ := r
          obtain ⟨t', rfl⟩ := r'
          exact call_range_2 ⟨_, i, j, _, _, _, H1, rfl, IsRange.new _ _ _ _ _ _ _, I1.kept fun b u e => Heap.get?_push_of_some _ e, q⟩
theorem range_no {es : List Expr} {g : Expr} {p : Pos} {env : Env} : starEach [.Call g es [] p] env = (false, eval (.Call g es [] p) env) :: starEach [] env := rfl
theorem rng_at {K : PySem.W.Frag} {ρ : List Addr} {H H0 : Hp} {x : List Ag} {vs : List V} {l : List PV} {n : Nat} (r : RAs K H0 ρ H x vs) (e : rngA x = some l) (hx : x.length = n) : ∃ i j, vs.length = n ∧ (vs = [.int j] ∧ i = 0 ∨ vs = [.int i, .int j]) ∧ -(2 ^ 62) ≤ i ∧ i < 2 ^ 62 ∧ -(2 ^ 62) ≤ j ∧ j < 2 ^ 62 ∧ l = (List.range (j - i).toNat).map fun (k : Nat) => .int (i + (k : Int)) := by
  unfold rngA at e
  split at e
  · rename_i j
    obtain ⟨hb, e⟩ := some_if e
    obtain ⟨w, rfl, r2⟩ := r.one
    simp only [RA, RV] at r2
    subst r2
    refine ⟨0, j, by rw [← hx]; rfl, .inl ⟨rfl, rfl⟩, by decide, by decide, hb.1, hb.2, ?_⟩
    rw [← e, Int.sub_zero]
  · rename_i i j
    obtain ⟨hb, e⟩ := some_if e
    obtain ⟨w, u, rfl, r2, r3⟩ := r.two
    simp only [RA, RV] at r2 r3
    subst r2 r3
    exact ⟨i, j, by rw [← hx]; rfl, .inr rfl, hb.1.1, hb.1.2, hb.2.1, hb.2.2, e.symm⟩
  · cases e
theorem s_conv {t : Bool} {p p2 pos2 : Pos} (hc : C.calm = true) (g1 : Gl C (Str.ofString (if t = true then "tuple" else "list"))) (m1 : C.mg (Str.ofString (if t = true then "tuple" else "list")) = none) (hg : Gl C "range") (hm : C.mg "range" = none)
    (hs : es.all noStar = true) (hl : es.length = 1 ∨ es.length = 2) (hA : PA C es (tG C.K W dg)) (hd : ∀ σ μ xs μ', dg σ μ = .ok xs μ' → xs.length = es.length) :
    PE C (.Call (.Name (Str.ofString (if t = true then "tuple" else "list")) p) [.Call (.Name "range" p2) es [] pos2] [] pos) (tA C.K W fun σ μ => ((dg σ μ).bind fun xs μ1 => lift ((rngA xs).map fun l => ((l, []) : Its)) μ1).bind fun xs μ1 => if xs.1.length ≤ sizeLine then .ok (convA t xs.1) μ1 else .bad) := by
  have hR := prg_at (pos := pos2) (p := p2) hg hm hs hl hA
  cases t with
  | false =>
    refine (pe_listRg hc g1 m1 hR range_no).imp fun σ H Q q => ?_
    obtain ⟨ρ, μ, σp, R, S, q⟩ := q
    dsimp only at q
    dsimp only [tLstRg]
    rw [Out.bind_assoc] at q
    refine tX_stepE R (Post.refl R) S q fun x μ1 ρ1 v H1 he P1 r1 q => ?_
    obtain ⟨its, e, q⟩ := sat_lift (sat_bind q)
    obtain ⟨l, e', el⟩ := map_some e
    clear e
    subst el
    obtain ⟨hz, q⟩ := sat_if q
    obtain ⟨i, j, h1, h2, b1, b2, b3, b4, rfl⟩ := rng_at r1 e' (hd _ _ _ _ he)
    have hz' : (j - i).toNat ≤ sizeLine := by simpa using hz
    refine ⟨i, j, h1, h2, ⟨b1, b2, b3, b4, by rw [sizeLine_eq] at hz'; omega⟩, fun p0 hp0 => ?_⟩
    exact q ρ1 _ _ (P1.trans (Post.fresh P1.rel hp0)) (RA.back P1 (new_l P1.rel (rg_at i _) hp0) fun _ h => h)
  | true =>
    refine (pe_tupRg hc g1 m1 hR range_no).imp fun σ H Q q => ?_
    obtain ⟨ρ, μ, σp, R, S, q⟩ := q
    dsimp only at q
    dsimp only [tTupRg]
    rw [Out.bind_assoc] at q
    refine tX_stepE R (Post.refl R) S q fun x μ1 ρ1 v H1 he P1 r1 q => ?_
    obtain ⟨its, e, q⟩ := sat_lift (sat_bind q)
    obtain ⟨l, e', el⟩ := map_some e
    clear e
    subst el
    obtain ⟨hz, q⟩ := sat_if q
    obtain ⟨i, j, h1, h2, b1, b2, b3, b4, rfl⟩ := rng_at r1 e' (hd _ _ _ _ he)
    have hz' : (j - i).toNat ≤ sizeLine := by simpa using hz
    refine ⟨i, j, h1, h2, ⟨b1, b2, b3, b4, by rw [sizeLine_eq] at hz'; omega⟩, fun p0 hp0 => ?_⟩
    exact q ρ1 _ _ (P1.trans (Post.fresh P1.rel hp0)) (RA.back P1 (new_t P1.rel (rg_at i _) hp0) fun _ h => h)
end
end Ev

set_option Elab.async false
set_option linter.all false
set_option maxRecDepth 100000
/-! EvK3: a tuple turned round, whole numbers sorted. Own work. -/
namespace Ev
open PySem PySem.Spec PyProof.Rows L2
section
variable {prog : Program} {w : World} {A : Around} {E : Value → Shared → Prop} {s : Shared}
theorem adj_rev (n : Nat) : Builtin.Slice.sliceAdjust none none (-1) (n : Int) = ((n : Int) - 1, -1) := rfl
theorem plc_rev (n : Nat) : Builtin.Slice.slicePlaces ((n : Int) - 1) (-1) (-1) = n := by
  unfold Builtin.Slice.slicePlaces
  by_cases h : (n : Int) - 1 > -1
  · rw [if_neg (by decide), if_pos h]
    have : ((n : Int) - 1 - -1 - 1) / (- -1) + 1 = (n : Int) := by
      have e : (- -1 : Int) = 1 := rfl
      rw [e, Int.ediv_one]
      omega
    rw [this, Int.toNat_natCast]
  · rw [if_neg (by decide), if_neg h]
    show (0 : Nat) = n
    omega
theorem app_rev {sl : Addr} {vl vu vs : Value} {n : Nat} {Q : Int × Int × Nat → Shared → Prop} (hs : s.heap.IsSliceOf sl vl vu vs) (pl : IsPart vl none) (pu : IsPart vu none) (ps : IsPart vs (some (-1))) (h : Q ((n : Int) - 1, -1, n) s) :
    wpAny (model prog w) A (Builtin.Slice.sliceApplied (.ref sl) (pure (n : Int))) Q E s := by
  obtain ⟨o, ho, _, hd⟩ := id hs
  unfold Builtin.Slice.sliceApplied
  unfold Builtin.Slice.sliceFields
  refine wpAny_bind (wpAny_bind (wpAny_field ho hd (x := vl) rfl (wpAny_bind (wpAny_field ho hd (x := vu) rfl (wpAny_bind (wpAny_field ho hd (x := vs) rfl (wpAny_pure ?_)))))))
  refine wpAny_bind (HT.slicePart_ ps ?_)
  refine (show ∀ t, wpAny _ _ t _ _ s → wpAny _ _ (if ((-1 : Int) == 0) = true then _ else t) _ _ s from fun t ht => by rw [if_neg (by decide)]; exact ht) _ ?_
  refine wpAny_bind (HT.slicePart_ pl (wpAny_bind (HT.slicePart_ pu (wpAny_bind (wpAny_pure ?_)))))
  show wpAny _ _ (match Builtin.Slice.sliceAdjust none none (-1) (n : Int) with | (a, b) => pure (a, (-1 : Int), Builtin.Slice.slicePlaces a b (-1))) _ _ s
  rw [adj_rev]
  show wpAny _ _ (pure ((n : Int) - 1, (-1 : Int), Builtin.Slice.slicePlaces ((n : Int) - 1) (-1) (-1))) _ _ s
  rw [plc_rev]
  exact wpAny_pure h
theorem fm_range {β : Type} {f : Nat → Option β} {g : Nat → β} : ∀ n, (∀ k, k < n → f k = some (g k)) → (List.range n).filterMap f = (List.range n).map g
  | 0, _ => rfl
  | n + 1, h => by
    rw [List.range_succ, List.filterMap_append, List.map_append, fm_range n fun k hk => h k (by omega)]
    simp [h n (by omega)]
theorem pick_rev (xs : List Value) : ((List.range xs.length).filterMap fun (k : Nat) => xs.toArray[((xs.length : Int) - 1 + (k : Int) * -1).toNat]?) = xs.reverse := by
  rw [fm_range (g := fun k => xs.reverse[k]?.getD .none) xs.length fun k hk => by
    have e2 : ((xs.length : Int) - 1 + (k : Int) * -1).toNat = xs.length - 1 - k := by omega
    have h3 : xs.length - 1 - k < xs.length := by omega
    rw [e2, List.getElem?_toArray, List.getElem?_reverse hk]
    simp [h3]]
  apply List.ext_getElem?
  intro i
  rcases Nat.lt_or_ge i xs.length with h | h
  · rw [List.getElem?_map, List.getElem?_range h]
    have h3 : i < xs.reverse.length := by simpa using h
    rw [List.getElem?_eq_getElem h3, Option.map_some, List.getElem?_eq_getElem h3]
    rfl
  · rw [List.getElem?_eq_none (by simpa using h), List.getElem?_eq_none (by simpa using h)]
theorem get_rev {t sl : Addr} {its : List Value} {vl vu vs : Value} {Q : Value → Shared → Prop} (ht : PyProof.Rows.IsTup s.heap t its.toArray) (hs : s.heap.IsSliceOf sl vl vu vs) (pl : IsPart vl none) (pu : IsPart vu none) (ps : IsPart vs (some (-1)))
    (h : Q (.ref s.heap.objs.size) { s with heap := s.heap.push { cls := .type "tuple", data := .seq its.reverse.toArray } }) (hsz : its.length ≤ sizeLine) : wpAny (model prog w) A (getItem (.ref t) (.ref sl)) Q E s := by
  have hok : sizeOk (.seq its.reverse.toArray) := by
    show its.reverse.toArray.size ≤ sizeLine
    rw [List.size_toArray, List.length_reverse]
    exact hsz
  obtain ⟨o, ho, hc, hd⟩ := id hs
  have hty : s.TypeIs (.ref sl) "slice" := ⟨o, ho, hc⟩
  unfold getItem
  try with_reducible refine wpAny_holding ?_
  try refine wpAny_bind (wpAny_pure ?_)
  refine wpAny_bind (wpAny_sequenceKey ht.typeIs (by decide) (wpAny_bind (wpAny_callSpecial?_slot (name := Str.ofString "__getitem__") ht.typeIs PyProof.Rows.slot_tuple_getitem (wpAny_call_entry PyProof.Rows.slot_tuple_getitem ht.typeIs entry_tuple_getitem ?_ (args_tuple_getitem _ _)))))
  show wpAny _ _ (Builtin.Tuple.tupleItemsOf (.ref t) >>= _) _ _ s
  refine wpAny_bind (tupleItemsOf_ ht (wpAny_bind (wpAny_typeOf hty ?_)))
  rw [if_pos (by decide)]
  have hsz2 : its.toArray.size = its.length := by simp
  rw [hsz2]
  refine wpAny_bind (app_rev hs pl pu ps ?_)
  refine (show ∀ b (x y : PySem.Sem Fin), b = false → wpAny (model prog w) _ y _ _ s → wpAny (model prog w) _ (if b = true then x else y) _ _ s from fun b x y hb hy => by rw [hb, if_neg Bool.false_ne_true]; exact hy) _ _ _ (by rw [show ((-1 : Int) == 1) = false from rfl]; simp) ?_
  rw [pick_rev]
  first
    | exact wpAny_bind (m := Builtin.Tuple.tupleExact _) (wpAny_newObj_type (wpAny_pure ⟨_, rfl, wpAny_pure h⟩) hok)
    | exact wpAny_bind (m := Builtin.Tuple.tupleExact _) (wpAny_newObj_type (wpAny_bind (wpAny_pure (wpAny_pure ⟨_, rfl, wpAny_pure h⟩))) hok)
    | exact wpAny_bind (wpAny_bind (m := Builtin.Tuple.tupleExact _) (wpAny_newObj_type (wpAny_pure (wpAny_pure ⟨_, rfl, wpAny_pure h⟩)) hok))
    | exact wpAny_bind (wpAny_bind (m := Builtin.Tuple.tupleExact _) (wpAny_newObj_type (wpAny_pure ⟨_, rfl, wpAny_pure h⟩) hok))
end
/-- t[::-1], t a tuple -/
def tRevT (K : PySem.W.Frag) (te : TE) : TE := fun σ H Q => te σ H fun x H1 => ∃ a xs, x = .ref a ∧ SqT K H1 a xs ∧ ∀ p, H1 p = none → Q (.ref p) (upd H1 p (.tup xs.reverse))
theorem pe_revT {X : Cx} {e : Expr} {te : TE} {k : Nat} {p1 p2 p3 pos : Pos} (he : PE X e te) : PE X (.Subscript e (.Slice none none (some (.UnaryOp .USub (.Constant (.int 1) k p1) p2)) p3) pos) (tRevT X.K te) := by
  refine ⟨fun pins s σ H Q I h => Subscript_ (thn (he.run pins s σ H _ I h) fun v s1 ⟨x, H1, I1, r1, a, xs, ex, hx, q⟩ => ?_)⟩
  subst ex
  cases r1
  have st : PO X (some (.UnaryOp .USub (.Constant (.int 1) k p1) p2)) (tPart (tUn (rU fun i => .int (-i)) (tC (.int 1)))) := po_some (pe_un un_neg pe_int)
  refine wpAny_Slice (thn (po_none.run pins s1 σ H1 (fun o H2 => o = none ∧ H2 = H1) I1 ⟨rfl, rfl⟩) fun vl s2 ⟨_, H2, I2, pl, e1, e2⟩ => ?_)
  subst e1 e2
  refine thn (po_none.run pins s2 σ _ (fun o H3 => o = none ∧ H3 = H2) I2 ⟨rfl, rfl⟩) fun vu s3 ⟨_, H3, I3, pu, e3, e4⟩ => ?_
  subst e3 e4
  refine thn (st.run pins s3 σ _ (fun o H4 => o = some (-1) ∧ H4 = H3) I3 ⟨1, rfl, -1, rfl, rfl, rfl⟩) fun vs s4 ⟨_, H4, I4, ps, e5, e6⟩ => ?_
  subst e5 e6
  have I5 : Inv X pins σ H4 { s4 with heap := s4.heap.push { cls := .type "slice", data := .fields #[vl, vu, vs] } } := I4.kept (t' := s4.toks) fun _ _ q => Heap.get?_push_of_some _ q
  obtain ⟨its, r, ht, hz⟩ := I5.tuple hx
  have hl := r.length
  show wpAny (model X.prog X.w) X.A (subscriptTail e (.Slice none none (some (.UnaryOp .USub (.Constant (.int 1) k p1) p2)) p3) (.ref a) (.ref s4.heap.objs.size)) (EP X pins σ Q) X.xe _
  refine tail_any (ops := [.ref a, .ref s4.heap.objs.size]) ht.typeIs PyProof.Rows.slot_tuple_getitem.lookup (get_rev ht (Heap.IsSliceOf.new _ vl vu vs) pl pu ps ?_ (by omega)) (by with_unfolding_all rfl)
  exact ⟨.ref _, _, I5.laid (t' := s4.toks) (o := .tup xs.reverse) (fun _ _ q => Heap.get?_push_of_some _ q) (Nat.le_refl _) ⟨by rw [List.length_reverse]; exact hz, _, r.reverse, PyProof.Rows.IsTup.new _ _⟩, rfl, q _ (I5.hok.fresh (Nat.le_refl _))⟩
theorem RVs.rev [Tb] {K : PySem.W.Frag} {ρ : List Addr} {H : Hp} : ∀ {xs : List PV} {ys : List V}, RVs K ρ H xs ys → RVs K ρ H xs.reverse ys.reverse
  | [], _, h => by
    simp only [RV.all] at h
    subst h
    rfl
  | x :: xs, _, h => by
    simp only [RV.all] at h
    obtain ⟨y, r, e, h1, h2⟩ := h
    subst e
    rw [List.reverse_cons, List.reverse_cons]
    exact (RVs.rev h2).append ⟨y, [], rfl, h1, rfl⟩
theorem insL_perm (x : Int) : ∀ ys : List Int, (insL x ys).Perm (x :: ys)
  | [] => .refl _
  | y :: ys => by
    unfold insL
    split
    · exact .refl _
    · exact ((insL_perm x ys).cons y).trans (.swap x y ys)
theorem sortI_perm : ∀ ys : List Int, (sortI ys).Perm ys
  | [] => .refl _
  | y :: ys => (insL_perm y (sortI ys)).trans ((sortI_perm ys).cons y)
theorem insL_le (x : Int) : ∀ ys : List Int, ys.Pairwise (· ≤ ·) → (insL x ys).Pairwise (· ≤ ·)
  | [], _ => by simp [insL]
  | y :: ys, h => by
    unfold insL
    rw [List.pairwise_cons] at h
    split
    · rename_i hx
      rw [List.pairwise_cons, List.pairwise_cons]
      refine ⟨fun z hz => ?_, h⟩
      rcases List.mem_cons.mp hz with rfl | hz
      · exact hx
      · exact Int.le_trans hx (h.1 z hz)
    · rename_i hx
      rw [List.pairwise_cons]
      refine ⟨fun z hz => ?_, insL_le x ys h.2⟩
      rcases List.mem_cons.mp ((insL_perm x ys).mem_iff.mp hz) with rfl | hz
      · omega
      · exact h.1 z hz
theorem sortI_le : ∀ ys : List Int, (sortI ys).Pairwise (· ≤ ·)
  | [] => by simp [sortI]
  | y :: ys => insL_le y _ (sortI_le ys)
section
variable [Tb] {C : Cx} {W : WX} {a : Expr} {da : Sg → Mu → Out Ag} {pos : Pos}
theorem s_rev {k : Nat} {p1 p2 p3 : Pos} (ha : PE C a (tA C.K W da)) : PE C (.Subscript a (.Slice none none (some (.UnaryOp .USub (.Constant (.int 1) k p1) p2)) p3) pos) (tA C.K W fun σ μ => (da σ μ).bind fun x μ1 => lift (revA x) μ1) := by
  refine (pe_revT ha).imp fun σ H Q q => ?_
  obtain ⟨ρ, μ, σp, R, S, q⟩ := q
  dsimp only at q
  dsimp only [tRevT]
  refine tX_step R (Post.refl R) S q fun x μ1 ρ1 v H1 P1 r1 q => ?_
  obtain ⟨z, e, k⟩ := sat_lift q
  cases x with
  | l _ => cases e
  | v p =>
    cases p with
    | tup xs =>
      cases e
      obtain ⟨l, ys, e1, s1, rs⟩ := tview_at r1 rfl
      exact ⟨l, ys, e1, s1, fun p hp => k ρ1 _ _ (P1.trans (Post.fresh P1.rel hp)) (RA.back P1 (new_t P1.rel (RVs.rev rs) hp) fun _ h => h)⟩
    | _ => cases e
theorem s_sortL {p : Pos} (g1 : Gl C "sorted") (m1 : C.mg "sorted" = none) (hn : noStar a = true) (ha : PE C a (tA C.K W da)) : PE C (.Call (.Name "sorted" p) [a] [] pos) (tA C.K W fun σ μ => (da σ μ).bind fun x μ1 => lift (sortLA μ1 x) μ1) := by
  refine (pe_callB cr_sortedI g1 m1 boot_sorted' (pa_cons ha pa_nil (star_no hn)) (by decide) (by decide) (star_no hn) (by rfl)).imp fun σ H Q q => ?_
  obtain ⟨ρ, μ, σp, R, S, q⟩ := q
  dsimp only at q
  dsimp only [tCB, tCons, tNil]
  refine tX_step R (Post.refl R) S q fun x μ1 ρ1 v H1 P1 r1 q => ?_
  obtain ⟨z, e, k⟩ := sat_lift q
  unfold sortLA at e
  cases hs : lview μ1 x with
  | none => simp [hs] at e
  | some xs =>
    cases hi : intsOf xs with
    | none => simp [hs, hi] at e
    | some ns =>
      simp only [hs, hi, Option.bind_some, Option.some.injEq] at e
      subst e
      obtain ⟨l, ys, e1, s1, rs⟩ := lview_at P1.rel r1 hs
      subst e1
      rw [intsOf_at rs hi] at s1
      refine ⟨l, ns, rfl, s1, fun ns' p0 hp hpw hp0 => ?_⟩
      have em : ns' = sortI ns := List.Perm.eq_of_pairwise (le := (· ≤ ·)) (fun _ _ _ _ h1 h2 => Int.le_antisymm h1 h2) hpw (sortI_le ns) (hp.trans (sortI_perm ns).symm)
      rw [em]
      exact k ρ1 _ _ (P1.trans (Post.fresh P1.rel hp0)) (RA.back P1 (new_l P1.rel (RVs.ints _) hp0) fun _ h => h)
end
end Ev

set_option Elab.async false
set_option linter.all false
set_option maxRecDepth 100000
set_option maxHeartbeats 2000000
/-! EvH: exceptions whose own context is told, through lambdas too. Own work. -/
namespace Ev
open PySem PySem.Spec PyProof.Rows L2
/-! ### weaker wishes -/
theorem skyImp {B : Heap} {l : List Env} {a : Addr} {Z Z' : Obj → Prop} {L : Addr} {h : Heap} (z : ∀ o, Z o → Z' o) (x : Sky B l a Z L h) : Sky B l a Z' L h := by
  rcases x with ⟨x1, x2, x3, oe, vs, x4, x5, x6⟩ | x | ⟨x1, x2, x3, x4⟩
  · exact .inl ⟨x1, x2, x3, oe, vs, x4, z _ x5, x6⟩
  · exact .inr (.inl (L2H.flyingZ_imp z x))
  · exact .inr (.inr ⟨x1, x2, x3, L2H.tracedZ_imp z x4⟩)
/-- who takes any takes those that tell their context -/
theorem takesN {X : Cx} {W : WX} (tk : L2.Takes X W) : L2N.Takes X W := fun u s' x => by
  obtain ⟨a, B, sI, pn, σ, H, cls, d, x1, x2, x3, x4, x5, x6⟩ := x
  exact tk u s' ⟨a, B, sI, pn, σ, H, cls, d, x1, x2, x3, x4, skyImp (fun o z => z.zc) x5, x6⟩
theorem takesN0 {X : Cx} : L2N.Takes X (fun _ _ _ _ => False) := takesN LamX.takes0
/-! ### C(e), where nothing is handled -/
theorem pmkN {X : Cx} {CX : CXT} {x : Str} {e : Expr} {ta : TA} {p pos : Pos} {C fI : Addr} {k : Nat} {fd : FuncData} {ps : List Str} {sp : Sp} (T : OexC X.K C)
    (iC : PySem.W.findIn X.K (.ref C) "__init__" = some (some (.ref fI))) (tI : PySem.W.typeIn X.K (.ref fI) = some (.type "function")) (F : FnOk X.prog X.w X.K X.mg X.base CX k fI fd ps sp) (room : Room (k + 1) X.A) (bd : Binds X.K fd ps [])
    (hx : Passes CX X (fun _ _ _ => False)) (hg : Gl X x) (hm : X.mg x = some (.ref C)) (ha : PA X [e] ta) (hdb : (x == ("__debug__" : Str)) = false) (hs : starEach [e] X.env = (false, eval e X.env) :: starEach [] X.env) :
    L2N.PMk X (.Call (.Name x p) [e] [] pos) (tMkO C sp [] ta) := fun pins s σ H Q I want => by
  obtain ⟨nm, q, N, bs, bm, sn, sub, ab, col, dd, k0, k1, k2, k3, k5, inK, okM⟩ := T.cls
  have step : ∀ (us : List Value) (s1 : Shared) (vs : List V) (H1 : Hp), Inv X pins σ H1 s1 → Vals vs us → vs.length ≤ 1000 →
      (∀ a, H1 a = none → sp (.ref a :: (vs ++ [])) (upd H1 a (exo a C none)) (fun v H2 => v = .non ∧ ∃ (d : Addr) (fs : List (Str × V)), H2 a = some (exo a C (some d)) ∧ H2 d = some (exd d fs) ∧ H1 d = none ∧ Q (.ref C) (some d) (upd (del H2 a) d (.xd fs))) (fun _ _ _ => False)) →
      wpAny (model X.prog X.w) X.A (call (.ref C) us) (L2N.MkP X pins σ Q) X.xe s1 := by
    rintro us ⟨h, gs, dr, tk, os⟩ vs H1 J rv small kept
    -- the new object's place
    obtain ⟨n, en⟩ : ∃ n, n = h.objs.size + 1 := ⟨_, rfl⟩
    have lt : h.objs.size ≤ n := by omega
    have q := kept n (J.hok.fresh lt)
    rw [List.append_nil] at q
    have grow : ∀ b o, h.get? b = some o → ((h.push (PySem.W.kdv_tup us)).push (PySem.HandSPX.excO C h.objs.size)).get? b = some o := fun b o eb => Heap.get?_push_of_some _ (Heap.get?_push_of_some _ eb)
    have there : ((h.push (PySem.W.kdv_tup us)).push (PySem.HandSPX.excO C h.objs.size)).get? n = some (PySem.HandSPX.excO C h.objs.size) := by
      rw [en]
      heap_get
    have J2 := J.laid (t' := tk) (a := n) (o := exo n C none) (h' := (h.push (PySem.W.kdv_tup us)).push (PySem.HandSPX.excO C h.objs.size)) grow lt (exo_ok there)
    have rv2 : Vals (V.ref n :: vs) (Value.ref n :: us) := .cons rfl rv
    have len : (Value.ref n :: us).length = ps.length := by rw [← rv2.length, F.len _ _ _ _ q]
    have bind := bd _ (Value.ref n :: us) J2.kIn (by rw [List.append_nil]; exact len)
    rw [List.append_nil] at bind
    have few : us.length ≤ sizeLine := by
      rw [sizeLine_eq, ← Paired.length rv]
      omega
    have ran := F.run _ X.stack _ _ ⟨Value.ref n :: us, []⟩ (Value.ref n :: us) (V.ref n :: vs) _ (fun _ _ _ => False) (room.make C us []) (J2.env0.make C us []) bind rv2 q
    subst en
    refine wpAny_call (PySem.HandSPX.call_own PySem.F.excBase_ValueError (fun Y => PySem.HandSPX.refsVE_contains Y bm okM) (J.kIn _ _ inK) (PySem.W.looks_findIn J.kIn iC) (fun self => PySem.W.bind_fn J.kIn self tI) few (codeAny_mono ran fun r s2 got => ?_))
    match r, got with
    | .error u, got => exact hx pins σ _ _ u s2 J2 got
    | .ok (.ret u), got =>
      obtain ⟨h2, g2, d2, t2, o2⟩ := s2
      obtain ⟨v, H2, y1, y2, y3, y4, y5, ev, d, fs, y6, y7, y8, y9⟩ := got
      subst ev
      obtain ⟨t0, G, J3, z1, z2, z3, z4⟩ := mk_end0 (d2 := d2) (t2 := t2) J lt grow y3 y4 y1 y2 y6 y7 y8
      exact ⟨y5, _, _, _, ⟨G, g2, d2, t2, o2⟩, _, .ref C, some d, rfl, J3, z1, z2, z3, ⟨rfl, rfl, fun ws hw => by cases hw; rfl⟩, rfl, rfl, z4, rfl, y2, raises_own T.exC T.tyC, y9⟩
    | .ok .next, got => exact got.elim
    | .ok .brk, got => exact got.elim
    | .ok .cont, got => exact got.elim
  refine wpAny_Call_Name_kw (ld_glob I hg hm ?_ hdb)
  exact PySem.W.callWith_K (h₀ := X.base) I.ok.mod.kin T.kC (thn (ha.run pos pins s σ H _ I want) fun us s1 ⟨vs, H1, J, rv, small, kept⟩ => ⟨J.kIn, step us s1 vs H1 J rv small kept⟩) hs (by rfl)
end Ev

set_option Elab.async false
set_option linter.all false
set_option maxRecDepth 100000
set_option maxHeartbeats 2000000
/-! EvH2: a lambda handed to a def, exceptions told with their context. Own work. -/
namespace Ev
open PySem PySem.Spec PyProof.Rows L2 LamX
/-- the lambda's context, by that telling -/
abbrev lamN (X : Cx) (A : Around) (outer : List Env) (s : Shared) (H : Hp) (E : XK) (scope : Scope) (f c' : Addr) : Cx :=
  (lamCx X A outer s H E scope f c').wish fun e s' => wpAny (model X.prog X.w) (A.deeper (lamEnv X scope s.heap.objs.size f c')) (leaving (lamEnv X scope s.heap.objs.size f c') e) (fun _ s'' => L2N.CX X.prog X.w outer H s E e s'') (fun e' s'' => L2N.CX X.prog X.w outer H s E e' s'') s'
/-- the context of the def that calls it -/
abbrev gCx (X : Cx) (Ng : List Str) (x : Str) (sg : Scope) (g : Addr) (cdg : Value) (s : Shared) (H : Hp) : Cx := cxOf C8.CX0 X.prog X.w X.K X.mg X.base Ng x sg g cdg X.A X.stack s H C8.E0
section
variable {X : Cx} {pins : List (Addr × Obj)} {σ : L2.St} {H : Hp} {s : Shared}
theorem actN {Ng : List Str} {qg a : Str} {sg scope : Scope} {g f c' : Addr} {cdg pm ctv : Value} {params : Arguments} {body : Expr} {k i : Nat} {pn : List (Addr × Obj)} {xe : Value → Shared → Prop} {W : WX} {E : XK} {tb : TE} {p1 p2 : Pos}
    (I : Inv X pins σ H s) (L : LamS X.env.scope scope) (at_ : s.heap.get? f = some (PySem.W.kla_obj "<lambda>" (X.env.qual ++ "<lambda>") params body scope (cloFrom X.env.cells scope.names []) pm c' ctv)) (out : H f = none) (nfr : f ∉ frs X.stack)
    (bd : bindArgs (PySem.W.kla_fn "<lambda>" (X.env.qual ++ "<lambda>") params body scope (cloFrom X.env.cells scope.names []) pm (.ref c') ctv) ⟨[], []⟩ = pure [])
    (tk : L2N.Takes ((gCx X Ng qg sg g cdg s H).tr pn xe) W) (room : Room (k + 1) (X.A.deeper (envOfC qg sg s.heap.objs.size g cdg)))
    (hb : ∀ (A : Around) (outer : List Env) (s : Shared) (H : Hp), Room k (A.deeper (lamEnv X scope s.heap.objs.size f c')) → PE (lamN X A outer s H E scope f c') body tb)
    (hN : Ng[i]? = some a) (hv : Vis sg a) (hd : (a == ("__debug__" : Str)) = false) (hcd : (a == ("__classdict__" : Str)) = false) :
    PE ((gCx X Ng qg sg g cdg s H).tr pn xe) (.Call (.Name a p1) [] [] p2) fun σZ HZ Q => σZ[i]? = some (some (.ref f)) ∧ HZ c' = some (CodeO c' (X.env.qual ++ "<lambda>")) ∧ (∀ cls d H', E cls d H' → W cls d σZ H') ∧ tb σ HZ Q := by
  refine ⟨fun pz sz σz Hz Q J ⟨slot, code, fits, want⟩ => ?_⟩
  have name := (pe_var (X := (gCx X Ng qg sg g cdg s H).tr pn xe) (pos := p1) (i := i) hN hv hd hcd).run pz sz σz Hz (fun v H1 => v = .ref f ∧ H1 = Hz) J ⟨.ref f, slot, rfl, rfl⟩
  refine wpAny_Call_Name_kw (thn name fun u s1 got => ?_)
  obtain ⟨v, H1, J1, ru, hv1, hH1⟩ := got
  subst hv1 hH1
  cases (show u = Value.ref f from ru)
  have un : Un (frs X.stack) [] H H1 s.heap s1.heap := J1.base
  have at1 := un.keep f _ at_ out nfr fun z => nomatch (show f ∈ ([] : List Addr) from z)
  refine PySem.W.callWith_F0 ⟨_, _, _, _, at1⟩ ?_
  obtain ⟨⟨oc, vs, t, z1, z2, z3⟩, _, _⟩ := J1.hok c' _ code
  have ran : codeAny (model X.prog X.w) (X.A.deeper (envOfC qg sg s.heap.objs.size g cdg)) (.call (.ref f) ⟨[], []⟩) (CR (L2N.CX X.prog X.w) (envOfC qg sg s.heap.objs.size g cdg :: X.stack) X.prog X.w H1 s1 Q E) s1 := by
    refine PySem.W.kla_callFunE room.depth at1 rfl L.co L.gen rfl ⟨c', oc, vs, t, rfl, z1, z2, z3⟩ ?_
    rw [bd]
    refine wpAny_pure (wpAny_newFunctionEnv (fun y hy => (L.own y hy).2) (fun y hy => absurd hy (by simp)) (fun h2 hns sb => ⟨J1.nolimit.fresh _ sb, ?_⟩) L.kind)
    have kp : ∀ b o, s1.heap.get? b = some o → h2.get? b = some o := fun b o e => sb.extBut b o (Nat.ne_of_lt (Heap.lt_size e)) (Heap.get?_push_of_some _ e)
    have J2 := (lam_start2 (E := E) (f := f) (c' := c') (tk := s1.toks + 0) I L J1.env0 room.hd un hns kp).wish fun e s' => wpAny (model X.prog X.w) ((X.A.deeper (envOfC qg sg s.heap.objs.size g cdg)).deeper (lamEnv X scope s1.heap.objs.size f c')) (leaving (lamEnv X scope s1.heap.objs.size f c') e)
      (fun _ s'' => L2N.CX X.prog X.w (envOfC qg sg s.heap.objs.size g cdg :: X.stack) H1 s1 E e s'') (fun e' s'' => L2N.CX X.prog X.w (envOfC qg sg s.heap.objs.size g cdg :: X.stack) H1 s1 E e' s'') s'
    refine PySem.W.kla_codeExpr (wpAny_mono ((hb _ _ s1 H1 (room.deeper _)).run [] _ _ H1 Q J2 want) (fun v s' got => ?_) fun _ _ z => z)
    obtain ⟨y, H3, J3, rv, q⟩ := got
    exact ⟨y, H3, J3.os, J3.bare, J3.base, J3.hok, rv, q⟩
  refine wpAny_call (codeAny_mono ran fun r s' got => ?_)
  match r, got with
  | .error e, got => exact tk e s' (L2N.XE.of_call J1 (fun cls d H' h => fits cls d H' h) got)
  | .ok (.ret u), got => exact J1.after got
  | .ok .next, got => exact got.elim
  | .ok .brk, got => exact got.elim
  | .ok .cont, got => exact got.elim
/-- the def that calls what it got: a calls it; TT: what it makes of the lambda's reading -/
def GivesN (X : Cx) (Ng : List Str) (x : Str) (sg : Scope) (g : Addr) (cdg : Value) (bg : List Stmt) (a : Str) (q : Str) (TT : (XK → Hp → VK → Prop) → Hp → VK → Prop) : Prop :=
  ∀ (f c' : Addr) (s : Shared) (H : Hp) (Q : VK) (tl : XK → Hp → VK → Prop),
    (∀ (W : WX) (pn : List (Addr × Obj)) (xe : Value → Shared → Prop) (E : XK) (p1 p2 : Pos), L2N.Takes ((gCx X Ng x sg g cdg s H).tr pn xe) W →
      PE ((gCx X Ng x sg g cdg s H).tr pn xe) (.Call (.Name a p1) [] [] p2) fun σZ HZ Q => σZ[0]? = some (some (.ref f)) ∧ HZ c' = some (CodeO c' q) ∧ (∀ cls d H', E cls d H' → W cls d σZ H') ∧ tl E HZ Q) →
    H c' = some (CodeO c' q) → TT tl H Q → ∃ t, PSs (gCx X Ng x sg g cdg s H).nox bg t ∧ t { nx := fun _ H' => Q .non H', rt := Q } (L2.start Ng [.ref f]) H
theorem lamcallN {T : List (Addr × Str)} {TT : (XK → Hp → VK → Prop) → Hp → VK → Prop} {x a : Str} {g c P : Addr} {k : Nat} {pg : Arguments} {bg : List Stmt} {sg scope : Scope} {dV kV doc pm cdv ct oc : Value} {an od : Option Addr} {osl : Array (Option Value)} {Ng : List Str}
    {params : Arguments} {body : Expr} {t : XK → TE} {p lpos pos : Pos} (hg : Gl X x) (hm : X.mg x = some (.ref g)) (hk : PySem.W.keepIn X.K (.ref g) = true) (lk : X.K.lookup g = some ⟨oc, od, .func (PySem.W.fnOf x x pg bg sg dV kV doc pm an cdv ct), osl⟩)
    (cd : PySem.W.codeIn X.K cdv x = true) (bd : L2.Binds X.K (PySem.W.fnOf x x pg bg sg dV kV doc pm an cdv ct) [a] []) (Sg : FnScope Ng [a] sg) (h0 : Ng[0]? = some a) (hv : Vis sg a) (hG : GivesN X Ng x sg g cdv bg a (X.env.qual ++ "<lambda>") TT)
    (TB : TabB X.base X.mg c P) (hcode : X.env.code = .ref c) (mem : (P, X.env.qual ++ "<lambda>") ∈ T) (only : ∀ p ∈ T, p.1 = P → p.2 = X.env.qual ++ "<lambda>") (room : Room (k + 2) X.A) (L : LamS X.env.scope scope) (nod : defaultsOf params X.env = ([], []))
    (lb : ∀ (q : Str) (cl : List (Str × Addr)) (pm cv ctv : Value), bindArgs (PySem.W.kla_fn "<lambda>" q params body scope cl pm cv ctv) ⟨[], []⟩ = pure [])
    (hb : ∀ (A : Around) (outer : List Env) (s : Shared) (H : Hp) (E : XK) (f c' : Addr), Room k (A.deeper (lamEnv X scope s.heap.objs.size f c')) → PE (lamN X A outer s H E scope f c') body (t E))
    (hdb : (x == ("__debug__" : Str)) = false) (hd : (a == ("__debug__" : Str)) = false) (hcd : (a == ("__classdict__" : Str)) = false) : PE X (.Call (.Name x p) [.Lambda params body scope lpos] [] pos) (tLam T TT t) := by
  refine ⟨fun pins s σ H Q I ⟨tabs, want⟩ => wpAny_Call_Name_kw (ld_glob I hg hm (PySem.W.callWith_K (h₀ := X.base) I.ok.mod.kin hk ?_ (by rfl) (by rfl)) hdb)⟩
  show wpAny _ _ (spliced ((false, eval (.Lambda params body scope lpos) X.env) :: backTo pos (starEach [] X.env))) _ _ s
  refine Calls.spliced_cons (lam_make2 I TB hcode mem only tabs nod (L.has I.ok) fun f c' pm' ctv H1 s1 J ext tabs1 at_ out nfr code => Calls.spliced_nil ⟨J.kIn, ?_⟩)
  have ran : codeAny (model X.prog X.w) X.A (.call (.ref g) ⟨[.ref f], []⟩) (CR C8.CX0 X.stack X.prog X.w H1 s1 Q C8.E0) s1 := by
    refine run_ofS (N := Ng) (ps := [a]) (us := [.ref f]) (vs := [.ref f]) lk cd Sg room J.env0 (bd s1 [.ref f] J.kIn rfl) (.cons rfl .nil) rfl fun room2 => ?_
    obtain ⟨tg, z1, z2⟩ := hG f c' s1 H1 Q (fun E H' Q' => t E σ H' Q') (fun W pn xe E p1 p2 tk => actN (i := 0) J L at_ out nfr (lb _ _ _ _ _) tk room2 (fun A outer s H r => hb A outer s H E f c' r) h0 hv hd hcd) code (want H1 ext tabs1)
    exact ⟨tg, z1.nox, z2⟩
  refine wpAny_call (codeAny_mono ran fun r s2 got => ?_)
  match r, got with
  | .error e, got => exact (show False from got).elim
  | .ok (.ret u), got => exact J.after got
  | .ok .next, got => exact False.elim got
  | .ok .brk, got => exact False.elim got
  | .ok .cont, got => exact False.elim got
end
end Ev

set_option Elab.async false
set_option linter.all false
set_option maxRecDepth 100000
set_option maxHeartbeats 2000000
/-! EvH3: walks that end, tuples unpacked, while an exception is handled. Own work. -/
namespace Ev
open PySem PySem.Spec PyProof.Rows L2 HotX
section
variable {prog : Program} {w : World} {A : Around} {E : Value → Shared → Prop} {s : Shared}
/-- another object's fields may change beside the handled exception -/
theorem HotAt.beside {x1 it : Addr} {h : Heap} {f : Obj → Obj} (hot : HotAt A x1 h) {o : Obj} {a b : Value} (ho : h.get? it = some o) (hd : o.data = .fields #[a, b]) : x1 ≠ it ∧ HotAt A x1 (h.update it f) := by
  obtain ⟨hh, o1, vs1, h1, d1, c1⟩ := hot
  have ne : x1 ≠ it := fun z => by
    subst z
    rw [ho] at h1
    cases h1
    rw [hd] at d1
    cases d1
    cases c1
  exact ⟨ne, hh, o1, vs1, by rw [Heap.get?_update_other _ _ (Ne.symm ne)]; exact h1, d1, c1⟩
/-- a StopIteration made and met -/
theorem stopHot {α : Type} {x1 : Addr} {Q : α → Shared → Prop} (hot : HotAt A x1 s.heap) (hE : ∀ (a : Addr) (h' : Heap) (o : Obj), (∀ b u, s.heap.get? b = some u → h'.get? b = some u) → h'.get? a = some o → o.cls = .type "StopIteration" → E (.ref a) { s with heap := h' }) :
    wpAny (model prog w) A (newExc (.type "StopIteration") [] >>= fun e => (raiseNew e : PySem.Sem α)) Q E s := by
  obtain ⟨hh, o1, vs1, h1, d1, c1⟩ := hot
  refine wpAny_bind ?_
  simp only [newExc, newTuple]
  refine wpAny_bind (wpAny_newObj_type ?_ (by size_fits))
  refine wpAny_bind (m := firstArgMember _ _) (wpAny_of_eq (a := Value.none) (by first | rfl | (simp only [firstArgMember]; rfl)) ?_)
  refine wpAny_newObj_type ?_ (by size_fits)
  have k1 := Heap.get?_push_of_some ({ cls := .type "tuple", data := .seq #[] } : Obj) h1
  refine raiseNew_hot ⟨hh, o1, vs1, Heap.get?_push_of_some _ (Heap.get?_push_of_some _ h1), d1, c1⟩ (Nat.ne_of_lt (Heap.lt_size (Heap.get?_push_of_some _ h1))) (Heap.get?_push_size _ rfl) rfl (by first | (simp; done) | (simp; omega)) ?_
  refine hE _ _ _ (fun b u eb => ?_) (Heap.get?_update_self _ (Heap.get?_push_size _ rfl) rfl) rfl
  have lt := Heap.lt_size (Heap.get?_push_of_some ({ cls := .type "tuple", data := .seq #[] } : Obj) eb)
  rw [Heap.get?_update_other _ _ (Nat.ne_of_gt (Heap.lt_size (Heap.get?_push_of_some _ eb)))]
  exact Heap.get?_push_of_some _ (Heap.get?_push_of_some _ eb)
theorem listEndHot {it l x1 : Addr} {i : Nat} {items : Array Value} {Q : Option Value → Shared → Prop} (hot : HotAt A x1 s.heap) (walk : s.heap.IsListIter it l i) (lst : s.heap.IsList l items) (over : items[i]? = none)
    (q : ∀ h', (∀ b o, b ≠ it → s.heap.get? b = some o → h'.get? b = some o) → Q none { s with heap := h' }) : wpAny (model prog w) A (pyNext (.ref it)) Q E s := by
  obtain ⟨o, ho, hc, hd⟩ := id walk
  obtain ⟨ol, hol, _, nl, hdl⟩ := lst
  unfold pyNext
  refine wpAny_bind (wpAny_attempt (wpAny_callSpecial?_slot (name := Str.ofString "__next__") walk.typeIs slot_listiter_next (wpAny_call_entry slot_listiter_next walk.typeIs entry_listiter_next ?_ (args_listiter_next _))))
  change wpAny _ _ (field (Value.ref it) 0 >>= _) _ _ s
  refine wpAny_bind (wpAny_field ho hd (x := .ref l) rfl ?_)
  change wpAny _ _ (if (Value.ref l == Value.none) = true then _ else field (Value.ref it) 1 >>= _) _ _ s
  rw [if_neg (show ¬ ((Value.ref l == Value.none) = true) from fun z => Bool.false_ne_true z)]
  refine wpAny_bind (wpAny_field ho hd (x := .int i 0) rfl ?_)
  change wpAny _ _ (seqItems? (Value.ref l) >>= _) _ _ s
  refine wpAny_bind (wpAny_seqItems hol hdl ?_)
  simp only [Int.toNat_natCast, over]
  refine wpAny_bind (wpAny_rule (wpAny_bind (wpAny_setField ho hd (by simp) ?_)))
  obtain ⟨ne, hot2⟩ := HotAt.beside (f := Obj.mapFields (·.setIfInBounds 0 .none)) hot ho hd
  refine stopHot (s := { s with heap := s.heap.update it (Obj.mapFields (·.setIfInBounds 0 .none)) }) hot2 fun a h' oa kp ha hca => ?_
  refine wpAny_bind (wpAny_isInstance (T := "StopIteration") (b := true) ⟨_, ha, hca⟩ isSubtype_stop ?_)
  exact wpAny_pure (q h' fun b u hb eb => kp b u (by rw [Heap.get?_update_other _ _ (Ne.symm hb)]; exact eb))
theorem tupEndHot {it l x1 : Addr} {i : Nat} {items : Array Value} {Q : Option Value → Shared → Prop} (hot : HotAt A x1 s.heap) (walk : IsTupIter s.heap it l i) (lst : IsTup s.heap l items) (over : items[i]? = none)
    (q : ∀ h', (∀ b o, b ≠ it → s.heap.get? b = some o → h'.get? b = some o) → Q none { s with heap := h' }) : wpAny (model prog w) A (pyNext (.ref it)) Q E s := by
  obtain ⟨o, ho, hc, hd⟩ := id walk
  obtain ⟨ol, hol, _, nl, hdl⟩ := lst
  unfold pyNext
  refine wpAny_bind (wpAny_attempt (wpAny_callSpecial?_slot (name := Str.ofString "__next__") walk.typeIs slot_tupleiter_next (wpAny_call_entry slot_tupleiter_next walk.typeIs entry_tupleiter_next ?_ (args_tupleiter_next _))))
  change wpAny _ _ (field (Value.ref it) 0 >>= _) _ _ s
  refine wpAny_bind (wpAny_field ho hd (x := .ref l) rfl ?_)
  change wpAny _ _ (if (Value.ref l == Value.none) = true then _ else field (Value.ref it) 1 >>= _) _ _ s
  rw [if_neg (show ¬ ((Value.ref l == Value.none) = true) from fun z => Bool.false_ne_true z)]
  refine wpAny_bind (wpAny_field ho hd (x := .int i 0) rfl ?_)
  change wpAny _ _ (seqItems? (Value.ref l) >>= _) _ _ s
  refine wpAny_bind (wpAny_seqItems hol hdl ?_)
  simp only [Int.toNat_natCast, over]
  refine wpAny_bind (wpAny_rule (wpAny_bind (wpAny_setField ho hd (by simp) ?_)))
  obtain ⟨ne, hot2⟩ := HotAt.beside (f := Obj.mapFields (·.setIfInBounds 0 .none)) hot ho hd
  refine stopHot (s := { s with heap := s.heap.update it (Obj.mapFields (·.setIfInBounds 0 .none)) }) hot2 fun a h' oa kp ha hca => ?_
  refine wpAny_bind (wpAny_isInstance (T := "StopIteration") (b := true) ⟨_, ha, hca⟩ isSubtype_stop ?_)
  exact wpAny_pure (q h' fun b u hb eb => kp b u (by rw [Heap.get?_update_other _ _ (Ne.symm hb)]; exact eb))
/-- t1, t2 .. = a tuple -/
theorem unpackHot {x1 t : Addr} {items : Array Value} {env : Env} {elts : List Expr} {k : Nat} {pos : Pos} {Q : Unit → Shared → Prop} (hot : HotAt A x1 s.heap) (tup : IsTup s.heap t items) (hn : (assignEach elts env).length = items.size) (hst : (assignEach elts env).findIdx? (·.1) = none)
    (q : ∀ h', (∀ b o, s.heap.get? b = some o → h'.get? b = some o) → wpAny (model prog w) A (assignInOrder ((assignEach elts env).map (·.2)) items.toList) Q E { s with heap := h' }) : wpAny (model prog w) A (assign (.Tuple elts k pos) env (.ref t)) Q E s := by
  have lt : t ≠ s.heap.objs.size := by
    obtain ⟨o, ho, _⟩ := tup
    exact Nat.ne_of_lt (Heap.lt_size ho)
  rw [assign_Tuple]
  refine wpAny_bind (wpAny_standAt ?_)
  unfold unpack
  rw [hn, hst]
  refine wpAny_bind (wpAny_holding ?_)
  unfold unpackItems notIterableAtAll
  refine wpAny_bind (wpAny_bind (wpAny_specialOf tup.typeIs slot_tuple_iter.lookup (wpAny_pure ?_)))
  simp only [Bool.false_eq_true, if_false]
  refine wpAny_bind (wpAny_holding (iter_tuple tup (wpAny_bind (wpAny_holding (draw_tuple lt items.size 0 _ _ ⟨_, Heap.get?_push_size _ rfl, rfl, rfl⟩ (tup.push _) (by omega) fun h1 walk same => ?_)))))
  have all : List.take items.size (List.drop 0 items.toList) = items.toList := by
    rw [List.drop_zero]
    exact List.take_of_length_le (by simp)
  rw [all, if_neg (by simp)]
  have tup1 : IsTup h1 t items := (tup.push _).extBut same.extBut lt
  have keep : ∀ b o, s.heap.get? b = some o → h1.get? b = some o := fun b o e => same.extBut b o (Nat.ne_of_lt (Heap.lt_size e)) (Heap.get?_push_of_some _ e)
  obtain ⟨hh, o1, vs1, e1, e2, e3⟩ := hot
  refine wpAny_bind (wpAny_holding (tupEndHot (x1 := x1) ⟨hh, o1, vs1, keep _ _ e1, e2, e3⟩ walk tup1 (by simp) fun h2 k2 => ?_))
  simp only [Option.isSome_none, Bool.false_eq_true, if_false]
  exact wpAny_pure (q h2 fun b o e => k2 b o (Nat.ne_of_lt (Heap.lt_size e)) (keep b o e))
end
end Ev

set_option Elab.async false
set_option linter.all false
set_option maxRecDepth 100000
set_option maxHeartbeats 4000000
/-! EvH4: [name for name, is_one in found if is_one], while an exception is handled. Own work. -/
namespace Ev
open PySem PySem.Spec PyProof.Rows L2 HotX L2H
section
variable {X : Cx} {pins : List (Addr × Obj)} {σ : L2.St} {H : Hp} {s : Shared}
theorem wipe_get : ∀ (σ : L2.St) (vs : List Nat) (j : Nat), (L2.wipe σ vs)[j]? = if j ∈ vs then (if j < σ.length then some none else none) else σ[j]?
  | σ, [], j => by simp [L2.wipe]
  | σ, v :: vs, j => by
    have ih := wipe_get σ vs j
    show ((L2.wipe σ vs).set v none)[j]? = _
    by_cases h : v = j
    · subst h
      simp only [List.mem_cons, true_or, if_true]
      by_cases hl : v < σ.length
      · rw [List.getElem?_set_self (by rw [wipe_length]; exact hl), if_pos hl]
      · rw [List.getElem?_eq_none (by simp [wipe_length]; omega), if_neg hl]
    · rw [List.getElem?_set_ne h, ih]
      simp [Ne.symm h]
/-- a tuple unpacked -/
theorem pgTupHot {es : List Expr} {k n : Nat} {pos : Pos} {t : TGs} (hot : HotC X) (h : PGs X es t) (hn : (assignEach es X.env).length = n) (hst : (assignEach es X.env).findIdx? (·.1) = none) : PG X (.Tuple es k pos) (gTup X.K n t) := by
  refine ⟨fun pins s σ H v u Q I r want => ?_⟩
  obtain ⟨a, xs, rfl, tup, len, want⟩ := want
  cases r
  obtain ⟨its, rv, at_, _⟩ := I.tuple tup
  obtain ⟨x1, h1⟩ := hot.at I
  have size : (assignEach es X.env).length = its.toArray.size := by rw [hn, ← len, rv.length, List.size_toArray]
  refine unpackHot h1 at_ size hst fun h' kp => ?_
  exact h.run pins _ σ H xs _ Q (I.kept (t' := s.toks) kp) (by simpa using rv) want
/-- the comprehension's context: the handled exception stays pinned -/
abbrev hotB (X : Cx) (pe : Addr × Obj) (s : Shared) (H : Hp) (scope : Scope) (ce : Env) (it : Addr) : Cx := { X.blk s H scope ce [it] with pn := [pe] }
theorem toB {pe : Addr × Obj} {s0 : Shared} {H0 : Hp} {scope : Scope} {ce : Env} {it : Addr} (I : Inv (X.blk s0 H0 scope ce [it]) [] σ H s) (p : s.heap.get? pe.1 = some pe.2 ∧ H pe.1 = none ∧ pe.1 ≠ ce.locals ∧ pe.1 ∉ (X.blk s0 H0 scope ce [it]).fs ∧ ∀ v, pe.2.data ≠ .cell v) :
    Inv (hotB X pe s0 H0 scope ce it) [] σ H s where
  ok := { mod := I.ok.mod, kind := I.ok.kind, glob := I.ok.glob, blt := I.ok.blt, above := I.ok.above, inj := I.ok.inj, has := I.ok.has, cab := I.ok.cab, hd := I.ok.hd, frames := I.ok.frames, stk := I.ok.stk, exf := I.ok.exf, bs := I.ok.bs, bsz := I.ok.bsz, noex := I.ok.noex, exfs := I.ok.exfs, funs := I.ok.funs, frf := I.ok.frf }
  os := I.os
  bare := I.bare
  base := I.base
  loc := I.loc
  cell := I.cell
  free := I.free
  freeC := I.freeC
  pin := fun q hq => by
    have e : q = pe := by simpa using hq
    subst e
    exact p
  hok := I.hok
  len := I.len
def WordsAt (H : Hp) (xs : List V) (ws : List (Str × Bool)) : Prop := ∀ (i : Nat) (x : V), xs[i]? = some x → ∃ (w : Str × Bool) (t : Addr), ws[i]? = some w ∧ x = V.ref t ∧ H t = some (.tup [V.str w.1, V.bl w.2])
def tWords (te : TE) : TE := fun σ H Q => te σ H fun v H1 => ∃ a xs ws, v = .ref a ∧ H1 a = some (.lst xs) ∧ xs.length = ws.length ∧ ws.length < 1000 ∧ WordsAt H1 xs ws ∧ ∀ D, H1 D = none → Q (.ref D) (upd H1 D (.lst ((ws.filter (·.2)).map fun w => .str w.1)))
theorem filter_take {ws : List (Str × Bool)} {i : Nat} {w : Str × Bool} (h : ws[i]? = some w) : (ws.take (i + 1)).filter (·.2) = (ws.take i).filter (·.2) ++ (if w.2 = true then [w] else []) := by
  have hl : i < ws.length := (List.getElem?_eq_some_iff.mp h).1
  have e : ws.take (i + 1) = ws.take i ++ [w] := by
    rw [List.take_add_one, h]
    rfl
  rw [e, List.filter_append]
  congr 1
  cases hw : w.2 <;> simp [hw]
theorem wordsHot {pe : Addr × Obj} {iter : Expr} {te : TE} {nm io : Str} {jn jo k : Nat} {scope : Scope} {p1 p2 p3 p4 p5 pos : Pos} (hot : Hot1 X.A pe) (hpe : pe ∈ X.pn) (hN : X.N.Nodup) (hi : PE X iter te) (ok : BlkOk X.N X.env.scope scope [(nm, jn), (io, jo)])
    (n1 : X.N[jn]? = some nm) (n2 : X.N[jo]? = some io) (ne : jn ≠ jo) (l1 : scope.names.lookup nm = some .local) (l2 : scope.names.lookup io = some .local) (d1 : okN nm = true) (d2 : okN io = true) (hs : ∀ x, foldedSetIterable iter X.env x = pure x) :
    PE X (.ListComp (.Name nm p1) [⟨.Tuple [.Name nm p2, .Name io p3] k p4, iter, [.Name io p5], 0⟩] scope pos) (tWords te) := by
  refine ⟨fun pins s σ H Q I want => ?_⟩
  rw [eval_ListComp]
  simp only [okN, Bool.and_eq_true, Bool.not_eq_true'] at d1 d2
  have free : ∀ y ∈ scope.names, y.2 = .free → ∃ c, X.env.cells.lookup y.1 = some c := fun y hy e => (ok.free y hy e).elim (fun z => I.ok.has _ (.inl z)) fun z => I.ok.has _ (.inr z)
  refine wpAny_comprehension_free (use := none) rfl hs (closure_ok free) ok.kind (fun y hy e => by rw [ok.uniq y hy, e]) (thn (hi.run pins s σ H _ I want) fun v s1 got => ?_)
  obtain ⟨x, H1, I1, r1, a, xs, ws, rfl, ha, len, few, wat, q⟩ := got
  cases r1
  obtain ⟨its, rv, pl, _⟩ := I1.list (SqL.of ha)
  refine wpAny_pyIter_list pl.isList ?_
  -- the iterator, then the new list
  obtain ⟨it, eit⟩ : ∃ it, it = s1.heap.objs.size := ⟨_, rfl⟩
  rw [← eit]
  have fresh1 : H1 it = none := I1.hok.fresh (Nat.le_of_eq eit.symm)
  have fp1 : FpOk X pins H1 it := I1.fpOk (Nat.le_of_eq eit.symm) fresh1
  generalize es2 : ({ s1 with heap := s1.heap.push { cls := Value.type "list_iterator", data := Data.fields #[Value.ref a, Value.int 0 0] } } : Shared) = s2
  have I2 : Inv X pins σ H1 s2 := by
    rw [← es2]
    exact I1.kept (t' := s1.toks) fun b o e => Heap.get?_push_of_some _ e
  have walk2 : s2.heap.IsListIter it a 0 := by
    rw [← es2, eit]
    exact ⟨_, Heap.get?_push_size _ rfl, rfl, rfl⟩
  have lt2 : it < s2.heap.objs.size := by
    rw [← es2, eit]
    simp [Heap.size_push]
  refine wpAny_newObj_type (newEnv_comp ?_) (by show 0 ≤ sizeLine; decide)
  obtain ⟨D, eD⟩ : ∃ D, D = s2.heap.objs.size := ⟨_, rfl⟩
  rw [← eD]
  have freshD : H1 D = none := I2.hok.fresh (Nat.le_of_eq eD.symm)
  have itD : it ≠ D := by omega
  generalize es3 : ({ s2 with heap := s2.heap.push { cls := .type "list", data := .seq ([] : List Value).toArray } } : Shared) = s3
  have I3 : Inv X pins σ (upd H1 D (.lst [])) s3 := by
    rw [← es3]
    refine I2.laid (t' := s2.toks) (fun b o e => Heap.get?_push_of_some _ e) (Nat.le_of_eq eD.symm) ⟨Nat.zero_le _, [], 0, .nil, ?_⟩
    rw [eD]
    exact Heap.get?_push_size _ rfl
  have walk3 : s3.heap.IsListIter it a 0 := by
    rw [← es3]
    exact walk2.at fun o e => Heap.get?_push_of_some _ e
  have lt3 : it < s3.heap.objs.size := by
    rw [← es3]
    simp only [Heap.size_push]
    omega
  have fp3 : FpOk X pins (upd H1 D (.lst [])) it := ⟨by rw [upd_ne itD]; exact fresh1, fp1.2⟩
  have I4 := block_start (fp := [it]) I3 ok hN fun b hb => by
    have e : b = it := by simpa using hb
    rw [e]
    exact ⟨fp3, lt3⟩
  obtain ⟨y1, y2, y3, y4, y5⟩ := I3.pin pe (List.mem_append_left _ hpe)
  have peit : pe.1 ≠ it := fp1.2.2.2.2.2 pe (List.mem_append_left _ hpe)
  have pelt : pe.1 < s3.heap.objs.size := Heap.lt_size y1
  have nst : pe.1 ∉ frs X.stack := fun hm => (List.mem_cons.mp (I3.stkSub _ hm)).elim y3 y4
  change codeAny _ _ (.compStart (.ListComp (.Name nm p1) [⟨.Tuple [.Name nm p2, .Name io p3] k p4, iter, [.Name io p5], 0⟩] scope pos) 0 (.ref it) (.ref D) (compEnvC scope (cellsFrom (s3.heap.objs.size + 1) scope.names (cloFrom X.env.cells scope.names [])) s3.heap.objs.size X.env))
    (compPost (model X.prog X.w) X.A X.xe none (EP X pins σ Q) (.ref D) s3.heap.objs.size) { s3 with heap := pushCells (s3.heap.push { cls := .type "dict", data := .dict #[] }) scope.names }
  generalize hce : compEnvC scope (cellsFrom (s3.heap.objs.size + 1) scope.names (cloFrom X.env.cells scope.names [])) s3.heap.objs.size X.env = ce at I4 ⊢
  have cL : ce.locals = s3.heap.objs.size := by subst hce; rfl
  have cS : ce.scope = relS scope X.env.scope := by subst hce; rfl
  have kp4 : ∀ b o, s3.heap.get? b = some o → (pushCells (s3.heap.push { cls := .type "dict", data := .dict #[] }) scope.names).get? b = some o := fun b o e => pushCells_keeps _ _ _ _ (Heap.get?_push_of_some _ e)
  have walk4 : ({ s3 with heap := pushCells (s3.heap.push { cls := .type "dict", data := .dict #[] }) scope.names } : Shared).heap.IsListIter it a 0 := walk3.at fun o e => kp4 _ _ e
  have I5 : Inv (hotB X pe s3 (upd H1 D (.lst [])) scope ce it) [] (wipe σ [jn, jo]) (upd H1 D (.lst [])) _ := toB I4 ⟨kp4 _ _ y1, y2, by rw [cL]; exact Nat.ne_of_lt pelt, nst, y5⟩
  generalize ({ s3 with heap := pushCells (s3.heap.push { cls := .type "dict", data := .dict #[] }) scope.names } : Shared) = s4 at I5 walk4 ⊢
  have hotC : HotC (hotB X pe s3 (upd H1 D (.lst [])) scope ce it) := ⟨pe, hot, by simp⟩
  have aD : a ≠ D := fun z => by
    rw [z, freshD] at ha
    cases ha
  have fpB : ∀ {σ' : L2.St} {H' : Hp} {s' : Shared}, Inv (hotB X pe s3 (upd H1 D (.lst [])) scope ce it) [] σ' H' s' → H' it = none → FpOk (hotB X pe s3 (upd H1 D (.lst [])) scope ce it) [] H' it := fun {σ' H' s'} J hn =>
    ⟨hn, (J.ok.exf it (by simp)).1, J.ok.exfs it (by simp), .inl (by simp), (J.ok.exf it (by simp)).2, fun p hp => by
      have e : p = pe := by simpa using hp
      rw [e]
      exact peit⟩
  have lcl : ∀ {y : Str}, scope.names.lookup y = some .local → Loc (hotB X pe s3 (upd H1 D (.lst [])) scope ce it).env.scope y ∧ (hotB X pe s3 (upd H1 D (.lst [])) scope ce it).env.scope.names.lookup y = some .local := fun {y} e => by
    have q := lookup_relS_keep (sc := X.env.scope) (by decide) e
    have q' : ce.scope.names.lookup y = some .local := by rw [cS]; exact q
    exact ⟨.inl q', q'⟩
  have pg := pgTupHot (X := hotB X pe s3 (upd H1 D (.lst [])) scope ce it) (k := k) (pos := p4) (n := 2) hotC (pgs_cons (pg_name (pos := p2) (i := jn) hN n1 (lcl l1).1 (.inr (lcl l1).2)) (pgs_cons (pg_name (pos := p3) (i := jo) hN n2 (lcl l2).1 (.inr (lcl l2).2)) pgs_nil)) rfl rfl
  have pt := pts_one (pt_val (pe_var (X := hotB X pe s3 (upd H1 D (.lst [])) scope ce it) (pos := p5) (i := jo) n2 (.inl (lcl l2).2) d2.1.1 d2.1.2))
  have pl := pe_var (X := hotB X pe s3 (upd H1 D (.lst [])) scope ce it) (pos := p1) (i := jn) n1 (.inl (lcl l1).2) d1.1.1 d1.1.2
  have lenσ : σ.length = X.N.length := I1.len
  have jnl : jn < σ.length := by rw [lenσ]; exact (List.getElem?_eq_some_iff.mp n1).1
  have jol : jo < σ.length := by rw [lenσ]; exact (List.getElem?_eq_some_iff.mp n2).1
  have loop : codeAny (model X.prog X.w) X.A (.compLoop (.ListComp (.Name nm p1) [⟨.Tuple [.Name nm p2, .Name io p3] k p4, iter, [.Name io p5], 0⟩] scope pos) 0 (.ref it) (.ref D) ce) (compPost (model X.prog X.w) X.A X.xe none (EP X pins σ Q) (.ref D) s3.heap.objs.size) s4 := by
    refine compLoop_any (fun n s' => ∃ i, n = ws.length - i ∧ i ≤ ws.length ∧ Inv (hotB X pe s3 (upd H1 D (.lst [])) scope ce it) [] (wipe σ [jn, jo]) (upd H1 D (.lst (((ws.take i).filter (·.2)).map fun w => .str w.1))) s' ∧ s'.heap.IsListIter it a i) ?_ ws.length ⟨0, by simp, Nat.zero_le _, I5, walk4⟩
    rintro n s5 ⟨i, hn, hi, J5, walk5⟩
    have ha5 : (upd H1 D (.lst (((ws.take i).filter (·.2)).map fun w => V.str w.1))) a = some (.lst xs) := by
      rw [upd_ne aD]
      exact ha
    have it5 : (upd H1 D (.lst (((ws.take i).filter (·.2)).map fun w => V.str w.1))) it = none := by
      rw [upd_ne itD]
      exact fresh1
    obtain ⟨f0, f1, f2, f3, f4, f5⟩ := fpB J5 it5
    obtain ⟨its5, rv5, pl5, _⟩ := J5.list (SqL.of ha5)
    by_cases hend : i = ws.length
    · subst hend
      obtain ⟨x1, h1⟩ := hotC.at J5
      refine listEndHot h1 walk5 pl5.isList (by
        have e := rv5.length
        simp
        omega) fun h' kp => ?_
      have J6 := J5.turned (t' := s5.toks) kp f0 f1 f3 f4 f5
      have J7 := I3.call' (ch := [it]) J6.os J6.base J6.hok J6.bare fun b hb => by
        have e : b = it := by simpa using hb
        rw [e]
        exact ⟨fp3.2.2.2.1, fp3.2.1, fp3.2.2.2.2.1, fp3.2.2.2.2.2⟩
      obtain ⟨m, ns, _⟩ := J6.loc
      have ns' : h'.Ns ce.locals m := ns
      rw [cL] at ns'
      have nC : (upd H1 D (.lst (((ws.take ws.length).filter (·.2)).map fun w => V.str w.1))) s3.heap.objs.size = none := by
        have z := J6.free
        have z' : (upd H1 D (.lst (((ws.take ws.length).filter (·.2)).map fun w => V.str w.1))) ce.locals = none := z
        rw [cL] at z'
        exact z'
      obtain ⟨g0, g1, g2, g3, g4, g5⟩ := I3.fpOk (Nat.le_refl _) nC
      refine ⟨m, ns', fun h'' sb => ⟨.ref D, _, J7.turned (t' := s5.toks) (fun b o hb e => (sb.2 b hb).trans e) g0 g1 g3 g4 g5, rfl, ?_⟩⟩
      rw [List.take_length]
      exact q D freshD
    · have hlt : i < ws.length := by omega
      obtain ⟨x, hx⟩ : ∃ x, xs[i]? = some x := ⟨xs[i]'(by omega), List.getElem?_eq_getElem (by omega)⟩
      obtain ⟨w, t, hw, ex, ht⟩ := wat i x hx
      obtain ⟨u, hu, ru⟩ := rv5.get hx
      refine wpAny_pyNext_list_item walk5 pl5.isList (x := u) (by simpa using hu) fun h6 walk6 sb => ?_
      have J6 := J5.turned (t' := s5.toks) (fun b o hb e => (sb.2 b hb).trans e) f0 f1 f3 f4 f5
      obtain ⟨o6, e6, c6, d6⟩ := id walk6
      refine go_of (s := { s5 with heap := h6 }) e6 c6 d6 (by decide) ?_
      have J6' := J6.pinned (fp := [it]) (fun b hb => by
        have e : b = it := by simpa using hb
        rw [e]
        exact ⟨f0, f1, f2, f3, f4, f5⟩) fun b hb => by
        have e : b = it := by simpa using hb
        rw [e]
        exact ⟨o6, e6, fun v z => by rw [d6] at z; cases z⟩
      have tD : t ≠ D := fun z => by
        rw [z, freshD] at ht
        cases ht
      have ht6 : (upd H1 D (.lst (((ws.take i).filter (·.2)).map fun w => V.str w.1))) t = some (.tup [V.str w.1, V.bl w.2]) := by
        rw [upd_ne tD]
        exact ht
      refine thnF (pg.run _ _ _ _ x u (fun σ8 H8 => σ8 = ((wipe σ [jn, jo]).set jn (some (V.str w.1))).set jo (some (V.bl w.2)) ∧ H8 = upd H1 D (.lst (((ws.take i).filter (·.2)).map fun w => V.str w.1))) J6' ru ⟨t, _, ex, SqT.of ht6, rfl, _, _, rfl, _, _, rfl, rfl, rfl, rfl⟩) fun _ s8 ⟨σ8, H8, J8, e8, eH8⟩ => ?_
      subst eH8
      have l8 : (wipe σ [jn, jo]).length = σ8.length := by rw [e8]; simp
      have at8 : σ8[jo]? = some (some (V.bl w.2)) := by
        rw [e8, List.getElem?_set_self (by simp [wipe_length]; exact jol)]
      have an8 : σ8[jn]? = some (some (V.str w.1)) := by
        rw [e8, List.getElem?_set_ne (Ne.symm ne), List.getElem?_set_self (by rw [wipe_length]; exact jnl)]
      refine thnF (pt.run _ s8 σ8 _ (fun c H9 => c = w.2 ∧ H9 = upd H1 D (.lst (((ws.take i).filter (·.2)).map fun w => V.str w.1))) J8 ⟨_, at8, w.2, rfl, rfl, rfl⟩) fun c s9 ⟨H9, J9, ec, eH9⟩ => ?_
      subst ec eH9
      have back : ∀ {s' : Shared} {H' : Hp}, Inv (hotB X pe s3 (upd H1 D (.lst [])) scope ce it) ([] ++ pinsAt [it] h6) σ8 H' s' → H' = upd H1 D (.lst (((ws.take (i + 1)).filter (·.2)).map fun w => V.str w.1)) →
          ∃ m, m < n ∧ ∃ i, m = ws.length - i ∧ i ≤ ws.length ∧ Inv (hotB X pe s3 (upd H1 D (.lst [])) scope ce it) [] (wipe σ [jn, jo]) (upd H1 D (.lst (((ws.take i).filter (·.2)).map fun w => V.str w.1))) s' ∧ s'.heap.IsListIter it a i := fun {s' H'} J e => by
        subst e
        refine ⟨ws.length - (i + 1), by omega, i + 1, rfl, by omega, (J.unpinned (pins := [])).weak l8 fun j v ej => ?_, ?_⟩
        · rw [wipe_get] at ej
          split at ej
          · split at ej <;> cases ej
          · rename_i hj
            simp only [List.mem_cons, List.not_mem_nil, or_false, not_or] at hj
            rw [e8, List.getElem?_set_ne (Ne.symm hj.2), List.getElem?_set_ne (Ne.symm hj.1), wipe_get, if_neg (by simp [hj.1, hj.2])]
            exact ej
        · exact walk6.at fun o e => (J.pin (it, o) (List.mem_append_right _ (List.mem_append_right _ (mem_pinsAt (by simp) e)))).1
      have ft := filter_take hw
      cases hc : w.2 with
      | false =>
        simp only [Bool.false_eq_true, if_false]
        refine back J9 ?_
        rw [ft, hc]
        simp
      | true =>
        simp only [if_true]
        refine thnF (pl.run _ s9 σ8 _ (fun v H10 => v = .str w.1 ∧ H10 = upd H1 D (.lst (((ws.take i).filter (·.2)).map fun w => V.str w.1))) J9 ⟨_, an8, rfl, rfl⟩) fun z s10 ⟨v10, H10, J10, r10, ev, eH⟩ => ?_
        subst ev eH
        have few2 : (((ws.take i).filter (·.2)).map fun w => V.str w.1).length < sizeLine := by
          rw [List.length_map, sizeLine_eq]
          have e1 := List.length_filter_le (·.2) (ws.take i)
          have e2 := List.length_take_le i ws
          omega
        refine app_ok (X := hotB X pe s3 (upd H1 D (.lst [])) scope ce it) J10 upd_same few2 r10 fun s11 J11 => back J11 ?_
        rw [ft, hc, upd_upd]
        simp
  exact codeAny_compStart_list loop (wpAny_pyIter_listiter walk4 loop)
end
end Ev

set_option Elab.async false
set_option linter.all false
set_option maxRecDepth 100000
/-! EvL: targets, comprehensions, calls of own defs. Own work. -/
namespace Ev
open PySem PySem.Spec PyProof.Rows L2
variable [Tb]
open Classical
/-- how deep the calls below reach -/
def lv (n : Nat) : Nat := 8 * n + 8
def spF (K : PySem.W.Frag) (G : Gm) (n : Nat) (f : String) : Sp := fun vs H Q E => ∃ ρ μ args, Rel K ρ μ H ∧ RVs K ρ H args vs ∧
  (callN G n f args μ).sat (fun p μ' => ∀ ρ' v H', Post K ρ H ρ' μ' H' → RV K ρ' H' p v → Q v H')
    (fun c w μ' => ∀ ρ' H' d wv, Post K ρ H ρ' μ' H' → RV K ρ' H' w wv → H' d = some (.xd [(whatS, wv)]) → E (.ref (He.ga K (Str.ofString c))) (some d) H')
/-- the defs below this level keep their promises -/
def FnAt (G : Gm) (n : Nat) (C : Cx) : Prop := ∀ f d, G.fns.lookup f = some d → ∃ fa fd, C.mg (Str.ofString f) = some (.ref fa) ∧ PySem.W.keepIn C.K (.ref fa) = true ∧ (∃ oc od osl, C.K.lookup fa = some ⟨oc, od, .func fd, osl⟩) ∧
  FnOk C.prog C.w C.K C.mg C.base (L2N.CX C.prog C.w) (lv n) fa fd d.ps (spF C.K G n f) ∧ Binds C.K fd d.ps []
/-- the built-in names that the terms use -/
def bltNames : List String := ["len", "int", "max", "min", "tuple", "list", "abs", "isinstance", "bool", "str", "range", "enumerate", "zip", "sorted", "set", "ValueError"]
/-- what the making of lambdas asks of the def's code object -/
structure LamAt (C : Cx) : Prop where
  tab : ∃ c P, C.env.code = .ref c ∧ LamX.TabB C.base C.mg c P ∧ (P, C.env.qual ++ "<lambda>") ∈ Tb.T ∧ ∀ p ∈ Tb.T, p.1 = P → p.2 = C.env.qual ++ "<lambda>"
/-- found.append((name, isinstance(x, class))), one by one -/
def AppsSh (fnd x : Str) : List String → List Stmt → Prop
  | [], [] => True
  | c :: cs, st :: sts => (∃ (j k : Nat) (q1 q2 q3 q4 q5 q6 q7 q8 q9 q10 : Pos), st = .Expr (.Call (.Attribute (.Name fnd q1) "append" q2) [.Tuple [.Constant (.str (Str.ofString c)) j q3, .Call (.Name "isinstance" q4) [.Name x q5, .Name (Str.ofString c) q6] [] q7] k q8] [] q9) q10 ∧ lineB q2 q9 = true) ∧ AppsSh fnd x cs sts
  | _, _ => False
/-- what is told of the classes -/
structure ClsAt (K : PySem.W.Frag) (mg : Str → Option Value) (sg : Scope) (CS : Addr) (al cs : List String) : Prop where
  ex : ∀ c ∈ al, PySem.W.exmOne K (.ref (He.ga K (Str.ofString c))) (.ref CS) = some true
  ec : ∀ c ∈ al, ExcC K (He.ga K (Str.ofString c))
  xf : ∀ c ∈ al, XfC K (He.ga K (Str.ofString c))
  wh : ∀ c ∈ al, PySem.W.findIn K (.ref (He.ga K (Str.ofString c))) whatS = some none
  kit : ∀ c ∈ al, ∀ m ∈ cs, PySem.W.kitOne K (.ref (He.ga K (Str.ofString c))) (.ref (He.ga K (Str.ofString m))) = some (decide (c = m))
  gl : ∀ m ∈ cs, sg.names.lookup (Str.ofString m) = some .globalImplicit
  mg : ∀ m ∈ cs, mg (Str.ofString m) = some (.ref (He.ga K (Str.ofString m)))
  ok : ∀ m ∈ cs, okN (Str.ofString m) = true
  ln : ∀ m ∈ cs, (Str.ofString m).length ≤ 1000
  nd : cs.Nodup
  few : cs.length < 900
/-- the suite of the def that hears: the body of its except clause, by its kind -/
def HrdSh (K : PySem.W.Frag) (mg : Str → Option Value) (Ng : List Str) (sg : Scope) (a : Str) (bg : List Stmt) : Hrd → Prop
  | .plain al => ∃ (e : Str) (CS : Addr) (j1 j2 j3 k1 k2 : Nat) (p1 p2 p3 p4 p5 p6 p7 p8 p9 p10 p11 p12 : Pos), bg = [.Try [.Return (some (.Tuple [.Constant (.str "told") j1 p1, .Call (.Name a p2) [] [] p3] k1 p4)) p5]
      [.ExceptHandler (some (.Name e p6)) none [.Return (some (.Tuple [.Constant (.str "refused") j2 p7, .Constant .none j3 p8] k2 p9)) p10] p11] [] [] p12] ∧
      sg.names.lookup e = some .globalImplicit ∧ mg e = some (.ref CS) ∧ (e == ("__debug__" : Str)) = false ∧ ∀ c ∈ al, PySem.W.exmOne K (.ref (He.ga K (Str.ofString c))) (.ref CS) = some true
  | .named al cs => ∃ (e x fnd nm io : Str) (CS : Addr) (i jf jn jo j1 j2 k1 k2 k3 : Nat) (p1 p2 p3 p4 p5 p6 p7 p8 p9 p10 p11 p12 p13 p14 p15 p16 p17 p18 p19 p20 p21 p22 p23 p24 p25 : Pos) (apps : List Stmt) (scope : Scope),
      bg = [.Try [.Return (some (.Tuple [.Constant (.str "told") j1 p1, .Call (.Name a p2) [] [] p3] k1 p4)) p5] [.ExceptHandler (some (.Name e p6)) (some x) (.Assign [.Name fnd p7] (.List [] p8) p9 ::
        (apps ++ [.Return (some (.Tuple [.Call (.Attribute (.Constant (.str " ") j2 p10) "join" p11) [.ListComp (.Name nm p12) [⟨.Tuple [.Name nm p13, .Name io p14] k2 p15, .Name fnd p16, [.Name io p17], 0⟩] scope p18] [] p19, .Attribute (.Name x p20) "what" p21] k3 p22)) p23])) p24] [] [] p25] ∧
      AppsSh fnd x cs apps ∧ lineB p11 p19 = true ∧ sg.names.lookup e = some .globalImplicit ∧ mg e = some (.ref CS) ∧ (e == ("__debug__" : Str)) = false ∧ Ng[i]? = some x ∧ sg.names.lookup x = some .local ∧ okN x = true ∧ Ng[jf]? = some fnd ∧ sg.names.lookup fnd = some .local ∧ okN fnd = true ∧
      Ng[jn]? = some nm ∧ okN nm = true ∧ Ng[jo]? = some io ∧ okN io = true ∧ jn ≠ jo ∧ i ≠ jf ∧ blkC Ng sg scope [(nm, jn), (io, jo)] = true ∧ scope.names.lookup nm = some .local ∧ scope.names.lookup io = some .local ∧ sg.names.lookup ("isinstance" : Str) = some .globalImplicit ∧ mg ("isinstance" : Str) = none ∧ ClsAt K mg sg CS al cs
def HrdAt (G : Gm) (K : PySem.W.Frag) (mg : Str → Option Value) : Prop := ∀ g h, G.hrd.lookup g = some h → ∃ (fa : Addr) (pg : Arguments) (bg : List Stmt) (sg : Scope) (oc dV kV doc pm cdv ct : Value) (od an : Option Addr) (osl : Array (Option Value)) (a : Str) (Ng : List Str),
  mg (Str.ofString g) = some (.ref fa) ∧ PySem.W.keepIn K (.ref fa) = true ∧ K.lookup fa = some ⟨oc, od, .func (PySem.W.fnOf (Str.ofString g) (Str.ofString g) pg bg sg dV kV doc pm an cdv ct), osl⟩ ∧ PySem.W.codeIn K cdv (Str.ofString g) = true ∧
    Binds K (PySem.W.fnOf (Str.ofString g) (Str.ofString g) pg bg sg dV kV doc pm an cdv ct) [a] [] ∧ FnScope Ng [a] sg ∧ Ng[0]? = some a ∧ Vis sg a ∧ okN a = true ∧ okN (Str.ofString g) = true ∧ HrdSh K mg Ng sg a bg h
structure Good (G : Gm) (n : Nat) (N : List Str) (hd : Bool) (sc : Scope) (W : WX) (C : Cx) : Prop where
  calm : C.calm = true
  hN : C.N = N
  nd : N.Nodup
  hsc : C.env.scope = sc
  tk : L2N.Takes C W
  room : Room (lv n + (if hd = true then 7 else 3)) C.A
  lam : hd = true → LamAt C
  fn : FnAt G n C
  free : ∀ x ∈ bltNames, C.mg (Str.ofString x) = none
  con : ∀ x p, G.con.lookup x = some p → ∃ u v, C.mg (Str.ofString x) = some u ∧ RelV v u ∧ ∀ ρ H, RV C.K ρ H p v
  hrd : HrdAt G C.K C.mg
section
variable {C : Cx} {W : WX} {N : List Str} {sc : Scope} {G : Gm} {n : Nat} {hd : Bool}
theorem Good.gl (g : Good G n N hd sc W C) {x : Str} (h : glB sc x = true) : Gl C x := by
  show C.env.kindOf x = _
  unfold Env.kindOf
  rw [g.hsc]
  exact of_decide_eq_true h
theorem Good.vis (g : Good G n N hd sc W C) {x : Str} (h : visB sc x = true) : Vis C.env.scope x := by
  rw [g.hsc]
  unfold visB at h
  split at h
  · rename_i e; exact .inl e
  · rename_i e; exact .inr (.inl e)
  · rename_i e; exact .inr (.inr e)
  · cases h
/-- names of the scope st may be stored -/
def Sto (st : Scope) (C : Cx) : Prop := ∀ x, locB st x = true → Loc C.env.scope x ∧ (C.fn x = true ∨ C.env.scope.names.lookup x = some .local)
theorem Good.room3 (g : Good G n N hd sc W C) : Room (lv n + 3) C.A := g.room.mono (by split <;> omega)
theorem Good.room1 (g : Good G n N hd sc W C) : Room 1 C.A := g.room3.mono (by unfold lv; omega)
/-! ### targets -/
/-- the slots that a target does not name stay -/
def Kept (tg : Tg) (σ σ' : L2.St) : Prop := σ'.length = σ.length ∧ ∀ j, j ∉ tg.slots → σ'[j]? = σ[j]?
def gP (K : PySem.W.Frag) (tg : Tg) : TG := fun v σ H Q => ∃ ρ μ σp p σp', Rel K ρ μ H ∧ RS K ρ H σp σ ∧ RV K ρ H p v ∧ tg.put p σp = some σp' ∧ ∀ σ', RS K ρ H σp' σ' → Kept tg σ σ' → Q σ' H
def gPs (K : PySem.W.Frag) (tg : Tg) : TGs := fun vs σ H Q => ∃ ρ μ σp ps σp', Rel K ρ μ H ∧ RS K ρ H σp σ ∧ RVs K ρ H ps vs ∧ Tg.put.puts tg ps σp = some σp' ∧ ∀ σ', RS K ρ H σp' σ' → Kept tg σ σ' → Q σ' H
theorem _root_.L2.PG.imp {e : Expr} {t t' : TG} (h : PG C e t) (hi : ∀ v σ H Q, t' v σ H Q → t v σ H Q) : PG C e t' := ⟨fun pins s σ H v u Q I r q => h.run pins s σ H v u Q I r (hi v σ H Q q)⟩
theorem _root_.L2.PGs.imp {es : List Expr} {t t' : TGs} (h : PGs C es t) (hi : ∀ v σ H Q, t' v σ H Q → t v σ H Q) : PGs C es t' := ⟨fun pins s σ H v u Q I r q => h.run pins s σ H v u Q I r (hi v σ H Q q)⟩
theorem assign_len {env : Env} : ∀ {es : List Expr}, (assignEach es env).length = es.length
  | [] => rfl
  | e :: es => by
    cases e <;> simp [assignEach, assign_len (es := es)]
theorem assign_star {env : Env} {e : Expr} {es : List Expr} (h : noStar e = true) : (assignEach (e :: es) env).map (·.2) = assign e env :: (assignEach es env).map (·.2) := by
  cases e <;> first | rfl | cases h
theorem assign_nostar {env : Env} : ∀ {es : List Expr}, es.all noStar = true → (assignEach es env).findIdx? (·.1) = none
  | [], _ => rfl
  | e :: es, h => by
    simp only [List.all_cons, Bool.and_eq_true] at h
    have ih := assign_nostar (env := env) h.2
    have e1 : ∃ f, assignEach (e :: es) env = (false, f) :: assignEach es env := by
      cases e <;> first | exact ⟨_, rfl⟩ | cases h.1
    obtain ⟨f, e1⟩ := e1
    rw [e1, List.findIdx?_cons]
    simp [ih]
theorem chkTs_star : ∀ {ts : Tg} {es : List Expr}, chkTs N sc ts es = true → es.all noStar = true
  | .nil, [], _ => rfl
  | .cons t ts, e :: es, h => by
    simp only [chkTs, Bool.and_eq_true] at h
    simp only [List.all_cons, Bool.and_eq_true]
    exact ⟨h.2, chkTs_star h.1.2⟩
  | .nil, _ :: _, h => by simp [chkTs] at h
  | .cons _ _, [], h => by simp [chkTs] at h
  | .nm _, _, h => by simp [chkTs] at h
  | .tup _, _, h => by simp [chkTs] at h
mutual
theorem tg_ok (g : Good G n N hd sc W C) {st : Scope} (hst : Sto st C) : ∀ (tg : Tg) (e : Expr), chkT N st tg e = true → PG C e (gP C.K tg)
  | .nm i, e, h => by
    cases e <;> simp only [chkT, Bool.and_eq_true, decide_eq_true_eq, Bool.false_eq_true] at h
    rename_i x p
    obtain ⟨h1, h2⟩ := h
    obtain ⟨l1, l2⟩ := hst _ h2
    have hnd : C.N.Nodup := by rw [g.hN]; exact g.nd
    refine (pg_name (i := i) hnd (by rw [g.hN]; exact h1) l1 l2).imp fun v σ H Q q => ?_
    obtain ⟨ρ, μ, σp, p, σp', R, S, r, e, k⟩ := q
    rw [put_nm] at e
    obtain ⟨hl, e⟩ := some_if e
    subst e
    refine k _ (S.set r i) ⟨by simp, fun j hj => ?_⟩
    rw [List.getElem?_set_ne]
    intro z
    exact hj (by simp [z])
  | .tup ts, e, h => by
    cases e <;> simp only [chkT, Bool.and_eq_true, decide_eq_true_eq, Bool.false_eq_true] at h
    rename_i es kk p
    obtain ⟨h1, h2⟩ := h
    refine (pg_tup (n := es.length) g.calm (tgs_ok g hst ts es h1) assign_len (assign_nostar (chkTs_star h1))).imp fun v σ H Q q => ?_
    obtain ⟨ρ, μ, σp, p, σp', R, S, r, e, k⟩ := q
    cases p with
    | tup xs =>
      rw [put_tup] at e
      split at e
      · rename_i hx
        simp only [RV] at r
        obtain ⟨a, ys, e1, s1, rs⟩ := r
        exact ⟨a, ys, e1, s1, by rw [← RVs.length rs, hx, h2], ρ, μ, σp, xs, σp', R, S, rs, e, k⟩
      · cases e
    | _ => simp [Tg.put] at e
  | .nil, _, h => by simp [chkT] at h
  | .cons _ _, _, h => by simp [chkT] at h
theorem tgs_ok (g : Good G n N hd sc W C) {st : Scope} (hst : Sto st C) : ∀ (tg : Tg) (es : List Expr), chkTs N st tg es = true → PGs C es (gPs C.K tg)
  | .nil, [], _ => by
    refine pgs_nil.imp fun v σ H Q q => ?_
    obtain ⟨ρ, μ, σp, ps, σp', R, S, r, e, k⟩ := q
    cases ps with
    | nil =>
      rw [puts_nil] at e
      cases e
      simp only [RV.all] at r
      exact ⟨r, k σ S ⟨rfl, fun _ _ => rfl⟩⟩
    | cons _ _ => simp [Tg.put.puts] at e
  | .cons t ts, e :: es, h => by
    simp only [chkTs, Bool.and_eq_true] at h
    refine (pgs_cons (tg_ok g hst t e h.1.1) (tgs_ok g hst ts es h.1.2) (assign_star h.2)).imp fun v σ H Q q => ?_
    obtain ⟨ρ, μ, σp, ps, σp', R, S, r, e, k⟩ := q
    cases ps with
    | nil => simp [Tg.put.puts] at e
    | cons p ps =>
      rw [puts_cons] at e
      simp only [RV.all] at r
      obtain ⟨y, r', ev, r1, r2⟩ := r
      cases h1 : t.put p σp with
      | none => simp [h1] at e
      | some σ1 =>
        rw [h1] at e
        refine ⟨y, r', ev, ρ, μ, σp, p, σ1, R, S, r1, h1, fun σ' S' K' => ⟨ρ, μ, σ1, ps, σp', R, S', r2, e, fun σ'' S'' K'' => k σ'' S'' ⟨K''.1.trans K'.1, fun j hj => ?_⟩⟩⟩
        simp only [Tg.slots_cons, List.mem_append, not_or] at hj
        rw [K''.2 j hj.2, K'.2 j hj.1]
  | .nil, _ :: _, h => by simp [chkTs] at h
  | .cons _ _, [], h => by simp [chkTs] at h
  | .nm _, _, h => by simp [chkTs] at h
  | .tup _, _, h => by simp [chkTs] at h
end
theorem Kept.wipe {tg : Tg} {σ σ' : L2.St} (h : Kept tg (L2.wipe σ tg.slots) σ') : L2.wipe σ' tg.slots = L2.wipe σ tg.slots := by
  apply List.ext_getElem?
  intro j
  have hl : σ'.length = σ.length := by rw [h.1, wipe_length]
  rw [wipe_get, wipe_get, hl]
  by_cases hj : j ∈ tg.slots
  · rw [if_pos hj, if_pos hj]
  · rw [if_neg hj, if_neg hj, h.2 j hj, wipe_get, if_neg hj]
/-! ### calls -/
variable {es : List Expr} {pos : Pos} {ds : Sg → Mu → Out (List PV)}
theorem s_call {f : String} {d : Fd} {p : Pos} (g : Good G n N hd sc W C) (hf : G.fns.lookup f = some d) (gl : Gl C (Str.ofString f)) (hdb : okN (Str.ofString f) = true) (hne : es ≠ []) (hs : es.all noStar = true) (hA : PA C es (tS C.K W ds)) :
    PE C (.Call (.Name (Str.ofString f) p) es [] pos) (tA C.K W fun σ μ => (ds σ μ).bind fun xs μ1 => (callN G n f xs μ1).bind fun p μ2 => .ok (.v p) μ2) := by
  obtain ⟨fa, fd, hm, hk, _, F, B⟩ := g.fn f d hf
  obtain ⟨e, r, rfl⟩ : ∃ e r, es = e :: r := by
    cases es with
    | nil => exact absurd rfl hne
    | cons e r => exact ⟨e, r, rfl⟩
  simp only [List.all_cons, Bool.and_eq_true] at hs
  simp only [okN, Bool.and_eq_true, Bool.not_eq_true'] at hdb
  refine (pe_callS F (g.room3.mono (by omega)) gl hm hk B (L2N.passAt g.tk) hA hdb.1.1 (star_no hs.1) (star_plain hs.2)).imp fun σ H Q q => ?_
  obtain ⟨ρ, μ, σp, R, S, q⟩ := q
  dsimp only at q
  dsimp only [tCallS]
  refine tX_step R (Post.refl R) S q fun x μ1 ρ1 v H1 P1 r1 q => ?_
  exact ⟨ρ1, μ1, x, P1.rel, r1, sat_mono (sat_bind q) (fun p μ2 h ρ' v' H' P' r' => h ρ' v' H' (P1.trans P') r') fun c w μ2 h ρ' H' d wv P' r' e => h ρ' H' d wv (P1.trans P') r' e⟩
/-! ### comprehensions -/
theorem Good.blk {W : WX} (g : Good G n N hd sc W C) {s : Shared} {H : Hp} {scope : Scope} {cl : List (Str × Addr)} {A : Addr} {fp : List Addr} :
    Good G n N false (relS scope sc) (fun _ _ _ _ => False) (C.blk s H scope (compEnvC scope cl A C.env) fp) where
  calm := g.calm
  hN := g.hN
  nd := g.nd
  hsc := by
    show relS scope C.env.scope = _
    rw [g.hsc]
  tk := takesN0
  room := g.room3
  lam := fun h => nomatch h
  fn := g.fn
  free := g.free
  con := g.con
  hrd := g.hrd
theorem sto_blk {C : Cx} {s : Shared} {H : Hp} {scope : Scope} {cl : List (Str × Addr)} {A : Addr} {fp : List Addr} : Sto scope (C.blk s H scope (compEnvC scope cl A C.env) fp) := fun x h => by
  show Loc (relS scope C.env.scope) x ∧ ((scope.names.lookup x == some .cell) = true ∨ (relS scope C.env.scope).names.lookup x = some .local)
  unfold locB at h
  split at h
  · rename_i e
    have q := lookup_relS_keep (sc := C.env.scope) (by decide) e
    exact ⟨.inl q, .inr q⟩
  · rename_i e
    have q := lookup_relS_keep (sc := C.env.scope) (by decide) e
    exact ⟨.inr q, .inl (by rw [e]; rfl)⟩
  · cases h
theorem sat_calm {α : Type} {o : Out α} {P : α → Mu → Prop} {E E' : String → PV → Mu → Prop} (h : (calm o).sat P E) : o.sat P E' := by
  cases o with
  | ok a μ => exact h
  | exc _ _ _ => exact h.elim
  | bad => exact h.elim
/-- a list that has no number is written -/
theorem Rel.tmp {K : PySem.W.Frag} {ρ : List Addr} {μ : Mu} {H : Hp} {D : Addr} {ys zs : List V} (R : Rel K ρ μ H) (hD : H D = some (.lst ys)) (hn : D ∉ ρ) : Rel K ρ μ (upd H D (.lst zs)) ∧ Las K ρ H ρ (upd H D (.lst zs)) := by
  have kp : ∀ a u, H a = some u → (∀ ws, u ≠ .lst ws) → upd H D (.lst zs) a = some u := fun a u e hu => by
    rw [upd_ne fun z => by
      rw [z, hD] at e
      exact hu ys (Option.some.inj e).symm]
    exact e
  have L : Las K ρ H ρ (upd H D (.lst zs)) := by
    refine ⟨⟨[], by simp⟩, fun a ws h => ?_, fun a ns h => ?_⟩
    · rcases h with (h | ⟨u, h⟩) | h
      · exact .inl (.inl (kp _ _ h fun _ z => nomatch z))
      · exact .inl (.inr ⟨u, kp _ _ h fun _ z => nomatch z⟩)
      · exact .inr h
    · rcases h with ⟨u, h⟩ | h
      · exact .inl ⟨u, kp _ _ h fun _ z => nomatch z⟩
      · exact .inr h
  have tabs : LamX.Tabs Tb.T (upd H D (.lst zs)) := fun p hp => by
    obtain ⟨ps, h1, h2, h3⟩ := R.tabs p hp
    refine ⟨ps, kp _ _ h1 fun _ z => (nomatch z), h2, fun pos cv hc => ?_⟩
    obtain ⟨c, e1, e2⟩ := h3 pos cv hc
    exact ⟨c, e1, kp _ _ e2 fun _ z => by
      unfold LamX.CodeO at z
      cases z⟩
  refine ⟨⟨R.nd, R.len, fun i m e => ?_, tabs⟩, L⟩
  obtain ⟨a, ha, mo⟩ := R.at_ i m e
  refine ⟨a, ha, ?_⟩
  cases m with
  | lst xs =>
    obtain ⟨vs, q, r⟩ := mo
    refine ⟨vs, ?_, RVs.las L xs vs r⟩
    rw [upd_ne fun z => hn (by rw [← z]; exact List.mem_of_getElem? ha)]
    exact q
  | dct _ => exact mo.elim
theorem lc_imp {tg : Tg} {dit : Sg → Mu → Out Its} {dcond : Sg → Mu → Out Bool} {delt : Sg → Mu → Out PV} {σ : L2.St} {H : Hp} {Q : VK} (q : tA C.K W (fun σ μ => (dit σ μ).bind fun xs μ1 => (compLoop μ1 xs.2 (fun x μ => (lift (tg.put x (wipeP σ tg.slots)) μ).bind fun σ1 μ => (calm (dcond σ1 μ)).bind fun c μ => if c = true then (calm (delt σ1 μ)).bind fun y μ => .ok (some y) μ else .ok none μ) xs.1 [] μ1).bind fun ys μ2 => .ok (.l ys) μ2) σ H Q) :
    tLc (tI C.K W dit) (gP C.K tg) (tT C.K (fun _ _ _ _ => False) dcond) (tF C.K (fun _ _ _ _ => False) delt) ((ownOf N tg).map (·.2)) σ H Q := by
  have hown : (ownOf N tg).map (·.2) = tg.slots := by
    unfold ownOf
    rw [List.map_map]
    exact List.map_id _
  obtain ⟨ρ, μ, σp, R, S, q⟩ := q
  dsimp only at q
  dsimp only [tLc]
  rw [hown]
  refine tX_step R (Post.refl R) S q fun its μ1 ρ1 J H1 P1 wk q => ?_
  intro D hD
  have PD := Post.fresh (o := .lst []) P1.rel hD
  -- behind i turns
  refine ⟨fun i m Hi => m = its.1.length - i ∧ i ≤ its.1.length ∧ ∃ ρi μi acc ys, Post C.K ρ1 H1 ρi μi Hi ∧ D ∉ ρi ∧ Hi D = some (.lst ys) ∧ RVs C.K ρi Hi acc ys ∧
      (compLoop μ1 its.2 (fun x μ => (lift (tg.put x (wipeP σp tg.slots)) μ).bind fun σ1 μ => (calm (dcond σ1 μ)).bind fun c μ => if c = true then (calm (delt σ1 μ)).bind fun y μ => .ok (some y) μ else .ok none μ) (its.1.drop i) acc μi).sat
        (fun ys μ2 => (Out.ok (Ag.l ys) μ2).sat (fun x μ' => ∀ ρ' v H', Post C.K ρ H ρ' μ' H' → RA C.K H ρ' H' x v → Q v H') (EXC C.K W ρ H σ)) (EXC C.K W ρ H σ),
    ⟨its.1.length, by simp, Nat.zero_le _, ρ1, μ1, [], [], PD, P1.rel.out hD, upd_same, rfl, sat_bind q⟩, ?_⟩
  rintro i m Hi ⟨hm, hi2, ρi, μi, acc, ys, Pi, hDi, hys, racc, q⟩
  by_cases hend : i = its.1.length
  · -- the end
    subst hend
    rw [List.drop_length] at q
    simp only [compLoop] at q
    obtain ⟨st, q⟩ := sat_if q
    refine .inl ⟨(wk ρi μi Hi Pi st).2.1, ?_⟩
    refine q ρi (.ref D) Hi (P1.trans Pi) ⟨D, ys, rfl, hys, racc, hDi, ?_⟩
    intro o e pr
    have hnot : D ∉ ρ := fun z => hDi (Pi.mem (P1.mem z))
    rw [P1.frm D o e pr hnot] at hD
    cases hD
  · have hlt : i < its.1.length := by omega
    rw [List.drop_eq_getElem_cons hlt] at q
    simp only [compLoop] at q
    obtain ⟨st, q⟩ := sat_if q
    obtain ⟨w1, _, w3⟩ := wk ρi μi Hi Pi st
    refine .inr ⟨w1 i hlt, fun H' => (∃ ρ' μ' acc' ys', Post C.K ρ1 H1 ρ' μ' H' ∧ D ∉ ρ' ∧ H' D = some (.lst ys') ∧ RVs C.K ρ' H' acc' ys' ∧
      (compLoop μ1 its.2 (fun x μ => (lift (tg.put x (wipeP σp tg.slots)) μ).bind fun σ1 μ => (calm (dcond σ1 μ)).bind fun c μ => if c = true then (calm (delt σ1 μ)).bind fun y μ => .ok (some y) μ else .ok none μ) (its.1.drop (i + 1)) acc' μ').sat
        (fun ys μ2 => (Out.ok (Ag.l ys) μ2).sat (fun x μ' => ∀ ρ' v H', Post C.K ρ H ρ' μ' H' → RA C.K H ρ' H' x v → Q v H') (EXC C.K W ρ H σ)) (EXC C.K W ρ H σ)),
      fun H' hN => ⟨its.1.length - (i + 1), by omega, rfl, by omega, hN⟩, fun x H' hy => ?_⟩
    obtain ⟨p, hp, rp, Py⟩ := w3 i x H' hlt hy
    rw [List.getElem?_eq_getElem hlt] at hp
    cases hp
    have Piy := Pi.trans Py
    have Ly := (P1.trans Piy).las R
    obtain ⟨σ1, eσ, q⟩ := sat_lift (sat_bind (sat_bind q))
    refine ⟨ρi, μi, wipeP σp tg.slots, _, σ1, Py.rel, (S.las Ly).wipe _, rp, eσ, fun σ' S' K' => ⟨K'.wipe, ?_⟩⟩
    have hD' : H' D = some (.lst ys) := Py.frm D _ hys pr_lst hDi
    have racc' : RVs C.K ρi H' acc ys := RVs.las (Py.las Pi.rel) _ _ racc
    refine ⟨ρi, μi, σ1, Py.rel, S', sat_mono (sat_calm (sat_bind q)) ?_ fun _ _ _ e => e⟩
    intro c μ2 q ρ2 b H2 P2 hb2
    subst hb2
    have D2 : H2 D = some (.lst ys) := P2.frm D _ hD' pr_lst hDi
    have nD2 : D ∉ ρ2 := P2.out D _ hD' pr_lst hDi
    have racc2 : RVs C.K ρ2 H2 acc ys := RVs.las (P2.las Py.rel) _ _ racc'
    cases c with
    | false => exact it_f ⟨ρ2, μ2, acc, ys, Piy.trans P2, nD2, D2, racc2, q⟩
    | true =>
      refine it_t ?_
      have q' : ((calm (delt σ1 μ2)).bind fun y μ => .ok (some y) μ).sat _ _ := q
      refine ⟨ρ2, μ2, σ1, P2.rel, S'.las (P2.las Py.rel), sat_mono (sat_calm (sat_bind q')) ?_ fun _ _ _ e => e⟩
      intro y μ3 q ρ3 v H3 P3 rv
      have D3 : H3 D = some (.lst ys) := P3.frm D _ D2 pr_lst nD2
      have nD3 : D ∉ ρ3 := P3.out D _ D2 pr_lst nD2
      have racc3 : RVs C.K ρ3 H3 acc ys := RVs.las (P3.las P2.rel) _ _ racc2
      have q2 : (if acc.length < sizeLine then compLoop μ1 its.2 _ (its.1.drop (i + 1)) (acc ++ [y]) μ3 else .bad).sat _ _ := q
      obtain ⟨hz, q2⟩ := sat_if q2
      obtain ⟨R4, L4⟩ := P3.rel.tmp (zs := ys ++ [v]) D3 nD3
      have P4 := (Piy.trans P2).trans P3
      refine ⟨ys, D3, by rw [← racc3.length]; exact hz, ρ3, μ3, acc ++ [y], ys ++ [v], ⟨P4.pre, R4, fun a o e pr hn => ?_, P4.out⟩, nD3, upd_same, (RVs.las L4 _ _ racc3).append ⟨v, [], rfl, RV.las L4 _ _ rv, rfl⟩, q2⟩
      rw [upd_ne (ne_of_none e hD)]
      exact P4.frm a o e pr hn
theorem s_comp {tg : Tg} {t it elt : Expr} {ifs : List Expr} {scope : Scope} {dit : Sg → Mu → Out Its} {dcond : Sg → Mu → Out Bool} {delt : Sg → Mu → Out PV} (g : Good G n N hd sc W C) (hb : blkC N sc scope (ownOf N tg) = true) (hns : noSet it = true)
    (ht : chkT N scope tg t = true) (hi : PI C t it (tI C.K W dit))
    (hc : ∀ C' : Cx, C'.K = C.K → Good G n N false (relS scope sc) (fun _ _ _ _ => False) C' → PTs C' ifs (tT C.K (fun _ _ _ _ => False) dcond)) (he : ∀ C' : Cx, C'.K = C.K → Good G n N false (relS scope sc) (fun _ _ _ _ => False) C' → PE C' elt (tF C.K (fun _ _ _ _ => False) delt)) :
    PE C (.ListComp elt [⟨t, it, ifs, 0⟩] scope pos) (tA C.K W fun σ μ => (dit σ μ).bind fun xs μ1 => (compLoop μ1 xs.2 (fun x μ => (lift (tg.put x (wipeP σ tg.slots)) μ).bind fun σ1 μ => (calm (dcond σ1 μ)).bind fun c μ => if c = true then (calm (delt σ1 μ)).bind fun y μ => .ok (some y) μ else .ok none μ) xs.1 [] μ1).bind fun ys μ2 => .ok (.l ys) μ2) := by
  have hnd : C.N.Nodup := by rw [g.hN]; exact g.nd
  have hb' : BlkOk C.N C.env.scope scope (ownOf N tg) := by
    rw [g.hN, g.hsc]
    exact blkOk_by hb
  have hb' : BlkOk C.N C.env.scope scope (ownOf N tg) := by
    rw [g.hN, g.hsc]
    exact blkOk_by hb
  refine (pe_lc (own := ownOf N tg) (g := gP C.K tg) (tt := tT C.K (fun _ _ _ _ => False) dcond) (te := tF C.K (fun _ _ _ _ => False) delt) g.calm hnd hi hb' (fun s H A cl fp => tg_ok (g.blk (s := s) (H := H) (A := A) (cl := cl) (fp := fp) (scope := scope)) sto_blk tg t ht)
    (fun s H A cl fp => hc _ rfl (g.blk (s := s) (H := H) (A := A) (cl := cl) (fp := fp) (scope := scope))) (fun s H A cl fp => he _ rfl (g.blk (s := s) (H := H) (A := A) (cl := cl) (fp := fp) (scope := scope)))
    (fun x => by cases it <;> first | rfl | cases hns)).imp fun σ H Q q => lc_imp q
end
end Ev

set_option Elab.async false
set_option linter.all false
set_option maxRecDepth 100000
/-! EvM: every checked expression does what its readings tell. Own work. -/
namespace Ev
open PySem PySem.Spec PyProof.Rows L2
open Classical
variable [Tb]
/-- the names of the defs -/
def Gm.fs (G : Gm) : List String := G.fns.map (·.1)
theorem fs_lookup {G : Gm} {f : String} (h : G.fs.contains f = true) : ∃ d, G.fns.lookup f = some d := by
  unfold Gm.fs at h
  generalize G.fns = l at h
  induction l with
  | nil => cases h
  | cons p r ih =>
    obtain ⟨a, d⟩ := p
    by_cases e : f = a
    · subst e
      exact ⟨d, by simp [List.lookup]⟩
    · have h' : (r.map (·.1)).contains f = true := by
        simp only [List.map_cons, List.contains_cons, Bool.or_eq_true, beq_iff_eq] at h
        exact h.resolve_left e
      obtain ⟨d', e'⟩ := ih h'
      refine ⟨d', ?_⟩
      have e2 : (f == a) = false := by simp [e]
      simp [List.lookup, e2, e']
theorem pw_bool {C : Cx} {op : BoolOp} {x : Expr} {rest : List Expr} {pos : Pos} {t : TT} (h : PT C (.BoolOp op (x :: rest) pos) t) : PW C (.BoolOp op (x :: rest) pos) t := ⟨fun wh pins s σ H Q I q => by
  have q' := h.run pins s σ H Q I q
  cases op with
  | And =>
    cases rest with
    | nil => exact q'
    | cons _ _ => exact q'
  | Or =>
    cases rest with
    | nil => exact q'
    | cons _ _ => exact q'⟩
section
variable {C : Cx} {W : WX} {N : List Str} {sc : Scope} {G : Gm} {n : Nat} {hd : Bool}
/-- what a lambda handed to the law's heard does -/
def HeardOk (G : Gm) (n : Nat) (N : List Str) : Prop := ∀ (C : Cx) (W : WX) (sc : Scope) (g : String) (h : Hrd) (as : Arguments) (e f : Expr) (scope : Scope) (p pos : Pos) (d : Sg → Mu → Out PV), Good G n N true sc W C → G.hrd.lookup g = some h → gName sc g f = true → LamX.lamSB sc scope = true →
  (as.posonlyargs.isEmpty && as.args.isEmpty && as.kwonlyargs.isEmpty && as.vararg.isNone && as.kwarg.isNone && as.defaults.isEmpty && as.kw_defaults.isEmpty) = true →
  (∀ (C' : Cx) (W' : WX), C'.K = C.K → Good G n N false scope W' C' → PE C' e (tF C.K W' d)) → PE C (.Call f [.Lambda as e scope p] [] pos) (tA C.K W fun σ μ => told h (d σ μ))
/-- the terms whose name is no def of ours -/
structure Snd (G : Gm) (n : Nat) (N : List Str) (e : X) : Prop where
  v : ∀ (C : Cx) (W : WX) (hd : Bool) (sc : Scope) (a : Expr), Good G n N hd sc W C → chk N G.fs e hd sc a = true → PE C a (tA C.K W (den (wd G (callN G n)) e).a)
  t : ∀ (C : Cx) (W : WX) (hd : Bool) (sc : Scope) (a : Expr), Good G n N hd sc W C → chk N G.fs e hd sc a = true → PT C a (tT C.K W (den (wd G (callN G n)) e).t)
  i : ∀ (C : Cx) (W : WX) (hd : Bool) (sc : Scope) (tg a : Expr), Good G n N hd sc W C → chk N G.fs e hd sc a = true → itTgt e tg = true → PI C tg a (tI C.K W (den (wd G (callN G n)) e).i)
  s : ∀ (C : Cx) (W : WX) (hd : Bool) (sc : Scope) (as : List Expr), Good G n N hd sc W C → chks N G.fs e hd sc as = true → PA C as (tS C.K W (den (wd G (callN G n)) e).s)
  g : ∀ (C : Cx) (W : WX) (hd : Bool) (sc : Scope) (as : List Expr), Good G n N hd sc W C → chks N G.fs e hd sc as = true → PA C as (tG C.K W (den (wd G (callN G n)) e).g)
  ts : ∀ (C : Cx) (W : WX) (hd : Bool) (sc : Scope) (as : List Expr), Good G n N hd sc W C → chks N G.fs e hd sc as = true → as.length ≤ 1 → PTs C as (tT C.K W (den (wd G (callN G n)) e).t)
  one : ∀ (C : Cx) (W : WX) (hd : Bool) (sc : Scope) (a : Expr), Good G n N hd sc W C → chks N G.fs e hd sc [a] = true → PO C (some a) (tO C.K W (den (wd G (callN G n)) e).b)
  nil : ∀ (hd : Bool) (sc : Scope), chks N G.fs e hd sc [] = true → ∀ σ μ, (den (wd G (callN G n)) e).g σ μ = .ok [] μ
  cv : ∀ (C : Cx) (W : WX) (hd : Bool) (sc : Scope) (t : Bool) (a : Expr), Good G n N hd sc W C → chk N G.fs (.conv t e) hd sc a = true → PE C a (tA C.K W (den (wd G (callN G n)) (.conv t e)).a)
  ln : ∀ (hd : Bool) (sc : Scope) (as : List Expr), chks N G.fs e hd sc as = true → ∀ σ μ xs μ', (den (wd G (callN G n)) e).g σ μ = .ok xs μ' → xs.length = as.length
theorem chks_star {e : X} : ∀ {as : List Expr}, chks N G.fs e hd sc as = true → as.all noStar = true := by
  induction e with
  | nil =>
    intro as h
    cases as with
    | nil => rfl
    | cons _ _ => simp [chks] at h
  | cons e es _ ih =>
    intro as h
    cases as with
    | nil => rfl
    | cons a as =>
      simp only [chks, Bool.and_eq_true] at h
      simp only [List.all_cons, Bool.and_eq_true]
      exact ⟨h.1.2, ih h.2⟩
  | _ =>
    intro as h
    simp [chks] at h
theorem noc {e : X} (h1 : ∀ hd sc as, chks N G.fs e hd sc as = false) (v : ∀ (C : Cx) (W : WX) (hd : Bool) (sc : Scope) (a : Expr), Good G n N hd sc W C → chk N G.fs e hd sc a = true → PE C a (tA C.K W (den (wd G (callN G n)) e).a))
    (t : ∀ (C : Cx) (W : WX) (hd : Bool) (sc : Scope) (a : Expr), Good G n N hd sc W C → chk N G.fs e hd sc a = true → PT C a (tT C.K W (den (wd G (callN G n)) e).t))
    (i : ∀ (C : Cx) (W : WX) (hd : Bool) (sc : Scope) (tg a : Expr), Good G n N hd sc W C → chk N G.fs e hd sc a = true → itTgt e tg = true → PI C tg a (tI C.K W (den (wd G (callN G n)) e).i)) (h0 : ∀ t hd sc a, chk N G.fs (.conv t e) hd sc a = false := by intros; simp [chk]) : Snd G n N e :=
  have no : ∀ {hd sc as} {P : Prop}, chks N G.fs e hd sc as = true → P := fun {hd sc as P} h => by
    rw [h1] at h
    cases h
  ⟨v, t, i, fun _ _ _ _ _ _ h => no h, fun _ _ _ _ _ _ h => no h, fun _ _ _ _ _ _ h => no h, fun _ _ _ _ _ _ h => no h, fun _ _ h => no h, fun C W hd sc t a g h => (by rw [h0] at h; cases h), fun _ _ _ h => no h⟩
/-- a plain term: its value; its truth, its items by it -/
theorem pl {e : X} {da : Sg → Mu → Out Ag} (hden : den (wd G (callN G n)) e = plainS da) (h1 : ∀ hd sc as, chks N G.fs e hd sc as = false) (v : ∀ (C : Cx) (W : WX) (hd : Bool) (sc : Scope) (a : Expr), Good G n N hd sc W C → chk N G.fs e hd sc a = true → PE C a (tA C.K W da))
    (he : ∀ hd sc a, chk N G.fs e hd sc a = true → ∀ env whole, isTrue a env whole = (do let v ← whole; standAt a.pos; holding [v] (truthy v))) (h0 : ∀ t hd sc a, chk N G.fs (.conv t e) hd sc a = false := by intros; simp [chk]) : Snd G n N e := by
  refine noc h1 (fun C W hd sc a g h => ?_) (fun C W hd sc a g h => ?_) (fun C W hd sc tg a g h _ => ?_) h0
  · rw [hden]; exact v C W hd sc a g h
  · rw [hden]; exact s_tru (he hd sc a h _) (v C W hd sc a g h)
  · rw [hden]; exact s_it (v C W hd sc a g h)
/-- a test -/
theorem te {e : X} {dt : Sg → Mu → Out Bool} (hden : den (wd G (callN G n)) e = testS dt) (h1 : ∀ hd sc as, chks N G.fs e hd sc as = false) (v : ∀ (C : Cx) (W : WX) (hd : Bool) (sc : Scope) (a : Expr), Good G n N hd sc W C → chk N G.fs e hd sc a = true → PE C a (tA C.K W fun σ μ => (dt σ μ).bind fun b μ1 => .ok (.v (.bl b)) μ1))
    (t : ∀ (C : Cx) (W : WX) (hd : Bool) (sc : Scope) (a : Expr), Good G n N hd sc W C → chk N G.fs e hd sc a = true → PT C a (tT C.K W dt)) (h0 : ∀ t hd sc a, chk N G.fs (.conv t e) hd sc a = false := by intros; simp [chk]) : Snd G n N e := by
  refine noc h1 (fun C W hd sc a g h => ?_) (fun C W hd sc a g h => ?_) (fun C W hd sc tg a g h _ => ?_) h0
  · rw [hden]; exact v C W hd sc a g h
  · rw [hden]; exact t C W hd sc a g h
  · rw [hden]; exact pi_bad
theorem gName_at {x : String} {f : Expr} (h : gName sc x f = true) : ∃ p, f = .Name (Str.ofString x) p ∧ glB sc (Str.ofString x) = true ∧ okN (Str.ofString x) = true := by
  cases f <;> simp only [gName, Bool.and_eq_true, decide_eq_true_eq, Bool.false_eq_true] at h
  obtain ⟨⟨e, h2⟩, h3⟩ := h
  subst e
  exact ⟨_, rfl, h2, h3⟩
theorem slice_ix {b : Expr} (h : noSlice b = true) : PlainIx b := by
  intro o i
  cases b <;> first | rfl | cases h
theorem bi_free (f : Bi) : biNm f ∈ bltNames := by cases f <;> decide
theorem ty_free (t : Ty) : tyOf t ∈ bltNames := by cases t <;> decide
theorem ho {G : Gm} {g : String} {h : Hrd} {c : String → List PV → Mu → Out PV} (e : G.hrd.lookup g = some h) (o : Out PV) : heardO ((wd G c).hrd g) o = told h o := by
  simp [e]

section
variable {fs : List String} {x : Expr}
theorem and_at {a b : X} (h : chk N fs (.and a b) hd sc x = true) : ∃ y z rest p, x = .BoolOp .And (y :: z :: rest) p ∧ chk N fs a hd sc y = true ∧ (match rest with | [] => chk N fs b hd sc z | _ => chk N fs b hd sc (.BoolOp .And (z :: rest) p)) = true := by
  cases x <;> try (simp only [chk, Bool.false_eq_true] at h; done)
  rename_i op vs p
  match vs, h with
  | y :: z :: rest, h =>
    simp only [chk, Bool.and_eq_true, decide_eq_true_eq] at h
    obtain ⟨⟨rfl, h1⟩, h2⟩ := h
    exact ⟨_, _, _, _, rfl, h1, h2⟩
  | [_], h => simp [chk] at h
  | [], h => simp [chk] at h
theorem or_at {a b : X} (h : chk N fs (.or a b) hd sc x = true) : ∃ y z rest p, x = .BoolOp .Or (y :: z :: rest) p ∧ chk N fs a hd sc y = true ∧ (match rest with | [] => chk N fs b hd sc z | _ => chk N fs b hd sc (.BoolOp .Or (z :: rest) p)) = true := by
  cases x <;> try (simp only [chk, Bool.false_eq_true] at h; done)
  rename_i op vs p
  match vs, h with
  | y :: z :: rest, h =>
    simp only [chk, Bool.and_eq_true, decide_eq_true_eq] at h
    obtain ⟨⟨rfl, h1⟩, h2⟩ := h
    exact ⟨_, _, _, _, rfl, h1, h2⟩
  | [_], h => simp [chk] at h
  | [], h => simp [chk] at h
theorem cmp_at {o : Cm} {a b : X} (h : chk N fs (.cmp o a b) hd sc x = true) : ∃ y z p, x = .Compare y [cmOf o] [z] p ∧ chk N fs a hd sc y = true ∧ chk N fs b hd sc z = true ∧ noSet z = true := by
  cases x <;> try (simp only [chk, Bool.false_eq_true] at h; done)
  rename_i y ops cs p
  match ops, cs, h with
  | [op], [z], h =>
    simp only [chk, Bool.and_eq_true, decide_eq_true_eq] at h
    obtain ⟨⟨⟨rfl, h1⟩, h2⟩, h3⟩ := h
    exact ⟨_, _, _, rfl, h1, h2, h3⟩
  | [], _, h => simp [chk] at h
  | [_], [], h => simp [chk] at h
  | [_], _ :: _ :: _, h => simp [chk] at h
  | _ :: _ :: _, _, h => simp [chk] at h
theorem chain_to {o o' : Cm} {a b c : X} (h : chk N fs (.chain o o' a b c) hd sc x = true) : ∃ y z u p, x = .Compare y [cmOf o, cmOf o'] [z, u] p ∧ chk N fs a hd sc y = true ∧ chk N fs b hd sc z = true ∧ chk N fs c hd sc u = true ∧ noSet u = true := by
  cases x <;> try (simp only [chk, Bool.false_eq_true] at h; done)
  rename_i y ops cs p
  match ops, cs, h with
  | [op, op'], [z, u], h =>
    simp only [chk, Bool.and_eq_true, decide_eq_true_eq] at h
    obtain ⟨⟨⟨⟨⟨rfl, rfl⟩, h1⟩, h2⟩, h3⟩, h4⟩ := h
    exact ⟨_, _, _, _, rfl, h1, h2, h3, h4⟩
  | [], _, h => simp [chk] at h
  | [_], _, h => simp [chk] at h
  | [_, _], [], h => simp [chk] at h
  | [_, _], [_], h => simp [chk] at h
  | [_, _], _ :: _ :: _ :: _, h => simp [chk] at h
  | _ :: _ :: _ :: _, _, h => simp [chk] at h
theorem isN_at {a : X} (h : chk N fs (.isN a) hd sc x = true) : ∃ y j p q, x = .Compare y [.Is] [.Constant .none j p] q ∧ chk N fs a hd sc y = true := by
  cases x <;> try (simp only [chk, Bool.false_eq_true] at h; done)
  rename_i y ops cs p
  match ops, cs, h with
  | [op], [z], h =>
    cases z <;> try (simp only [chk, Bool.false_eq_true] at h; done)
    rename_i c j q
    cases c <;> simp only [chk, Bool.and_eq_true, decide_eq_true_eq, Bool.false_eq_true] at h
    obtain ⟨rfl, h1⟩ := h
    exact ⟨_, _, _, _, rfl, h1⟩
  | [], _, h => simp [chk] at h
  | [_], [], h => simp [chk] at h
  | [_], _ :: _ :: _, h => simp [chk] at h
  | _ :: _ :: _, _, h => simp [chk] at h
theorem notN_at {a : X} (h : chk N fs (.notN a) hd sc x = true) : ∃ y j p q, x = .Compare y [.IsNot] [.Constant .none j p] q ∧ chk N fs a hd sc y = true := by
  cases x <;> try (simp only [chk, Bool.false_eq_true] at h; done)
  rename_i y ops cs p
  match ops, cs, h with
  | [op], [z], h =>
    cases z <;> try (simp only [chk, Bool.false_eq_true] at h; done)
    rename_i c j q
    cases c <;> simp only [chk, Bool.and_eq_true, decide_eq_true_eq, Bool.false_eq_true] at h
    obtain ⟨rfl, h1⟩ := h
    exact ⟨_, _, _, _, rfl, h1⟩
  | [], _, h => simp [chk] at h
  | [_], [], h => simp [chk] at h
  | [_], _ :: _ :: _, h => simp [chk] at h
  | _ :: _ :: _, _, h => simp [chk] at h
theorem slice_at {a lo hi : X} (h : chk N fs (.slice a lo hi) hd sc x = true) : ∃ y l u p q, x = .Subscript y (.Slice l u none p) q ∧ chk N fs a hd sc y = true ∧ (match l with | none => chks N fs lo hd sc [] | some e => chks N fs lo hd sc [e]) = true ∧ (match u with | none => chks N fs hi hd sc [] | some e => chks N fs hi hd sc [e]) = true := by
  cases x <;> try (simp only [chk, Bool.false_eq_true] at h; done)
  rename_i y s q
  cases s <;> try (simp only [chk, Bool.false_eq_true] at h; done)
  rename_i l u st p
  cases st <;> try (simp only [chk, Bool.false_eq_true] at h; done)
  simp only [chk, Bool.and_eq_true] at h
  exact ⟨_, _, _, _, _, rfl, h.1.1, h.1.2, h.2⟩
theorem call_at {f : String} {es : X} (h : chk N fs (.call f es) hd sc x = true) : ∃ g as p, x = .Call g as [] p ∧ gName sc f g = true ∧ chks N fs es hd sc as = true ∧ as ≠ [] ∧ fs.contains f = true := by
  cases x <;> try (simp only [chk, Bool.false_eq_true] at h; done)
  rename_i g as kw p
  cases kw <;> try (simp only [chk, Bool.false_eq_true] at h; done)
  simp only [chk, Bool.and_eq_true, Bool.not_eq_true'] at h
  obtain ⟨⟨⟨h1, h2⟩, h3⟩, h4⟩ := h
  exact ⟨_, _, _, rfl, h1, h2, (fun e => by rw [e] at h3; cases h3), h4⟩
theorem bi_at {f : Bi} {es : X} (h : chk N fs (.bi f es) hd sc x = true) : ∃ g as p, x = .Call g as [] p ∧ gName sc (biNm f) g = true ∧ chks N fs es hd sc as = true ∧ as ≠ [] := by
  cases x <;> try (simp only [chk, Bool.false_eq_true] at h; done)
  rename_i g as kw p
  cases kw <;> try (simp only [chk, Bool.false_eq_true] at h; done)
  simp only [chk, Bool.and_eq_true, Bool.not_eq_true'] at h
  obtain ⟨⟨h1, h2⟩, h3⟩ := h
  exact ⟨_, _, _, rfl, h1, h2, fun e => by rw [e] at h3; cases h3⟩
theorem rngX_at {es : X} (h : chk N fs (.rng es) hd sc x = true) : ∃ g as p, x = .Call g as [] p ∧ gName sc "range" g = true ∧ chks N fs es hd sc as = true ∧ (as.length = 1 ∨ as.length = 2) := by
  cases x <;> try (simp only [chk, Bool.false_eq_true] at h; done)
  rename_i g as kw p
  cases kw <;> try (simp only [chk, Bool.false_eq_true] at h; done)
  simp only [chk, Bool.and_eq_true, Bool.or_eq_true, decide_eq_true_eq] at h
  exact ⟨_, _, _, rfl, h.1.1, h.1.2, h.2⟩
theorem isi_at {a : X} {t : Ty} (h : chk N fs (.isi a t) hd sc x = true) : ∃ g y ty p, x = .Call g [y, ty] [] p ∧ gName sc "isinstance" g = true ∧ chk N fs a hd sc y = true ∧ noStar y = true ∧ gName sc (tyOf t) ty = true := by
  cases x <;> try (simp only [chk, Bool.false_eq_true] at h; done)
  rename_i g as kw p
  match as, kw, h with
  | [y, ty], [], h =>
    simp only [chk, Bool.and_eq_true] at h
    exact ⟨_, _, _, _, rfl, h.1.1.1, h.1.1.2, h.1.2, h.2⟩
  | [], _, h => simp [chk] at h
  | [_], _, h => simp [chk] at h
  | [_, _], _ :: _, h => simp [chk] at h
  | _ :: _ :: _ :: _, _, h => simp [chk] at h
theorem mt_at {m : Mt} {o es : X} (h : chk N fs (.mt m o es) hd sc x = true) : ∃ y p as q, x = .Call (.Attribute y (mtOf m).1 p) as [] q ∧ chk N fs o hd sc y = true ∧ chks N fs es hd sc as = true ∧ noSuper y = true ∧ lineB p q = true ∧ as.length < 29 := by
  cases x <;> try (simp only [chk, Bool.false_eq_true] at h; done)
  rename_i g as kw q
  cases kw <;> try (simp [chk] at h; done)
  cases g <;> try (simp only [chk, Bool.false_eq_true] at h; done)
  simp only [chk, Bool.and_eq_true, decide_eq_true_eq] at h
  obtain ⟨⟨⟨⟨⟨rfl, h1⟩, h2⟩, h3⟩, h4⟩, h5⟩ := h
  exact ⟨_, _, _, _, rfl, h1, h2, h3, h4, h5⟩
theorem app_at {o e : X} (h : chk N fs (.app o e) hd sc x = true) : ∃ y p b q, x = .Call (.Attribute y "append" p) [b] [] q ∧ chk N fs o hd sc y = true ∧ chk N fs e hd sc b = true ∧ noStar b = true ∧ noSuper y = true ∧ lineB p q = true := by
  cases x <;> try (simp only [chk, Bool.false_eq_true] at h; done)
  rename_i g as kw q
  cases g <;> try (simp only [chk, Bool.false_eq_true] at h; done)
  match as, kw, h with
  | [b], [], h =>
    simp only [chk, Bool.and_eq_true, decide_eq_true_eq] at h
    obtain ⟨⟨⟨⟨⟨rfl, h1⟩, h2⟩, h3⟩, h4⟩, h5⟩ := h
    exact ⟨_, _, _, _, rfl, h1, h2, h3, h4, h5⟩
  | [], _, h => simp [chk] at h
  | [_], _ :: _, h => simp [chk] at h
  | _ :: _ :: _, _, h => simp [chk] at h
theorem enum_at {a : X} (h : chk N fs (.enum a) hd sc x = true) : ∃ g y p, x = .Call g [y] [] p ∧ gName sc "enumerate" g = true ∧ chk N fs a hd sc y = true ∧ noStar y = true := by
  cases x <;> try (simp only [chk, Bool.false_eq_true] at h; done)
  rename_i g as kw q
  match as, kw, h with
  | [b], [], h =>
    simp only [chk, Bool.and_eq_true] at h
    exact ⟨_, _, _, rfl, h.1.1, h.1.2, h.2⟩
  | [], _, h => simp [chk] at h
  | [_], _ :: _, h => simp [chk] at h
  | _ :: _ :: _, _, h => simp [chk] at h
theorem rev_at {a : X} (h : chk N fs (.rev a) hd sc x = true) : ∃ y k p1 p2 p3 p, x = .Subscript y (.Slice none none (some (.UnaryOp .USub (.Constant (.int 1) k p1) p2)) p3) p ∧ chk N fs a hd sc y = true := by
  cases x <;> try (simp only [chk, Bool.false_eq_true] at h; done)
  rename_i y sl p
  cases sl <;> try (simp only [chk, Bool.false_eq_true] at h; done)
  rename_i l u st p3
  cases l <;> try (simp only [chk, Bool.false_eq_true] at h; done)
  cases u <;> try (simp only [chk, Bool.false_eq_true] at h; done)
  cases st <;> try (simp only [chk, Bool.false_eq_true] at h; done)
  rename_i e
  cases e <;> try (simp only [chk, Bool.false_eq_true] at h; done)
  rename_i o e p2
  cases o <;> try (simp only [chk, Bool.false_eq_true] at h; done)
  cases e <;> try (simp only [chk, Bool.false_eq_true] at h; done)
  rename_i c k p1
  cases c <;> try (simp only [chk, Bool.false_eq_true] at h; done)
  rename_i i
  match i, h with
  | .ofNat 0, h => simp [chk] at h
  | .ofNat 1, h => exact ⟨_, _, _, _, _, _, rfl, by simpa [chk] using h⟩
  | .ofNat (n + 2), h => exact Bool.noConfusion (show false = true from h)
  | .negSucc n, h => simp [chk] at h
theorem sortL_at {a : X} (h : chk N fs (.sortL a) hd sc x = true) : ∃ g y p, x = .Call g [y] [] p ∧ gName sc "sorted" g = true ∧ chk N fs a hd sc y = true ∧ noStar y = true := by
  cases x <;> try (simp only [chk, Bool.false_eq_true] at h; done)
  rename_i g as kw q
  match as, kw, h with
  | [b], [], h =>
    simp only [chk, Bool.and_eq_true] at h
    exact ⟨_, _, _, rfl, h.1.1, h.1.2, h.2⟩
  | [], _, h => simp [chk] at h
  | [_], _ :: _, h => simp [chk] at h
  | _ :: _ :: _, _, h => simp [chk] at h
theorem sortSet_at {a : X} (h : chk N fs (.sortSet a) hd sc x = true) : ∃ g g' y p q, x = .Call g [.Call g' [y] [] q] [] p ∧ gName sc "sorted" g = true ∧ gName sc "set" g' = true ∧ chk N fs a hd sc y = true ∧ noStar y = true := by
  cases x <;> try (simp only [chk, Bool.false_eq_true] at h; done)
  rename_i g as kw q
  match as, kw, h with
  | [b], [], h =>
    cases b <;> try (simp only [chk, Bool.false_eq_true] at h; done)
    rename_i g' as' kw' q'
    match as', kw', h with
    | [b], [], h =>
      simp only [chk, Bool.and_eq_true] at h
      exact ⟨_, _, _, _, _, rfl, h.1.1.1, h.1.1.2, h.1.2, h.2⟩
    | [], _, h => simp [chk] at h
    | [_], _ :: _, h => simp [chk] at h
    | _ :: _ :: _, _, h => simp [chk] at h
  | [], _, h => simp [chk] at h
  | [_], _ :: _, h => simp [chk] at h
  | _ :: _ :: _, _, h => simp [chk] at h
theorem conv_at {t : Bool} {r : X} (h : chk N fs (.conv t r) hd sc x = true) : ∃ es g g' as p q, r = .rng es ∧ x = .Call g [.Call g' as [] q] [] p ∧ gName sc (if t = true then "tuple" else "list") g = true ∧ gName sc "range" g' = true ∧ chks N fs es hd sc as = true ∧ (as.length = 1 ∨ as.length = 2) := by
  cases r <;> try (simp only [chk, Bool.false_eq_true] at h; done)
  cases x <;> try (simp only [chk, Bool.false_eq_true] at h; done)
  rename_i es g as kw q
  match as, kw, h with
  | [b], [], h =>
    cases b <;> try (simp only [chk, Bool.false_eq_true] at h; done)
    rename_i g' as' kw' q'
    cases kw' <;> try (simp only [chk, Bool.false_eq_true] at h; done)
    simp only [chk, Bool.and_eq_true, Bool.or_eq_true, decide_eq_true_eq] at h
    exact ⟨_, _, _, _, _, _, rfl, rfl, h.1.1.1, h.1.1.2, h.1.2, h.2⟩
  | [], _, h => simp [chk] at h
  | [_], _ :: _, h => simp [chk] at h
  | _ :: _ :: _, _, h => simp [chk] at h
theorem comp_at {tg : Tg} {it cond elt : X} (h : chk N fs (.comp tg it cond elt) hd sc x = true) : ∃ e t i ifs scope p, x = .ListComp e [⟨t, i, ifs, 0⟩] scope p ∧ blkC N sc scope (ownOf N tg) = true ∧ chkT N scope tg t = true ∧ chk N fs it hd sc i = true ∧ itTgt it t = true ∧ noSet i = true ∧ chks N fs cond false (relS scope sc) ifs = true ∧ ifs.length ≤ 1 ∧ chk N fs elt false (relS scope sc) e = true := by
  cases x <;> try (simp only [chk, Bool.false_eq_true] at h; done)
  rename_i e gs scope p
  match gs, h with
  | [⟨t, i, ifs, asy⟩], h =>
    simp only [chk, Bool.and_eq_true, decide_eq_true_eq] at h
    obtain ⟨⟨⟨⟨⟨⟨⟨⟨rfl, h1⟩, h2⟩, h3⟩, h4⟩, h5⟩, h6⟩, h7⟩, h8⟩ := h
    exact ⟨_, _, _, _, _, _, rfl, h1, h2, h3, h4, h5, h6, h7, h8⟩
  | [], h => simp [chk] at h
  | _ :: _ :: _, h => simp [chk] at h
theorem heard_at {g : String} {body : X} (h : chk N fs (.heard g body) hd sc x = true) : hd = true ∧ ∃ f as e scope p q, x = .Call f [.Lambda as e scope p] [] q ∧ gName sc g f = true ∧ LamX.lamSB sc scope = true ∧ chk N fs body false scope e = true ∧
    (as.posonlyargs.isEmpty && as.args.isEmpty && as.kwonlyargs.isEmpty && as.vararg.isNone && as.kwarg.isNone && as.defaults.isEmpty && as.kw_defaults.isEmpty) = true := by
  cases x <;> try (simp only [chk, Bool.false_eq_true] at h; done)
  rename_i f as kw q
  match as, kw, h with
  | [b], [], h =>
    cases b <;> try (simp only [chk, Bool.false_eq_true] at h; done)
    simp only [chk, Bool.and_eq_true] at h
    obtain ⟨⟨⟨⟨⟨⟨⟨⟨⟨⟨h1, h2⟩, h3⟩, h4⟩, h5⟩, h6⟩, h7⟩, h8⟩, h9⟩, h10⟩, h11⟩ := h
    refine ⟨h1, _, _, _, _, _, _, rfl, h2, h3, h4, ?_⟩
    simp only [h5, h6, h7, h8, h9, h10, h11, Bool.and_self]
  | [], _, h => simp [chk] at h
  | [_], _ :: _, h => simp [chk] at h
  | _ :: _ :: _, _, h => simp [chk] at h
theorem bnone {d : Sem} (h : ∀ σ μ, d.g σ μ = .ok [] μ) : PO C none (tO C.K W d.b) := by
  have e : d.b = fun _ μ => .ok none μ := by
    funext σ μ
    show (d.g σ μ).bind kBnd = _
    rw [h]
    rfl
  rw [e]
  exact s_po0
theorem isi_v {a : X} {t : Ty} {C : Cx} {W : WX} {hd : Bool} {sc : Scope} (iha : Snd G n N a) (g : Good G n N hd sc W C) {x : Expr} (h : chk N G.fs (.isi a t) hd sc x = true) :
    PE C x (tA C.K W fun σ μ => (((den (wd G (callN G n)) a).a σ μ).bind fun x μ1 => lift (isA μ1 t x) μ1).bind fun b μ1 => .ok (.v (.bl b)) μ1) := by
  obtain ⟨gg, y, ty, p, rfl, h1, h2, h3, h4⟩ := isi_at h
  obtain ⟨q, rfl, g1, g2⟩ := gName_at h1
  obtain ⟨q', rfl, g1', g2'⟩ := gName_at h4
  exact s_isi g.room1 (g.gl g1) (g.free _ (by decide)) (g.gl g1') (g.free _ (ty_free t)) h3 (iha.v C W hd sc _ g h2)
end
theorem snd (hh : HeardOk G n N) (e : X) : Snd G n N e := by
  induction e with
  | nil =>
    refine ⟨fun C W hd sc a _ h => by simp [chk] at h, fun C W hd sc a _ h => by simp [chk] at h, fun C W hd sc tg a _ h => by simp [chk] at h, fun C W hd sc as g h => ?_, fun C W hd sc as g h => ?_, fun C W hd sc as g h _ => ?_, fun C W hd sc a _ h => by simp [chks] at h, fun hd sc _ σ μ => rfl, fun C W hd sc t a g h => by simp [chk] at h, fun hd sc as h σ μ xs μ' e => ?_⟩
    · cases as with
      | nil => exact s_nilS
      | cons _ _ => simp [chks] at h
    · cases as with
      | nil => exact s_nilG
      | cons _ _ => simp [chks] at h
    · cases as with
      | nil =>
        refine pts_nil.imp fun σ H Q q => ?_
        obtain ⟨ρ, μ, σp, R, S, q⟩ := q
        exact q ρ true H (Post.refl R) rfl
      | cons _ _ => simp [chks] at h
    · cases as with
      | nil =>
        cases e
        rfl
      | cons _ _ => simp [chks] at h
  | cons e es ihe ihs =>
    refine ⟨fun C W hd sc a _ h => by simp [chk] at h, fun C W hd sc a _ h => by simp [chk] at h, fun C W hd sc tg a _ h => by simp [chk] at h, fun C W hd sc as g h => ?_, fun C W hd sc as g h => ?_, fun C W hd sc as g h hl => ?_, fun C W hd sc a g h => ?_, fun hd sc h => by simp [chks] at h, fun C W hd sc t a g h => by simp [chk] at h, fun hd sc as h σ μ xs μ' q => ?_⟩
    · cases as with
      | nil => simp [chks] at h
      | cons a as =>
        simp only [chks, Bool.and_eq_true] at h
        exact s_consS h.1.2 (s_force (ihe.v C W hd sc a g h.1.1)) (ihs.s C W hd sc as g h.2)
    · cases as with
      | nil => simp [chks] at h
      | cons a as =>
        simp only [chks, Bool.and_eq_true] at h
        exact s_consG h.1.2 (ihe.v C W hd sc a g h.1.1) (ihs.g C W hd sc as g h.2)
    · match as, h, hl with
      | [], h, _ => simp [chks] at h
      | [a], h, _ =>
        simp only [chks, Bool.and_eq_true] at h
        refine (pts_one (ihe.t C W hd sc a g h.1.1)).imp fun σ H Q q => ?_
        have hes : es = .nil := by
          have h2 := h.2
          cases es <;> simp [chks] at h2 <;> rfl
        subst hes
        obtain ⟨ρ, μ, σp, R, S, q⟩ := q
        refine tX_step R (Post.refl R) S q fun x μ1 ρ1 v H1 P1 r1 q => ?_
        subst r1
        cases x with
        | true => exact q ρ1 true H1 P1 rfl
        | false => exact q ρ1 false H1 P1 rfl
      | _ :: _ :: _, _, hl => simp at hl
    · simp only [chks, Bool.and_eq_true] at h
      have hes : es = .nil := by
        have h2 := h.2
        cases es <;> simp [chks] at h2 <;> rfl
      subst hes
      have q := s_po1 (W := W) (ihe.v C W hd sc a g h.1.1)
      have ed : (fun σ μ => ((den (wd G (callN G n)) e).a σ μ).bind fun x μ1 => lift (bnd [x]) μ1) = (den (wd G (callN G n)) (e.cons .nil)).b := by
        funext σ μ
        show _ = (((den (wd G (callN G n)) e).a σ μ).bind _).bind kBnd
        rw [Out.bind_assoc]
        rfl
      rw [← ed]
      exact q
    · cases as with
      | nil => simp [chks] at h
      | cons a as =>
        simp only [chks, Bool.and_eq_true] at h
        have q' : (((den (wd G (callN G n)) e).a σ μ).bind fun x μ1 => ((den (wd G (callN G n)) es).g σ μ1).bind fun xs μ2 => .ok (x :: xs) μ2) = Out.ok xs μ' := q
        cases h1 : (den (wd G (callN G n)) e).a σ μ with
        | bad => rw [h1] at q'; cases q'
        | exc _ _ _ => rw [h1] at q'; cases q'
        | ok x μ1 =>
          rw [h1] at q'
          simp only [Out.bind_ok] at q'
          cases h2 : (den (wd G (callN G n)) es).g σ μ1 with
          | bad => rw [h2] at q'; cases q'
          | exc _ _ _ => rw [h2] at q'; cases q'
          | ok ys μ2 =>
            rw [h2] at q'
            cases q'
            rw [List.length_cons, List.length_cons, ihs.ln hd sc as h.2 _ _ _ _ h2]
  | var i =>
    refine pl rfl (fun _ _ _ => by simp [chks]) (fun C W hd sc a g h => ?_) (fun hd sc a h env wh => ?_)
    · cases a <;> simp only [chk, Bool.and_eq_true, decide_eq_true_eq, Bool.false_eq_true] at h
      simp only [okN, Bool.and_eq_true, Bool.not_eq_true'] at h
      exact s_var (pe_var (by rw [g.hN]; exact h.1.1) (g.vis h.1.2) h.2.1.1 h.2.1.2)
    · cases a <;> first | rfl | simp [chk] at h
  | non =>
    refine pl rfl (fun _ _ _ => by simp [chks]) (fun C W hd sc a g h => ?_) (fun hd sc a h env wh => ?_)
    · cases a <;> try (simp only [chk, Bool.false_eq_true] at h; done)
      rename_i c k p
      cases c <;> simp only [chk, Bool.false_eq_true] at h
      exact s_con (fun _ _ => by simp [RV]) pe_non
    · cases a <;> first | rfl | simp [chk] at h
  | bl b =>
    refine pl rfl (fun _ _ _ => by simp [chks]) (fun C W hd sc a g h => ?_) (fun hd sc a h env wh => ?_)
    · cases a <;> try (simp only [chk, Bool.false_eq_true] at h; done)
      rename_i c k p
      cases c <;> simp only [chk, Bool.false_eq_true, beq_iff_eq] at h
      subst h
      exact s_con (fun _ _ => by simp [RV]) pe_bl
    · cases a <;> first | rfl | simp [chk] at h
  | int i =>
    refine pl rfl (fun _ _ _ => by simp [chks]) (fun C W hd sc a g h => ?_) (fun hd sc a h env wh => ?_)
    · cases a <;> try (simp only [chk, Bool.false_eq_true] at h; done)
      rename_i c k p
      cases c <;> simp only [chk, Bool.false_eq_true, decide_eq_true_eq] at h
      subst h
      exact s_con (fun _ _ => by simp [RV]) pe_int
    · cases a <;> first | rfl | simp [chk] at h
  | str i =>
    refine pl rfl (fun _ _ _ => by simp [chks]) (fun C W hd sc a g h => ?_) (fun hd sc a h env wh => ?_)
    · cases a <;> try (simp only [chk, Bool.false_eq_true] at h; done)
      rename_i c k p
      cases c <;> simp only [chk, Bool.false_eq_true, decide_eq_true_eq] at h
      subst h
      exact s_con (fun _ _ => by simp [RV]) pe_str
    · cases a <;> first | rfl | simp [chk] at h
  | glo x =>
    refine pl rfl (fun _ _ _ => by simp [chks]) (fun C W hd sc a g h => ?_) (fun hd sc a h env wh => ?_)
    · obtain ⟨p, rfl, h1, h2⟩ := gName_at h
      simp only [okN, Bool.and_eq_true, Bool.not_eq_true'] at h2
      refine ⟨fun pins s σ H Q I q => ?_⟩
      obtain ⟨ρ, μ, σp, R, S, q⟩ := q
      obtain ⟨z, e, k⟩ := sat_lift q
      obtain ⟨pv, hp, e⟩ := map_some e
      subst e
      obtain ⟨u, v, m1, m2, m3⟩ := g.con x pv hp
      exact (pe_glob (g.gl h1) m1 m2 h2.1.1).run pins s σ H Q I (k ρ v H (Post.refl R) (m3 ρ H))
    · obtain ⟨p, rfl, _⟩ := gName_at h
      rfl
  | tup es ih =>
    refine pl rfl (fun _ _ _ => by simp [chks]) (fun C W hd sc a g h => ?_) (fun hd sc a h env wh => ?_)
    · cases a <;> simp only [chk, Bool.false_eq_true] at h
      exact s_tup (ih.s C W hd sc _ g h)
    · cases a <;> first | rfl | simp [chk] at h
  | lst es ih =>
    refine pl rfl (fun _ _ _ => by simp [chks]) (fun C W hd sc a g h => ?_) (fun hd sc a h env wh => ?_)
    · cases a <;> simp only [chk, Bool.false_eq_true] at h
      exact s_lst (ih.s C W hd sc _ g h)
    · cases a <;> first | rfl | simp [chk] at h
  | bin o a b iha ihb =>
    refine pl rfl (fun _ _ _ => by simp [chks]) (fun C W hd sc x g h => ?_) (fun hd sc a h env wh => ?_)
    · cases x <;> simp only [chk, Bool.false_eq_true, Bool.and_eq_true, decide_eq_true_eq] at h
      exact s_bin h.1.1 (iha.v C W hd sc _ g h.1.2) (ihb.v C W hd sc _ g h.2)
    · cases a <;> first | rfl | simp [chk] at h
  | neg a iha =>
    refine pl rfl (fun _ _ _ => by simp [chks]) (fun C W hd sc x g h => ?_) (fun hd sc a h env wh => ?_)
    · cases x <;> simp only [chk, Bool.false_eq_true, Bool.and_eq_true, decide_eq_true_eq] at h
      obtain ⟨rfl, h⟩ := h
      exact s_neg (iha.v C W hd sc _ g h)
    · cases a <;> simp only [chk, Bool.false_eq_true, Bool.and_eq_true, decide_eq_true_eq] at h
      obtain ⟨rfl, h⟩ := h
      rfl
  | not a iha =>
    refine noc (fun _ _ _ => by simp [chks]) (fun C W hd sc x g h => ?_) (fun C W hd sc x g h => ?_) (fun C W hd sc tg x g h _ => pi_bad)
    · cases x <;> simp only [chk, Bool.false_eq_true, Bool.and_eq_true, decide_eq_true_eq] at h
      obtain ⟨rfl, h⟩ := h
      exact s_notV (iha.v C W hd sc _ g h)
    · cases x <;> simp only [chk, Bool.false_eq_true, Bool.and_eq_true, decide_eq_true_eq] at h
      obtain ⟨rfl, h⟩ := h
      exact s_notT (iha.t C W hd sc _ g h)
  | and a b iha ihb =>
    refine noc (fun _ _ _ => by simp [chks]) (fun C W hd sc x g h => ?_) (fun C W hd sc x g h => ?_) (fun C W hd sc tg x g h _ => pi_bad)
    · obtain ⟨y, z, rest, p, rfl, h1, h2⟩ := and_at h
      refine s_andV (iha.v C W hd sc _ g h1) ?_
      cases rest with
      | nil => exact s_one (ihb.v C W hd sc _ g h2)
      | cons _ _ => exact ihb.v C W hd sc _ g h2
    · obtain ⟨y, z, rest, p, rfl, h1, h2⟩ := and_at h
      refine (s_andT (iha.t C W hd sc _ g h1) ?_).pt
      cases rest with
      | nil => exact pw_and1 (ihb.t C W hd sc _ g h2)
      | cons _ _ => exact pw_bool (ihb.t C W hd sc _ g h2)
  | or a b iha ihb =>
    refine noc (fun _ _ _ => by simp [chks]) (fun C W hd sc x g h => ?_) (fun C W hd sc x g h => ?_) (fun C W hd sc tg x g h _ => pi_bad)
    · obtain ⟨y, z, rest, p, rfl, h1, h2⟩ := or_at h
      refine s_orV (iha.v C W hd sc _ g h1) ?_
      cases rest with
      | nil => exact s_one (ihb.v C W hd sc _ g h2)
      | cons _ _ => exact ihb.v C W hd sc _ g h2
    · obtain ⟨y, z, rest, p, rfl, h1, h2⟩ := or_at h
      refine (s_orT (iha.t C W hd sc _ g h1) ?_).pt
      cases rest with
      | nil => exact pw_or1 (ihb.t C W hd sc _ g h2)
      | cons _ _ => exact pw_bool (ihb.t C W hd sc _ g h2)
  | ite c a b ihc iha ihb =>
    refine noc (fun _ _ _ => by simp [chks]) (fun C W hd sc x g h => ?_) (fun C W hd sc x g h => ?_) (fun C W hd sc tg x g h _ => ?_)
    · cases x <;> simp only [chk, Bool.false_eq_true, Bool.and_eq_true] at h
      exact s_ifV (ihc.t C W hd sc _ g h.1.1) (iha.v C W hd sc _ g h.1.2) (ihb.v C W hd sc _ g h.2)
    · cases x <;> simp only [chk, Bool.false_eq_true, Bool.and_eq_true] at h
      exact s_ifT (ihc.t C W hd sc _ g h.1.1) (iha.t C W hd sc _ g h.1.2) (ihb.t C W hd sc _ g h.2)
    · cases x <;> simp only [chk, Bool.false_eq_true, Bool.and_eq_true] at h
      exact s_it (s_ifV (ihc.t C W hd sc _ g h.1.1) (iha.v C W hd sc _ g h.1.2) (ihb.v C W hd sc _ g h.2))
  | cmp o a b iha ihb =>
    refine te rfl (fun _ _ _ => by simp [chks]) (fun C W hd sc x g h => ?_) (fun C W hd sc x g h => ?_)
    · obtain ⟨y, z, p, rfl, h1, h2, h3⟩ := cmp_at h
      exact s_cmpV g.room1 rfl h3 (iha.v C W hd sc _ g h1) (ihb.v C W hd sc _ g h2)
    · obtain ⟨y, z, p, rfl, h1, h2, h3⟩ := cmp_at h
      exact s_cmpT g.room1 rfl h3 (iha.v C W hd sc _ g h1) (ihb.v C W hd sc _ g h2)
  | chain o o' a b c iha ihb ihc =>
    refine te rfl (fun _ _ _ => by simp [chks]) (fun C W hd sc x g h => ?_) (fun C W hd sc x g h => ?_)
    · obtain ⟨y, z, u, p, rfl, h1, h2, h3, h4⟩ := chain_to h
      exact s_chainV g.room1 rfl rfl h4 (iha.v C W hd sc _ g h1) (ihb.v C W hd sc _ g h2) (ihc.v C W hd sc _ g h3)
    · obtain ⟨y, z, u, p, rfl, h1, h2, h3, h4⟩ := chain_to h
      exact s_chainT g.room1 rfl rfl h4 (iha.v C W hd sc _ g h1) (ihb.v C W hd sc _ g h2) (ihc.v C W hd sc _ g h3)
  | isN a iha =>
    refine te rfl (fun _ _ _ => by simp [chks]) (fun C W hd sc x g h => ?_) (fun C W hd sc x g h => ?_)
    · obtain ⟨y, j, p, q, rfl, h1⟩ := isN_at h
      exact s_isNV (iha.v C W hd sc _ g h1)
    · obtain ⟨y, j, p, q, rfl, h1⟩ := isN_at h
      exact s_isNT (iha.v C W hd sc _ g h1)
  | notN a iha =>
    refine te rfl (fun _ _ _ => by simp [chks]) (fun C W hd sc x g h => ?_) (fun C W hd sc x g h => ?_)
    · obtain ⟨y, j, p, q, rfl, h1⟩ := notN_at h
      exact s_notNV (iha.v C W hd sc _ g h1)
    · obtain ⟨y, j, p, q, rfl, h1⟩ := notN_at h
      exact s_notNT (iha.v C W hd sc _ g h1)
  | ix a b iha ihb =>
    refine pl rfl (fun _ _ _ => by simp [chks]) (fun C W hd sc x g h => ?_) (fun hd sc a h env wh => ?_)
    · cases x <;> simp only [chk, Bool.false_eq_true, Bool.and_eq_true] at h
      exact s_ix (slice_ix h.2) (iha.v C W hd sc _ g h.1.1) (ihb.v C W hd sc _ g h.1.2)
    · cases a <;> first | rfl | simp [chk] at h
  | slice a lo hi iha ihl ihh =>
    refine pl rfl (fun _ _ _ => by simp [chks]) (fun C W hd sc x g h => ?_) (fun hd sc a h env wh => ?_)
    · obtain ⟨y, l, u, p, q, rfl, h1, h2, h3⟩ := slice_at h
      refine s_slice (iha.v C W hd sc _ g h1) ?_ ?_
      · cases l with
        | none => exact bnone (ihl.nil hd sc h2)
        | some e => exact ihl.one C W hd sc e g h2
      · cases u with
        | none => exact bnone (ihh.nil hd sc h3)
        | some e => exact ihh.one C W hd sc e g h3
    · cases a <;> first | rfl | simp [chk] at h
  | call f es ih =>
    refine pl rfl (fun _ _ _ => by simp [chks]) (fun C W hd sc x g h => ?_) (fun hd sc a h env wh => ?_)
    · obtain ⟨gg, as, p, rfl, h1, h2, h3, h4⟩ := call_at h
      obtain ⟨q, rfl, g1, g2⟩ := gName_at h1
      obtain ⟨d, hd'⟩ := fs_lookup h4
      exact s_call g hd' (g.gl g1) g2 h3 (chks_star h2) (ih.s C W hd sc _ g h2)
    · cases a <;> first | rfl | simp [chk] at h
  | bi f es ih =>
    refine pl rfl (fun _ _ _ => by simp [chks]) (fun C W hd sc x g h => ?_) (fun hd sc a h env wh => ?_)
    · obtain ⟨gg, as, p, rfl, h1, h2, h3⟩ := bi_at h
      obtain ⟨q, rfl, g1, g2⟩ := gName_at h1
      exact s_bi g.calm (g.gl g1) (g.free _ (bi_free f)) h3 (chks_star h2) (ih.g C W hd sc _ g h2)
    · cases a <;> first | rfl | simp [chk] at h
  | conv t r ih =>
    refine pl rfl (fun _ _ _ => by simp [chks]) (fun C W hd sc x g h => ih.cv C W hd sc t x g h) (fun hd sc a h env wh => ?_)
    · cases a <;> first | rfl | (cases r <;> simp [chk] at h)
  | isi a t iha =>
    refine te rfl (fun _ _ _ => by simp [chks]) (fun C W hd sc x g h => ?_) (fun C W hd sc x g h => ?_)
    · exact isi_v iha g h
    · obtain ⟨y, q, ty, p, rfl, h1, h2, h3, h4⟩ := isi_at h
      have k := s_tru (W := W) (fun _ => rfl) (isi_v iha g h)
      refine k.imp fun σ H Q q => ?_
      obtain ⟨ρ, μ, σp, R, S, q⟩ := q
      refine ⟨ρ, μ, σp, R, S, ?_⟩
      have e : ((((den (wd G (callN G n)) a).a σp μ).bind fun x μ1 => lift (isA μ1 t x) μ1).bind fun b μ1 => .ok (Ag.v (.bl b)) μ1).bind (fun x μ1 => lift (truA μ1 x) μ1) = ((den (wd G (callN G n)) a).a σp μ).bind fun x μ1 => lift (isA μ1 t x) μ1 := by
        rw [Out.bind_assoc]
        simp only [Out.bind_ok]
        generalize ((den (wd G (callN G n)) a).a σp μ).bind (fun x μ1 => lift (isA μ1 t x) μ1) = o
        cases o <;> rfl
      show Out.sat (((((den (wd G (callN G n)) a).a σp μ).bind fun x μ1 => lift (isA μ1 t x) μ1).bind fun b μ1 => .ok (Ag.v (.bl b)) μ1).bind (fun x μ1 => lift (truA μ1 x) μ1)) _ _
      rw [e]
      exact q
  | mt m o es iho ihs =>
    refine pl rfl (fun _ _ _ => by simp [chks]) (fun C W hd sc x g h => ?_) (fun hd sc a h env wh => ?_)
    · obtain ⟨y, p, as, q, rfl, h1, h2, h3, h4, h5⟩ := mt_at h
      refine s_mt h3 h4 (chks_star h2) h5 (fun e => ?_) (iho.v C W hd sc _ g h1) (ihs.g C W hd sc _ g h2)
      subst e
      exact ihs.nil hd sc h2
    · cases a <;> first | rfl | simp [chk] at h
  | app o e iho ihe =>
    refine pl rfl (fun _ _ _ => by simp [chks]) (fun C W hd sc x g h => ?_) (fun hd sc a h env wh => ?_)
    · obtain ⟨y, p, b, q, rfl, h1, h2, h3, h4, h5⟩ := app_at h
      exact s_app h4 h5 h3 (iho.v C W hd sc _ g h1) (s_force (ihe.v C W hd sc _ g h2))
    · cases a <;> first | rfl | simp [chk] at h
  | comp tg it cond elt iht ihc ihe =>
    refine pl rfl (fun _ _ _ => by simp [chks]) (fun C W hd sc x g h => ?_) (fun hd sc a h env wh => ?_)
    · obtain ⟨e, t, i, ifs, scope, p, rfl, h1, h2, h3, h4, h5, h6, h7, h8⟩ := comp_at h
      exact s_comp g h1 h5 h2 (iht.i C W hd sc t i g h3 h4) (fun C' e' g' => by rw [← e']; exact ihc.ts C' _ false _ ifs g' h6 h7) (fun C' e' g' => by rw [← e']; exact s_force (ihe.v C' _ false _ e g' h8))
    · cases a <;> first | rfl | simp [chk] at h
  | rng es ih =>
    have no : ∀ {hd sc as} {P : Prop}, chks N G.fs (.rng es) hd sc as = true → P := fun h => by simp [chks] at h
    refine ⟨fun C W hd sc x g h => pe_bad, fun C W hd sc x g h => pt_bad, fun C W hd sc tg x g h _ => ?_, fun _ _ _ _ _ _ h => no h, fun _ _ _ _ _ _ h => no h, fun _ _ _ _ _ _ h => no h, fun _ _ _ _ _ _ h => no h, fun _ _ h => no h, fun C W hd sc t x g h => ?_, fun _ _ _ h => no h⟩
    · obtain ⟨gg, as, p, rfl, h1, h2, h3⟩ := rngX_at h
      obtain ⟨q, rfl, g1, g2⟩ := gName_at h1
      exact s_rng (g.gl g1) (g.free _ (by decide)) (chks_star h2) h3 (ih.g C W hd sc _ g h2) (ih.ln hd sc _ h2)
    · obtain ⟨es', gg, gg', as, p, q, e, rfl, h1, h2, h3, h4⟩ := conv_at h
      cases e
      obtain ⟨q, rfl, g1, g2⟩ := gName_at h1
      obtain ⟨q', rfl, g1', g2'⟩ := gName_at h2
      exact s_conv g.calm (g.gl g1) (g.free _ (by cases t <;> decide)) (g.gl g1') (g.free _ (by decide)) (chks_star h3) h4 (ih.g C W hd sc _ g h3) (ih.ln hd sc _ h3)
  | enum a iha =>
    refine noc (fun _ _ _ => by simp [chks]) (fun C W hd sc x g h => pe_bad) (fun C W hd sc x g h => pt_bad) (fun C W hd sc tg x g h ht => ?_)
    obtain ⟨gg, y, p, rfl, h1, h2, h3⟩ := enum_at h
    obtain ⟨q, rfl, g1, g2⟩ := gName_at h1
    cases tg <;> first | cases ht | skip
    exact s_enum (g.gl g1) (g.free _ (by decide)) h3 (iha.v C W hd sc _ g h2)
  | zip a b iha ihb =>
    have no : ∀ {hd sc x} {P : Prop}, chk N G.fs (.zip a b) hd sc x = true → P := fun h => by simp [chk] at h
    exact noc (fun _ _ _ => by simp [chks]) (fun C W hd sc x g h => no h) (fun C W hd sc x g h => no h) (fun C W hd sc tg x g h _ => no h)
  | sortSet a iha =>
    refine pl rfl (fun _ _ _ => by simp [chks]) (fun C W hd sc x g h => ?_) (fun hd sc a h env wh => ?_)
    · obtain ⟨gg, gg', y, p, q, rfl, h1, h2, h3, h4⟩ := sortSet_at h
      obtain ⟨q, rfl, g1, g2⟩ := gName_at h1
      obtain ⟨q', rfl, g1', g2'⟩ := gName_at h2
      exact s_sortSet g.calm (g.gl g1) (g.free _ (by decide)) (g.gl g1') (g.free _ (by decide)) h4 (iha.v C W hd sc _ g h3)
    · cases a <;> first | rfl | simp [chk] at h
  | rev a iha =>
    refine pl rfl (fun _ _ _ => by simp [chks]) (fun C W hd sc x g h => ?_) (fun hd sc a h env wh => ?_)
    · obtain ⟨y, k, p1, p2, p3, p, rfl, h3⟩ := rev_at h
      exact s_rev (iha.v C W hd sc _ g h3)
    · obtain ⟨y, k, p1, p2, p3, p, rfl, h3⟩ := rev_at h
      rfl
  | sortL a iha =>
    refine pl rfl (fun _ _ _ => by simp [chks]) (fun C W hd sc x g h => ?_) (fun hd sc a h env wh => ?_)
    · obtain ⟨gg, y, p, rfl, h1, h3, h4⟩ := sortL_at h
      obtain ⟨q, rfl, g1, g2⟩ := gName_at h1
      exact s_sortL (g.gl g1) (g.free _ (by decide)) h4 (iha.v C W hd sc _ g h3)
    · cases a <;> first | rfl | simp [chk] at h
  | heard gg body ih =>
    refine pl rfl (fun _ _ _ => by simp [chks]) (fun C W hd sc x g h => ?_) (fun hd sc a h env wh => ?_)
    · obtain ⟨rfl, f, as, e, scope, p, q, rfl, h1, h2, h3, h4⟩ := heard_at h
      cases hl : G.hrd.lookup gg with
      | none =>
        have ed : (fun σ μ => heardO ((wd G (callN G n)).hrd gg) ((den (wd G (callN G n)) body).f σ μ)) = fun _ _ => .bad := by
          funext σ μ
          show heardO (G.hrd.lookup gg) _ = _
          rw [hl]
          rfl
        rw [ed]
        exact pe_bad
      | some hh' =>
        have ed : (fun σ μ => heardO ((wd G (callN G n)).hrd gg) ((den (wd G (callN G n)) body).f σ μ)) = fun σ μ => told hh' ((den (wd G (callN G n)) body).f σ μ) := by
          funext σ μ
          exact ho hl _
        rw [ed]
        exact hh C W sc gg hh' as e f scope p q _ g hl h1 h2 h4 fun C' W' e' g' => by rw [← e']; exact s_force (ih.v C' W' false scope e g' h3)
    · cases a <;> first | rfl | simp [chk] at h
end
end Ev

set_option Elab.async false
set_option linter.all false
set_option maxRecDepth 100000
namespace Ev
open PySem PySem.Spec PyProof.Rows L2
theorem swL {sc : Scope} {env : Env} {N : List Str} {tg : Tg} {t v : Expr} {line : Nat} (he : env.scope = sc) (hk : sc.kind = .function) (ht : chkT N sc tg t = true) (h : plainB sc t v = true) :
    swapsWithSole [t] v line env = pure false ∧ swappedStores [t] v env = pure none ∧ (assignEach [t] env).map (·.2) = [assign t env] := by
  subst he
  cases t <;> try (cases tg <;> simp only [chkT, Bool.false_eq_true] at ht; done)
  · -- a name
    rename_i x q
    refine ⟨?_, rfl, rfl⟩
    by_cases hv : ∃ e g s p, v = .ListComp e g s p
    · obtain ⟨e, g, s, p, rfl⟩ := hv
      simp only [plainB, Bool.not_eq_true'] at h
      show pure (env.blockKind == .function && env.kindOf x == some .local && q.line == p.line && !(s.names.any fun (n, k) => n == x && (k == .local || k == .cell))) = _
      have e2 : (env.kindOf x == some .local) = decide (env.scope.names.lookup x = some .local) := by
        unfold Env.kindOf
        by_cases h : env.scope.names.lookup x = some .local
        · rw [h]; rfl
        · rw [decide_eq_false h]; exact beq_false_of_ne h
      rw [e2]
      congr 1
      rw [Bool.and_assoc, Bool.and_assoc]
      rw [Bool.and_assoc] at h
      rw [h, Bool.and_false]
    · have hn : noComp v = true := by
        cases v <;> first | exact h | exact absurd ⟨_, _, _, _, rfl⟩ hv
      cases v <;> first | rfl | cases hn
  · rename_i ts k p
    refine ⟨by cases v <;> rfl, ?_, rfl⟩
    cases v <;> try rfl
    rename_i vs k2 p2
    have hf : (vs.all (foldedForSure 8) || (ts.filterMap fun | .Name id pos => if env.kindOf id == some .local && pos.line == (ts.head?.map (·.pos.line)).getD 0 then some id else none | _ => none).length != ts.length) = true := h
    rcases (Bool.or_eq_true _ _).mp hf with hf | hf
    · unfold swappedStores
      simp only [hf]
      repeat (first | rfl | split)
    · unfold swappedStores
      dsimp only
      repeat (first | rfl | split)
      all_goals first
        | (rename_i q1 q2 q3; exact absurd ((Bool.or_eq_true _ _).mpr (.inl hf)) q1)
        | (rename_i q1 q2 q3; exact absurd ((Bool.or_eq_true _ _).mpr (.inl hf)) q2)
        | (rename_i q1 q2 q3; exact absurd ((Bool.or_eq_true _ _).mpr (.inl hf)) q3)
theorem swSwap {sc : Scope} {env : Env} {e : Expr} {g : List Comprehension} {s : Scope} {p q : Pos} {x : Str} {line : Nat} (he : env.scope = sc) (hk : sc.kind = .function) (h : swapB sc (.Name x q) (.ListComp e g s p) = true) :
    env.scope.names.lookup x = some .local ∧ swapsWith (.ListComp e g s p) (some (.Name x q)) line env = pure true := by
  subst he
  simp only [swapB, Bool.and_eq_true, decide_eq_true_eq] at h
  refine ⟨h.1.1, ?_⟩
  show pure (env.blockKind == .function && env.kindOf x == some .local && q.line == p.line && !(s.names.any fun (n, k) => n == x && (k == .local || k == .cell))) = _
  have e1 : env.blockKind = .function := by
    unfold Env.blockKind
    rw [hk]
    rfl
  have e2 : env.kindOf x = some .local := h.1.1
  rw [e1, e2, h.1.2, h.2]
  rfl
theorem bk_fn {env : Env} (hk : env.scope.kind = .function) : env.blockKind = .function := by
  unfold Env.blockKind
  rw [hk]
  rfl
theorem starB {vs : List Expr} (h : vs.all noStar = true) : (vs.any fun | .Starred .. => true | _ => false) = false := by
  induction vs with
  | nil => rfl
  | cons v r ih =>
    simp only [List.all_cons, Bool.and_eq_true] at h
    rw [List.any_cons, ih h.2, Bool.or_false]
    have h1 := h.1
    cases v <;> first | rfl | cases h1
theorem nodup_ne : ∀ {N : List Str} (nd : N.Nodup) {m n : Nat} {x y : Str} (ex : N[m]? = some x) (ey : N[n]? = some y) (hn : m ≠ n), x ≠ y
  | [], _, _, _, _, _, ex, _, _ => by simp at ex
  | a :: N, nd, 0, 0, _, _, _, _, hn => absurd rfl hn
  | a :: N, nd, 0, n + 1, x, y, ex, ey, _ => by
    simp only [List.getElem?_cons_zero, Option.some.injEq] at ex
    simp only [List.getElem?_cons_succ] at ey
    subst ex
    intro z
    subst z
    exact (List.nodup_cons.mp nd).1 (List.mem_of_getElem? ey)
  | a :: N, nd, m + 1, 0, x, y, ex, ey, _ => by
    simp only [List.getElem?_cons_zero, Option.some.injEq] at ey
    simp only [List.getElem?_cons_succ] at ex
    subst ey
    intro z
    subst z
    exact (List.nodup_cons.mp nd).1 (List.mem_of_getElem? ex)
  | a :: N, nd, m + 1, n + 1, x, y, ex, ey, hn => by
    simp only [List.getElem?_cons_succ] at ex ey
    exact nodup_ne (List.nodup_cons.mp nd).2 ex ey fun z => hn (by rw [z])
theorem swPar2 {sc : Scope} {env : Env} {N : List Str} {i j : Nat} {ts : List Expr} {vs : List Expr} (he : env.scope = sc) (h : parB sc N [i, j] ts vs = true) :
    ∃ x y px py a b, ts = [.Name x px, .Name y py] ∧ vs = [a, b] ∧ N[i]? = some x ∧ N[j]? = some y ∧ i ≠ j ∧ env.scope.names.lookup x = some .local ∧ env.scope.names.lookup y = some .local ∧
      ∀ k p k2 p2, N.Nodup → swappedStores [.Tuple [.Name x px, .Name y py] k p] (.Tuple [a, b] k2 p2) env = pure (some [x, y]) := by
  subst he
  simp only [parB, Bool.and_eq_true, decide_eq_true_eq, Bool.not_eq_true'] at h
  obtain ⟨⟨⟨⟨⟨⟨⟨h1, h2⟩, h3⟩, h4⟩, h5⟩, h6⟩, h7⟩, h8⟩ := h
  match ts, vs, h6, h7 with
  | [t, u], [a, b], _, _ =>
    simp only [List.zip_cons_cons, List.zip_nil_right, List.all_cons, List.all_nil, Bool.and_true, Bool.and_eq_true] at h8
    obtain ⟨h8, h9⟩ := h8
    obtain ⟨x, px, rfl⟩ : ∃ x px, t = .Name x px := by cases t <;> first | exact ⟨_, _, rfl⟩ | cases h8
    obtain ⟨y, py, rfl⟩ : ∃ x px, u = .Name x px := by cases u <;> first | exact ⟨_, _, rfl⟩ | cases h9
    simp only [Bool.and_eq_true, decide_eq_true_eq, List.head?_cons, Option.map_some, Option.getD_some] at h8 h9
    have hij : i ≠ j := by
      intro z
      simp [z] at h5
    refine ⟨x, y, px, py, a, b, rfl, rfl, h8.1.1, h9.1.1, hij, h8.1.2, h9.1.2, fun k p k2 p2 nd => ?_⟩
    have hxy : x ≠ y := nodup_ne nd h8.1.1 h9.1.1 hij
    have e1 : env.kindOf x = some .local := h8.1.2
    have e2 : env.kindOf y = some .local := h9.1.2
    have hs := starB h4
    have hd : [x, y].eraseDups = [x, y] := by
      simp [List.eraseDups_cons, Ne.symm hxy, hxy]
    unfold swappedStores
    have g1 : (Pos.line px == px.line) = true := by simp
    have g2 : (Expr.pos (.Name x px)) = px := rfl
    rw [g2] at h9
    have g3 : (py.line == px.line) = true := h9.2
    simp only [bk_fn h1, hs, h2, h3, List.length_cons, List.length_nil, List.filterMap_cons, List.filterMap_nil, e1, e2, List.head?_cons, Option.map_some, Option.getD_some, g2, g1, g3]
    simp [hd]
    intro z
    exfalso
    simp only [List.all_cons, Bool.and_eq_true] at h4
    rcases z with z | z
    · have w := h4.1
      cases a <;> first | (cases z; done) | (simp [noStar] at w; done) | (simp at z; done)
    · have w := h4.2.1
      cases b <;> first | (cases z; done) | (simp [noStar] at w; done) | (simp at z; done)
theorem swPar3 {sc : Scope} {env : Env} {N : List Str} {i j l : Nat} {ts : List Expr} {vs : List Expr} (he : env.scope = sc) (h : parB sc N [i, j, l] ts vs = true) :
    ∃ x y z px py pz a b c, ts = [.Name x px, .Name y py, .Name z pz] ∧ vs = [a, b, c] ∧ N[i]? = some x ∧ N[j]? = some y ∧ N[l]? = some z ∧ i ≠ j ∧ i ≠ l ∧ j ≠ l ∧ env.scope.names.lookup x = some .local ∧ env.scope.names.lookup y = some .local ∧ env.scope.names.lookup z = some .local ∧
      ∀ k p k2 p2, N.Nodup → swappedStores [.Tuple [.Name x px, .Name y py, .Name z pz] k p] (.Tuple [a, b, c] k2 p2) env = pure (some [x, y, z]) := by
  subst he
  simp only [parB, Bool.and_eq_true, decide_eq_true_eq, Bool.not_eq_true'] at h
  obtain ⟨⟨⟨⟨⟨⟨⟨h1, h2⟩, h3⟩, h4⟩, h5⟩, h6⟩, h7⟩, h8⟩ := h
  match ts, vs, h6, h7 with
  | [t, u, v], [a, b, c], _, _ =>
    simp only [List.zip_cons_cons, List.zip_nil_right, List.all_cons, List.all_nil, Bool.and_true, Bool.and_eq_true] at h8
    obtain ⟨h8, h9, h10⟩ := h8
    obtain ⟨x, px, rfl⟩ : ∃ x px, t = .Name x px := by cases t <;> first | exact ⟨_, _, rfl⟩ | cases h8
    obtain ⟨y, py, rfl⟩ : ∃ x px, u = .Name x px := by cases u <;> first | exact ⟨_, _, rfl⟩ | cases h9
    obtain ⟨z, pz, rfl⟩ : ∃ x px, v = .Name x px := by cases v <;> first | exact ⟨_, _, rfl⟩ | cases h10
    simp only [Bool.and_eq_true, decide_eq_true_eq, List.head?_cons, Option.map_some, Option.getD_some] at h8 h9 h10
    have hij : i ≠ j ∧ i ≠ l ∧ j ≠ l := by
      simp at h5
      exact ⟨h5.1.1, h5.1.2, h5.2⟩
    refine ⟨x, y, z, px, py, pz, a, b, c, rfl, rfl, h8.1.1, h9.1.1, h10.1.1, hij.1, hij.2.1, hij.2.2, h8.1.2, h9.1.2, h10.1.2, fun k p k2 p2 nd => ?_⟩
    have hxy := nodup_ne nd h8.1.1 h9.1.1 hij.1
    have hxz := nodup_ne nd h8.1.1 h10.1.1 hij.2.1
    have hyz := nodup_ne nd h9.1.1 h10.1.1 hij.2.2
    have e1 : env.kindOf x = some .local := h8.1.2
    have e2 : env.kindOf y = some .local := h9.1.2
    have e3 : env.kindOf z = some .local := h10.1.2
    have hd : [x, y, z].eraseDups = [x, y, z] := by
      simp [List.eraseDups_cons, Ne.symm hxy, hxy, Ne.symm hxz, Ne.symm hyz]
    unfold swappedStores
    have g1 : (Pos.line px == px.line) = true := by simp
    have g2 : (Expr.pos (.Name x px)) = px := rfl
    rw [g2] at h9 h10
    have g3 : (py.line == px.line) = true := h9.2
    have g4 : (pz.line == px.line) = true := h10.2
    simp only [bk_fn h1, h2, h3, List.length_cons, List.length_nil, List.filterMap_cons, List.filterMap_nil, e1, e2, e3, List.head?_cons, Option.map_some, Option.getD_some, g2, g1, g3, g4]
    simp [hd]
    intro z
    exfalso
    simp only [List.all_cons, Bool.and_eq_true] at h4
    rcases z with z | z | z
    · have w := h4.1
      cases a <;> first | (cases z; done) | (simp [noStar] at w; done) | (simp at z; done)
    · have w := h4.2.1
      cases b <;> first | (cases z; done) | (simp [noStar] at w; done) | (simp at z; done)
    · have w := h4.2.2.1
      cases c <;> first | (cases z; done) | (simp [noStar] at w; done) | (simp at z; done)

open Classical
variable [Tb]
/-! ### statements -/
/-- the end of a def: what leaves goes out -/
abbrev WE (E : XK) : WX := fun cls d _ H => E cls d H
def flR (K : PySem.W.Frag) (D : Ends) (ρ : List Addr) (H : Hp) : Fl → Prop
  | .nx σ1 => ∀ σ', RS K ρ H σ1 σ' → D.nx σ' H
  | .rt p => ∀ v, RV K ρ H p v → D.rt v H
  | .bk σ1 => ∀ σ', RS K ρ H σ1 σ' → D.bk σ' H
  | .ct σ1 => ∀ σ', RS K ρ H σ1 σ' → D.ct σ' H
def tZ (K : PySem.W.Frag) (E : XK) (d : Sg → Mu → Out Fl) : TS := fun D σ H => ∃ ρ μ σp, Rel K ρ μ H ∧ RS K ρ H σp σ ∧ (d σp μ).sat (fun f μ' => ∀ ρ' H', Post K ρ H ρ' μ' H' → flR K D ρ' H' f) (EXC K (WE E) ρ H σ)
theorem _root_.L2.PS.imp {C : Cx} {st : Stmt} {t t' : TS} (h : PS C st t) (hi : ∀ D σ H, t' D σ H → t D σ H) : PS C st t' := ⟨fun pins s σ H D I q => h.run pins s σ H D I (hi D σ H q)⟩
theorem _root_.L2.PSs.imp {C : Cx} {sts : List Stmt} {t t' : TS} (h : PSs C sts t) (hi : ∀ D σ H, t' D σ H → t D σ H) : PSs C sts t' := ⟨fun pins s σ H D I q => h.run pins s σ H D I (hi D σ H q)⟩
section
variable {C : Cx} {E : XK} {N : List Str} {sc : Scope} {G : Gm} {n : Nat} {hd : Bool} {fs : List String}
theorem EXC.st {K : PySem.W.Frag} {ρ : List Addr} {H : Hp} {σ : L2.St} (σ' : L2.St) {c : String} {w : PV} {μ : Mu} (h : EXC K (WE E) ρ H σ c w μ) : EXC K (WE E) ρ H σ' c w μ := h
/-- from a state that comes behind, to the same ends -/
theorem z_next {K : PySem.W.Frag} {ρ ρ1 : List Addr} {μ1 : Mu} {H H1 : Hp} {σ σ1 : L2.St} {σp : Sg} {D : Ends} {d : Sg → Mu → Out Fl} (P1 : Post K ρ H ρ1 μ1 H1) (S : RS K ρ1 H1 σp σ1) {P : Fl → Mu → Prop} (q : (d σp μ1).sat P (EXC K (WE E) ρ H σ))
    (k : ∀ f μ2 ρ2 H2, Post K ρ1 H1 ρ2 μ2 H2 → P f μ2 → flR K D ρ2 H2 f) : tZ K E d D σ1 H1 :=
  ⟨ρ1, μ1, σp, P1.rel, S, sat_mono q (fun f μ2 h ρ2 H2 P2 => k f μ2 ρ2 H2 P2 h) fun _ _ _ e => EXC.st σ1 (e.post P1)⟩
theorem z_nil : PSs C [] (tZ C.K E fun σ μ => .ok (.nx σ) μ) := pss_nil.imp fun D σ H q => by
  obtain ⟨ρ, μ, σp, R, S, q⟩ := q
  exact q ρ H (Post.refl R) σ S
theorem z_pass {p : Pos} : PS C (.Pass p) (tZ C.K E fun σ μ => .ok (.nx σ) μ) := ps_pass.imp fun D σ H q => by
  obtain ⟨ρ, μ, σp, R, S, q⟩ := q
  exact q ρ H (Post.refl R) σ S
theorem z_brk {p : Pos} : PS C (.Break p) (tZ C.K E fun σ μ => .ok (.bk σ) μ) := ps_break.imp fun D σ H q => by
  obtain ⟨ρ, μ, σp, R, S, q⟩ := q
  exact q ρ H (Post.refl R) σ S
theorem z_cont {p : Pos} : PS C (.Continue p) (tZ C.K E fun σ μ => .ok (.ct σ) μ) := ps_continue.imp fun D σ H q => by
  obtain ⟨ρ, μ, σp, R, S, q⟩ := q
  exact q ρ H (Post.refl R) σ S
theorem z_retN {p : Pos} : PS C (.Return none p) (tZ C.K E fun σ μ => .ok (.rt .non) μ) := ps_retN.imp fun D σ H q => by
  obtain ⟨ρ, μ, σp, R, S, q⟩ := q
  exact q ρ H (Post.refl R) .non (by simp [RV])
theorem z_ret {a : Expr} {p : Pos} {d : Sg → Mu → Out PV} (ha : PE C a (tF C.K (WE E) d)) : PS C (.Return (some a) p) (tZ C.K E fun σ μ => (d σ μ).bind fun p μ1 => .ok (.rt p) μ1) := (ps_ret ha).imp fun D σ H q => by
  obtain ⟨ρ, μ, σp, R, S, q⟩ := q
  dsimp only [tIfS, tDrop, tAsg, tPar, tPar3, gSub, tRet, rSetL]
  exact tX_step R (Post.refl R) S q fun x μ1 ρ1 v H1 P1 r q => q ρ1 H1 P1 v r
theorem z_seq {st : Stmt} {sts : List Stmt} {d e : Sg → Mu → Out Fl} (h1 : PS C st (tZ C.K E d)) (h2 : PSs C sts (tZ C.K E e)) : PSs C (st :: sts) (tZ C.K E fun σ μ => (d σ μ).bind fun f μ1 => f.then (fun σ μ => e σ μ) μ1) := (pss_cons h1 h2).imp fun D σ H q => by
  obtain ⟨ρ, μ, σp, R, S, q⟩ := q
  refine ⟨ρ, μ, σp, R, S, sat_mono (sat_bind q) (fun f μ1 q ρ1 H1 P1 => ?_) fun _ _ _ e => e⟩
  cases f with
  | nx σ1 => exact fun σ' S' => z_next (σ := σ) P1 S' q fun f μ2 ρ2 H2 P2 h => h ρ2 H2 (P1.trans P2)
  | rt p => exact q ρ1 H1 P1
  | bk σ1 => exact q ρ1 H1 P1
  | ct σ1 => exact q ρ1 H1 P1
theorem z_if {c : Expr} {as bs : List Stmt} {p : Pos} {tc : Sg → Mu → Out Bool} {d e : Sg → Mu → Out Fl} (hc : PT C c (tT C.K (WE E) tc)) (h1 : PSs C as (tZ C.K E d)) (h2 : PSs C bs (tZ C.K E e)) :
    PS C (.If c as bs p) (tZ C.K E fun σ μ => (tc σ μ).bind fun k μ1 => if k = true then d σ μ1 else e σ μ1) := (ps_if hc h1 h2).imp fun D σ H q => by
  obtain ⟨ρ, μ, σp, R, S, q⟩ := q
  dsimp only [tIfS, tDrop, tAsg, tPar, tPar3, gSub, tRet, rSetL]
  refine tX_step R (Post.refl R) S q fun x μ1 ρ1 v H1 P1 r q => ?_
  subst r
  have S1 := S.las (P1.las R)
  cases x with
  | true => exact it_t (z_next (σ := σ) P1 S1 q fun f μ2 ρ2 H2 P2 h => h ρ2 H2 (P1.trans P2))
  | false => exact it_f (z_next (σ := σ) P1 S1 q fun f μ2 ρ2 H2 P2 h => h ρ2 H2 (P1.trans P2))
theorem z_expr {a : Expr} {p : Pos} {d : Sg → Mu → Out Ag} (hn : noComp a = true) (ha : PE C a (tA C.K (WE E) d)) : PS C (.Expr a p) (tZ C.K E fun σ μ => (d σ μ).bind fun _ μ1 => .ok (.nx σ) μ1) := by
  refine (ps_expr ha (by cases a <;> first | rfl | cases hn)).imp fun D σ H q => ?_
  obtain ⟨ρ, μ, σp, R, S, q⟩ := q
  dsimp only [tIfS, tDrop, tAsg, tPar, tPar3, gSub, tRet, rSetL]
  exact tX_step R (Post.refl R) S q fun x μ1 ρ1 v H1 P1 r q => q ρ1 H1 P1 σ (S.las (P1.las R))
theorem z_asg {tg : Tg} {t v : Expr} {p : Pos} {d : Sg → Mu → Out PV} (g : Good G n N hd sc (WE E) C) (hst : Sto sc C) (hk : sc.kind = .function) (ht : chkT N sc tg t = true) (hp : plainB sc t v = true) (hv : PE C v (tF C.K (WE E) d)) :
    PS C (.Assign [t] v p) (tZ C.K E fun σ μ => (d σ μ).bind fun p μ1 => (lift (tg.put p σ) μ1).bind fun σ1 μ1 => .ok (.nx σ1) μ1) := by
  obtain ⟨w1, w2, w3⟩ := swL (line := p.line) g.hsc hk ht hp
  refine (ps_asg hv (tg_ok g hst tg t ht) w1 w2 w3).imp fun D σ H q => ?_
  obtain ⟨ρ, μ, σp, R, S, q⟩ := q
  dsimp only [tIfS, tDrop, tAsg, tPar, tPar3, gSub, tRet, rSetL]
  refine tX_step R (Post.refl R) S q fun x μ1 ρ1 v H1 P1 r q => ?_
  obtain ⟨σ1, e, q⟩ := sat_lift (sat_bind q)
  exact ⟨ρ1, μ1, σp, x, σ1, P1.rel, S.las (P1.las R), r, e, fun σ' S' _ => q ρ1 H1 P1 σ' S'⟩
theorem z_par2 {i j : Nat} {ts vs : List Expr} {k1 k2 : Nat} {p1 p2 p : Pos} {a b : X} (g : Good G n N hd sc (WE E) C) (h : parB sc N [i, j] ts vs = true) (hv : PA C vs (tS C.K (WE E) (den (wd G (callN G n)) (.cons a (.cons b .nil))).s)) :
    PS C (.Assign [.Tuple ts k1 p1] (.Tuple vs k2 p2) p) (tZ C.K E (ex (wd G (callN G n)) (.par2 i j a b))) := by
  obtain ⟨x, y, px, py, a', b', rfl, rfl, h1, h2, h3, h4, h5, h6⟩ := swPar2 g.hsc h
  have hnd : C.N.Nodup := by rw [g.hN]; exact g.nd
  refine (ps_par g.calm hnd (by rw [g.hN]; exact h1) (by rw [g.hN]; exact h2) h3 h4 h5 hv (h6 _ _ _ _ g.nd)).imp fun D σ H q => ?_
  obtain ⟨ρ, μ, σp, R, S, q⟩ := q
  have ed : ex (wd G (callN G n)) (.par2 i j a b) σp μ = ((den (wd G (callN G n)) (.cons a (.cons b .nil))).s σp μ).bind fun xs μ2 => match xs with
      | [x, y] => .ok (.nx ((σp.set i (some x)).set j (some y))) μ2
      | _ => .bad := by
    show ((den (wd G (callN G n)) a).f σp μ).bind _ = (((den (wd G (callN G n)) a).f σp μ).bind _).bind _
    rw [Out.bind_assoc]
    congr 1
    funext x μ1
    show ((den (wd G (callN G n)) b).f σp μ1).bind _ = ((((den (wd G (callN G n)) b).f σp μ1).bind _).bind _).bind _
    rw [Out.bind_assoc, Out.bind_assoc]
    rfl
  rw [ed] at q
  dsimp only [tIfS, tDrop, tAsg, tPar, tPar3, gSub, tRet, rSetL]
  refine tX_step R (Post.refl R) S q fun xs μ1 ρ1 vs H1 P1 r q => ?_
  match xs, r, q with
  | [u, w], r, q =>
    obtain ⟨y1, r1, e1, s1, y2, r2, e2, s2, e3⟩ := r
    have e3' : r2 = [] := e3
    subst e3' e2 e1
    exact ⟨y1, y2, rfl, q ρ1 H1 P1 _ (((S.las (P1.las R)).set s1 i).set s2 j)⟩
  | [], _, q => exact q.elim
  | [_], _, q => exact q.elim
  | _ :: _ :: _ :: _, _, q => exact q.elim
theorem z_par3 {i j l : Nat} {ts vs : List Expr} {k1 k2 : Nat} {p1 p2 p : Pos} {a b c : X} (g : Good G n N hd sc (WE E) C) (h : parB sc N [i, j, l] ts vs = true) (hv : PA C vs (tS C.K (WE E) (den (wd G (callN G n)) (.cons a (.cons b (.cons c .nil)))).s)) :
    PS C (.Assign [.Tuple ts k1 p1] (.Tuple vs k2 p2) p) (tZ C.K E (ex (wd G (callN G n)) (.par3 i j l a b c))) := by
  obtain ⟨x, y, z, px, py, pz, a', b', c', rfl, rfl, h1, h2, h3, i1, i2, i3, h4, h5, h6, h7⟩ := swPar3 g.hsc h
  have hnd : C.N.Nodup := by rw [g.hN]; exact g.nd
  refine (ps_par3 g.calm hnd (by rw [g.hN]; exact h1) (by rw [g.hN]; exact h2) (by rw [g.hN]; exact h3) i1 i2 i3 h4 h5 h6 hv (h7 _ _ _ _ g.nd)).imp fun D σ H q => ?_
  obtain ⟨ρ, μ, σp, R, S, q⟩ := q
  have ed : ex (wd G (callN G n)) (.par3 i j l a b c) σp μ = ((den (wd G (callN G n)) (.cons a (.cons b (.cons c .nil)))).s σp μ).bind fun xs μ2 => match xs with
      | [x, y, z] => .ok (.nx (((σp.set i (some x)).set j (some y)).set l (some z))) μ2
      | _ => .bad := by
    show ((den (wd G (callN G n)) a).f σp μ).bind _ = (((den (wd G (callN G n)) a).f σp μ).bind _).bind _
    rw [Out.bind_assoc]
    congr 1
    funext x μ1
    show ((den (wd G (callN G n)) b).f σp μ1).bind _ = ((((den (wd G (callN G n)) b).f σp μ1).bind _).bind _).bind _
    rw [Out.bind_assoc, Out.bind_assoc]
    congr 1
    funext y μ2
    show ((den (wd G (callN G n)) c).f σp μ2).bind _ = ((((den (wd G (callN G n)) c).f σp μ2).bind _).bind _).bind _
    rw [Out.bind_assoc, Out.bind_assoc]
    rfl
  rw [ed] at q
  dsimp only [tIfS, tDrop, tAsg, tPar, tPar3, gSub, tRet, rSetL]
  refine tX_step R (Post.refl R) S q fun xs μ1 ρ1 vs H1 P1 r q => ?_
  match xs, r, q with
  | [u, w, t], r, q =>
    obtain ⟨y1, r1, e1, s1, y2, r2, e2, s2, y3, r3, e3, s3, e4⟩ := r
    have e4' : r3 = [] := e4
    subst e4' e3 e2 e1
    exact ⟨y1, y2, y3, rfl, q ρ1 H1 P1 _ ((((S.las (P1.las R)).set s1 i).set s2 j).set s3 l)⟩
  | [], _, q => exact q.elim
  | [_], _, q => exact q.elim
  | [_, _], _, q => exact q.elim
  | _ :: _ :: _ :: _ :: _, _, q => exact q.elim
theorem z_setIx {a b v : Expr} {p1 p : Pos} {do_ di : Sg → Mu → Out Ag} {d : Sg → Mu → Out PV} (hn : noSlice b = true) (ha : PE C a (tA C.K (WE E) do_)) (hb : PE C b (tA C.K (WE E) di)) (hv : PE C v (tF C.K (WE E) d)) :
    PS C (.Assign [.Subscript a b p1] v p) (tZ C.K E fun σ μ => (d σ μ).bind fun p μ1 => (do_ σ μ1).bind fun x μ2 => (di σ μ2).bind fun y μ3 => liftU (setIxA x y p μ3) σ) := by
  refine (ps_asg hv (pg_sub ha hb set_list (by cases b <;> first | (intro _; rfl) | cases hn)) (by cases v <;> rfl) (by cases v <;> rfl) rfl).imp fun D σ H q => ?_
  obtain ⟨ρ, μ, σp, R, S, q⟩ := q
  dsimp only [tIfS, tDrop, tAsg, tPar, tPar3, gSub, tRet, rSetL]
  refine tX_step R (Post.refl R) S q fun x μ1 ρ1 v H1 P1 r1 q => ?_
  have S1 := S.las (P1.las R)
  refine tX_step P1.rel P1 S1 q fun y μ2 ρ2 w H2 P2 r2 q => ?_
  have P12 := P1.trans P2
  refine tX_step P2.rel P12 (S1.las (P2.las P1.rel)) q fun z μ3 ρ3 u H3 P3 r3 q => ?_
  have P123 := P12.trans P3
  cases y with
  | l _ => exact False.elim q
  | v py =>
    cases py with
    | ref m =>
      cases z with
      | l _ => exact False.elim q
      | v pz =>
        cases pz with
        | int k =>
          unfold setIxA at q
          dsimp only at q
          cases hm : μ3[m]? with
          | none => rw [hm] at q; exact False.elim q
          | some mo =>
            rw [hm] at q
            cases mo with
            | dct _ => exact False.elim q
            | lst xs =>
              dsimp only at q
              cases hj : ixN xs.length k with
              | none => rw [hj] at q; exact False.elim q
              | some j =>
                rw [hj] at q
                have r2' := (r2.post P2.rel P3)
                obtain ⟨l, e1, e2⟩ := r2'
                obtain ⟨l', e2', ys, hy, rs⟩ := P3.rel.at_ m _ hm
                rw [e2] at e2'
                cases e2'
                subst e1
                have hk : u = .int k := r3
                subst hk
                have rx : RV C.K ρ3 H3 x v := RV.las (P3.las P2.rel) _ _ (RV.las (P2.las P1.rel) _ _ r1)
                refine ⟨l, ys, k, j, rfl, rfl, hy, by rw [← rs.length]; exact hj, ?_⟩
                have PW := Post.write P3.rel e2 (rs.set j rx)
                exact q ρ3 _ (P123.trans PW) σ (S.las ((P123.trans PW).las R))
        | _ => exact False.elim q
    | _ => exact False.elim q
end
end Ev

set_option Elab.async false
set_option linter.all false
set_option maxRecDepth 100000
/-! EvO: loops, raise, and every checked statement. Own work. -/
namespace Ev
open PySem PySem.Spec PyProof.Rows L2
open Classical
variable [Tb]
section
variable {C : Cx} {E : XK} {N : List Str} {sc : Scope} {G : Gm} {n : Nat} {hd : Bool} {fs : List String}
theorem z_for {t it : Expr} {bs : List Stmt} {p : Pos} {tg : Tg} {dit : Sg → Mu → Out Its} {d : Sg → Mu → Out Fl} (g : Good G n N hd sc (WE E) C) (hp : PassesOwn (model C.prog C.w) C.A C.env C.xe) (hst : Sto sc C) (ht : chkT N sc tg t = true) (hns : noSet it = true)
    (hi : PI C t it (tI C.K (WE E) dit)) (hb : PSs C bs (tZ C.K E d)) :
    PS C (.For t it bs [] p) (tZ C.K E fun σ μ => (dit σ μ).bind fun xs μ1 => forLoop μ1 xs.2 (fun x σ μ => (lift (tg.put x σ) μ).bind fun σ1 μ => d σ1 μ) xs.1 σ μ1) := by
  refine (ps_for hp g.calm hi (tg_ok g hst tg t ht) hb (fun x => by cases it <;> first | rfl | cases hns)).imp fun D σ H q => ?_
  obtain ⟨ρ, μ, σp, R, S, q⟩ := q
  dsimp only [tFor]
  refine tX_step R (Post.refl R) S q fun its μ1 ρ1 J H1 P1 wk q => ?_
  refine ⟨fun i m σi Hi => m = its.1.length - i ∧ i ≤ its.1.length ∧ ∃ ρi μi σq, Post C.K ρ1 H1 ρi μi Hi ∧ RS C.K ρi Hi σq σi ∧
      (forLoop μ1 its.2 (fun x σ μ => (lift (tg.put x σ) μ).bind fun σ1 μ => d σ1 μ) (its.1.drop i) σq μi).sat (fun f μ' => ∀ ρ' H', Post C.K ρ H ρ' μ' H' → flR C.K D ρ' H' f) (EXC C.K (WE E) ρ H σ),
    ⟨its.1.length, by simp, Nat.zero_le _, ρ1, μ1, σp, Post.refl P1.rel, S.las (P1.las R), q⟩, ?_⟩
  rintro i m σi Hi ⟨hm, hi2, ρi, μi, σq, Pi, Si, q⟩
  by_cases hend : i = its.1.length
  · subst hend
    rw [List.drop_length] at q
    simp only [forLoop] at q
    obtain ⟨st, q⟩ := sat_if q
    exact .inl ⟨(wk ρi μi Hi Pi st).2.1, q ρi Hi (P1.trans Pi) σi Si⟩
  · have hlt : i < its.1.length := by omega
    rw [List.drop_eq_getElem_cons hlt] at q
    simp only [forLoop] at q
    obtain ⟨st, q⟩ := sat_if q
    obtain ⟨w1, _, w3⟩ := wk ρi μi Hi Pi st
    refine .inr ⟨w1 i hlt, fun σ' H' => ∃ ρ' μ' σq', Post C.K ρ1 H1 ρ' μ' H' ∧ RS C.K ρ' H' σq' σ' ∧
        (forLoop μ1 its.2 (fun x σ μ => (lift (tg.put x σ) μ).bind fun σ1 μ => d σ1 μ) (its.1.drop (i + 1)) σq' μ').sat (fun f μ' => ∀ ρ' H', Post C.K ρ H ρ' μ' H' → flR C.K D ρ' H' f) (EXC C.K (WE E) ρ H σ),
      fun σ' H' hN => ⟨its.1.length - (i + 1), by omega, rfl, by omega, hN⟩, fun x H' hy => ?_⟩
    obtain ⟨y, hp2, rp, Py⟩ := w3 i x H' hlt hy
    rw [List.getElem?_eq_getElem hlt] at hp2
    cases hp2
    have Piy := Pi.trans Py
    obtain ⟨σ1, eσ, q⟩ := sat_lift (sat_bind (sat_bind q))
    refine ⟨ρi, μi, σq, _, σ1, Py.rel, Si.las (Py.las Pi.rel), rp, eσ, fun σ' S' K' => ?_⟩
    refine z_next (σ := σ) (P1.trans Piy) S' q ?_
    intro f μ2 ρ2 H2 P2 q
    have P02 := Piy.trans P2
    cases f with
    | nx σ2 => exact fun σ'' S'' => ⟨ρ2, μ2, σ2, P02, S'', q⟩
    | ct σ2 => exact fun σ'' S'' => ⟨ρ2, μ2, σ2, P02, S'', q⟩
    | bk σ2 => exact q ρ2 H2 (P1.trans P02)
    | rt p => exact q ρ2 H2 (P1.trans P02)
theorem z_while {c : Expr} {bs : List Stmt} {p : Pos} {tc : Sg → Mu → Out Bool} {d : Sg → Mu → Out Fl} {fuel : Nat} (hp : PassesOwn (model C.prog C.w) C.A C.env C.xe) (hc : PT C c (tT C.K (WE E) tc)) (hb : PSs C bs (tZ C.K E d)) :
    PS C (.While c bs [] p) (tZ C.K E fun σ μ => whileLoop tc d fuel σ μ) := by
  refine (ps_while hp hc hb).imp fun D σ H q => ?_
  obtain ⟨ρ, μ, σp, R, S, q⟩ := q
  refine ⟨fun m σi Hi => ∃ ρi μi σq, Post C.K ρ H ρi μi Hi ∧ RS C.K ρi Hi σq σi ∧ (whileLoop tc d m σq μi).sat (fun f μ' => ∀ ρ' H', Post C.K ρ H ρ' μ' H' → flR C.K D ρ' H' f) (EXC C.K (WE E) ρ H σ),
    ⟨fuel, ρ, μ, σp, Post.refl R, S, q⟩, ?_⟩
  rintro m σi Hi ⟨ρi, μi, σq, Pi, Si, q⟩
  cases m with
  | zero => exact False.elim q
  | succ m =>
    simp only [whileLoop] at q
    refine tX_step (σ := σi) Pi.rel Pi Si q fun x μ1 ρ1 v H1 P1 r q => ?_
    subst r
    have S1 := Si.las (P1.las Pi.rel)
    have P01 := Pi.trans P1
    cases x with
    | false => exact it_f (q ρ1 H1 P01 σi S1)
    | true =>
      refine it_t ⟨fun σ' H' => ∃ ρ' μ' σq', Post C.K ρ H ρ' μ' H' ∧ RS C.K ρ' H' σq' σ' ∧ (whileLoop tc d m σq' μ').sat (fun f μ' => ∀ ρ' H', Post C.K ρ H ρ' μ' H' → flR C.K D ρ' H' f) (EXC C.K (WE E) ρ H σ), fun σ' H' hN => ⟨m, Nat.lt_succ_self m, hN⟩, ?_⟩
      have q' : ((d σq μ1).bind fun f μ2 => f.turn (fun σ μ => whileLoop tc d m σ μ) μ2).sat (fun f μ' => ∀ ρ' H', Post C.K ρ H ρ' μ' H' → flR C.K D ρ' H' f) (EXC C.K (WE E) ρ H σ) := q
      refine z_next (σ := σ) P01 S1 (sat_bind q') ?_
      intro f μ2 ρ2 H2 P2 q
      have P02 := P01.trans P2
      cases f with
      | nx σ2 => exact fun σ'' S'' => ⟨ρ2, μ2, σ2, P02, S'', q⟩
      | ct σ2 => exact fun σ'' S'' => ⟨ρ2, μ2, σ2, P02, S'', q⟩
      | bk σ2 => exact q ρ2 H2 P02
      | rt p => exact q ρ2 H2 P02
/-- held, ahead of any rule -/
theorem forceX {K : PySem.W.Frag} {W : WX} {da : Sg → Mu → Out Ag} {σ : L2.St} {H : Hp} {Q : VK} (q : tF K W (fun σ μ => (da σ μ).bind force) σ H Q) : tA K W da σ H Q := by
  obtain ⟨ρ, μ, σp, R, S, q⟩ := q
  refine tX_step R (Post.refl R) S q fun x μ1 ρ1 v H1 P1 r q => ?_
  cases x with
  | v p => exact q ρ1 v H1 P1 r
  | l xs =>
    obtain ⟨a, ys, e, e1, rs, n, f⟩ := r
    subst e
    obtain ⟨R2, L⟩ := Post.num P1.rel e1 n rs
    refine q (ρ1 ++ [a]) (.ref a) H1 ⟨?_, R2, P1.frm, fun b o e pr hn hb => ?_⟩ ?_
    · obtain ⟨t, e⟩ := P1.pre
      exact ⟨t ++ [a], by rw [e, List.append_assoc]⟩
    · rcases List.mem_append.mp hb with h | h
      · exact P1.out b o e pr hn h
      · rw [List.mem_singleton.mp h] at e
        exact f o e pr
    · simp only [RV]
      refine ⟨a, rfl, ?_⟩
      rw [← P1.rel.len, List.getElem?_append_right (Nat.le_refl _)]
      simp
theorem z_setLc (sn : ∀ e, Snd G n N e) {i : Nat} {x : Str} {q0 pos p : Pos} {tg : Tg} {it cond elt : X} {e t i' : Expr} {ifs : List Expr} {scope : Scope} (g : Good G n N hd sc (WE E) C) (hk : sc.kind = .function) (hi : N[i]? = some x)
    (hsw : swapB sc (.Name x q0) (.ListComp e [⟨t, i', ifs, 0⟩] scope p) = true) (h : chk N G.fs (.comp tg it cond elt) hd sc (.ListComp e [⟨t, i', ifs, 0⟩] scope p) = true) :
    PS C (.Assign [.Name x q0] (.ListComp e [⟨t, i', ifs, 0⟩] scope p) pos) (tZ C.K E (ex (wd G (callN G n)) (.asg (.nm i) (.comp tg it cond elt)))) := by
  obtain ⟨e1, t1, i1, ifs1, scope1, p1, ee, h1, h2, h3, h4, h5, h6, h7, h8⟩ := comp_at h
  cases ee
  have hnd : C.N.Nodup := by rw [g.hN]; exact g.nd
  have hb' : BlkOk C.N C.env.scope scope (ownOf N tg) := by
    rw [g.hN, g.hsc]
    exact blkOk_by h1
  obtain ⟨w1, w2⟩ := swSwap (line := pos.line) g.hsc hk hsw
  refine (ps_setLc (i := i) (own := ownOf N tg) (g := gP C.K tg) (tt := tT C.K (fun _ _ _ _ => False) (den (wd G (callN G n)) cond).t) (te := tF C.K (fun _ _ _ _ => False) fun σ μ => ((den (wd G (callN G n)) elt).a σ μ).bind force) g.calm hnd (by rw [g.hN]; exact hi) w1 w2 ((sn it).i C (WE E) hd sc _ _ g h3 h4) hb'
    (fun s H A cl fp => tg_ok (g.blk (s := s) (H := H) (A := A) (cl := cl) (fp := fp) (scope := scope)) sto_blk tg _ h2)
    (fun s H A cl fp => (sn cond).ts _ _ false _ _ (g.blk (s := s) (H := H) (A := A) (cl := cl) (fp := fp) (scope := scope)) h6 h7)
    (fun s H A cl fp => s_force ((sn elt).v _ _ false _ _ (g.blk (s := s) (H := H) (A := A) (cl := cl) (fp := fp) (scope := scope)) h8))
    (fun x => by cases i' <;> first | rfl | cases h5)).imp fun D σ H q => ?_
  refine lc_imp (forceX ?_)
  obtain ⟨ρ, μ, σp, R, S, q⟩ := q
  refine tX_step R (Post.refl R) S q fun x μ1 ρ1 v H1 P1 r q => ?_
  obtain ⟨σ1, eσ, q⟩ := sat_lift (sat_bind q)
  rw [put_nm] at eσ
  obtain ⟨hl, eσ⟩ := some_if eσ
  subst eσ
  exact q ρ1 H1 P1 _ ((S.las (P1.las R)).set r i)
/-! ### raise -/
def spI (K : PySem.W.Frag) : Sp := fun vs H Q _ => ∃ a A w, vs = [.ref a, w] ∧ OexC K A ∧ PySem.W.findIn K (.ref A) whatS = some none ∧ H a = some (exo a A none) ∧
  ∀ dx, H dx = none → dx ≠ a → Q .non (upd (upd H dx (exd dx [(whatS, w)])) a (exo a A (some dx)))
structure ExAt (G : Gm) (C : Cx) : Prop where
  each : ∀ c ∈ G.cls, ∃ fI fd, OexC C.K (He.ga C.K (Str.ofString c)) ∧ PySem.W.findIn C.K (.ref (He.ga C.K (Str.ofString c))) "__init__" = some (some (.ref fI)) ∧ PySem.W.findIn C.K (.ref (He.ga C.K (Str.ofString c))) whatS = some none ∧ PySem.W.typeIn C.K (.ref fI) = some (.type "function") ∧
    FnOk C.prog C.w C.K C.mg C.base (L2N.CX C.prog C.w) 5 fI fd ["self", "what"] (spI C.K) ∧ Binds C.K fd ["self", "what"] [] ∧ C.mg (Str.ofString c) = some (.ref (He.ga C.K (Str.ofString c)))
theorem z_raise {c : String} {x : Expr} {p p2 p3 : Pos} {d : Sg → Mu → Out PV} (g : Good G n N hd sc (WE E) C) (xa : ExAt G C) (hc : c ∈ G.cls) (gl : Gl C (Str.ofString c)) (hdb : okN (Str.ofString c) = true) (hn : noStar x = true) (hx : PE C x (tF C.K (WE E) d)) :
    PS C (.Raise (some (.Call (.Name (Str.ofString c) p2) [x] [] p3)) none p) (tZ C.K E fun σ μ => (d σ μ).bind fun p μ1 => if c ∈ G.cls then .exc c p μ1 else .bad) := by
  obtain ⟨fI, fd, T, iC, iW, tI, F, B, hm⟩ := xa.each c hc
  simp only [okN, Bool.and_eq_true, Bool.not_eq_true'] at hdb
  refine (L2N.ps_raise g.calm g.tk (pmkN T iC tI F (g.room3.mono (by unfold lv; omega)) B (L2N.passes_call g.tk (fun _ _ _ _ h => h.elim)) gl hm (pa_cons hx pa_nil (star_no hn)) hdb.1.1 (star_no hn))).imp fun D σ H q => ?_
  obtain ⟨ρ, μ, σp, R, S, q⟩ := q
  dsimp only [tMkO, tCons, tNil]
  refine tX_step R (Post.refl R) S q fun y μ1 ρ1 v H1 P1 r q => ?_
  obtain ⟨_, q⟩ := sat_if q
  refine ⟨by simp, fun a ha => ⟨a, _, v, rfl, T, iW, upd_same, fun dx hdx hne => ⟨rfl, dx, [(whatS, v)], upd_same, ?_, ?_, ?_⟩⟩⟩
  · rw [upd_ne hne]
    exact upd_same
  · rwa [upd_ne hne] at hdx
  · have hd1 : H1 dx = none := by rwa [upd_ne hne] at hdx
    have eH : upd (del (upd (upd (upd H1 a (exo a (He.ga C.K (Str.ofString c)) none)) dx (exd dx [(whatS, v)])) a (exo a (He.ga C.K (Str.ofString c)) (some dx))) a) dx (.xd [(whatS, v)]) = upd H1 dx (.xd [(whatS, v)]) := by
      funext b
      by_cases h1 : b = dx
      · subst h1; rw [upd_same, upd_same]
      · rw [upd_ne h1, upd_ne h1]
        by_cases h2 : b = a
        · subst h2; rw [del_same]; exact ha.symm
        · rw [del_ne h2, upd_ne h2, upd_ne h1, upd_ne h2]
    rw [eH]
    have PF := Post.fresh (o := .xd [(whatS, v)]) P1.rel hd1
    exact q ρ1 _ dx v (P1.trans PF) (RV.las (PF.las P1.rel) _ _ r) upd_same
end
end Ev

set_option Elab.async false
set_option linter.all false
set_option maxRecDepth 100000
/-! EvP: every checked statement; every checked def. Own work. -/
namespace Ev
open PySem PySem.Spec PyProof.Rows L2
open Classical
variable [Tb]
section
variable {C : Cx} {E : XK} {N : List Str} {sc : Scope} {G : Gm} {n : Nat} {hd : Bool}
def StOk (G : Gm) (n : Nat) (N : List Str) (s : S) : Prop := ∀ (C : Cx) (E : XK) (hd : Bool) (sc : Scope) (st : Stmt), Good G n N hd sc (WE E) C → PassesOwn (model C.prog C.w) C.A C.env C.xe → Sto sc C → sc.kind = .function → ExAt G C → chkS N G.fs G.cls hd sc s st = true → PS C st (tZ C.K E (ex (wd G (callN G n)) s))
def BlOk (G : Gm) (n : Nat) (N : List Str) (s : S) : Prop := ∀ (C : Cx) (E : XK) (hd : Bool) (sc : Scope) (sts : List Stmt), Good G n N hd sc (WE E) C → PassesOwn (model C.prog C.w) C.A C.env C.xe → Sto sc C → sc.kind = .function → ExAt G C → chkS.chkB N G.fs G.cls hd sc s sts = true → PSs C sts (tZ C.K E (ex (wd G (callN G n)) s))
theorem sst (sn : ∀ e, Snd G n N e) : ∀ s : S, StOk G n N s ∧ BlOk G n N s := by
  intro s
  induction s with
  | nil =>
    refine ⟨fun C E hd sc st g hp hst hk xa h => by simp [chkS] at h, fun C E hd sc sts g hp hst hk xa h => ?_⟩
    cases sts with
    | nil => exact z_nil
    | cons _ _ => simp [chkS.chkB] at h
  | seq s t ihs iht =>
    refine ⟨fun C E hd sc st g hp hst hk xa h => by simp [chkS] at h, fun C E hd sc sts g hp hst hk xa h => ?_⟩
    cases sts with
    | nil => simp [chkS.chkB] at h
    | cons a as =>
      simp only [chkS.chkB, Bool.and_eq_true] at h
      exact z_seq (ihs.1 C E hd sc a g hp hst hk xa h.1) (iht.2 C E hd sc as g hp hst hk xa h.2)
  | asg tg e =>
    refine ⟨fun C E hd sc st g hp hst hk xa h => ?_, fun C E hd sc sts g hp hst hk xa h => by simp [chkS.chkB] at h⟩
    cases st <;> try (simp only [chkS, Bool.false_eq_true] at h; done)
    rename_i ts v p
    match ts, h with
    | [t], h =>
      simp only [chkS, Bool.and_eq_true, Bool.or_eq_true] at h
      obtain ⟨⟨h1, h2⟩, h3⟩ := h
      rcases h3 with h3 | h3
      · exact z_asg g hst hk h1 h3 (s_force ((sn e).v C _ hd sc v g h2))
      · cases t <;> try (cases h3; done)
        rename_i x q
        cases v <;> try (cases h3; done)
        rename_i el gs sco pp
        cases e <;> try (simp [chk] at h2; done)
        · simp [chk, gName] at h2
        · rename_i tg' it cond elt
          obtain ⟨e1, t1, i1, ifs1, scope1, p1, ee, _⟩ := comp_at h2
          cases ee
          cases tg <;> try (simp [chkT] at h1; done)
          simp only [chkT, Bool.and_eq_true, decide_eq_true_eq] at h1
          exact z_setLc sn g hk h1.1 h3 h2
    | [], h => simp [chkS] at h
    | _ :: _ :: _, h => simp [chkS] at h
  | par2 i j a b =>
    refine ⟨fun C E hd sc st g hp hst hk xa h => ?_, fun C E hd sc sts g hp hst hk xa h => by simp [chkS.chkB] at h⟩
    obtain ⟨ts, vs, k1, k2, p1, p2, p, rfl⟩ : ∃ ts vs k1 k2 p1 p2 p, st = .Assign [.Tuple ts k1 p1] (.Tuple vs k2 p2) p := by
      unfold chkS at h
      split at h <;> first | exact ⟨_, _, _, _, _, _, _, rfl⟩ | contradiction | (cases h; done)
    simp only [chkS, Bool.and_eq_true] at h
    exact z_par2 g h.1 ((sn _).s C _ hd sc vs g h.2)
  | par3 i j k a b c =>
    refine ⟨fun C E hd sc st g hp hst hk xa h => ?_, fun C E hd sc sts g hp hst hk xa h => by simp [chkS.chkB] at h⟩
    obtain ⟨ts, vs, k1, k2, p1, p2, p, rfl⟩ : ∃ ts vs k1 k2 p1 p2 p, st = .Assign [.Tuple ts k1 p1] (.Tuple vs k2 p2) p := by
      unfold chkS at h
      split at h <;> first | exact ⟨_, _, _, _, _, _, _, rfl⟩ | contradiction | (cases h; done)
    simp only [chkS, Bool.and_eq_true] at h
    exact z_par3 g h.1 ((sn _).s C _ hd sc vs g h.2)
  | setIx o i e =>
    refine ⟨fun C E hd sc st g hp hst hk xa h => ?_, fun C E hd sc sts g hp hst hk xa h => by simp [chkS.chkB] at h⟩
    obtain ⟨x, y, v, p1, p, rfl⟩ : ∃ x y v p1 p, st = .Assign [.Subscript x y p1] v p := by
      unfold chkS at h
      split at h <;> first | exact ⟨_, _, _, _, _, rfl⟩ | contradiction | (cases h; done)
    simp only [chkS, Bool.and_eq_true] at h
    exact z_setIx h.2 ((sn o).v C _ hd sc x g h.1.1.1) ((sn i).v C _ hd sc y g h.1.1.2) (s_force ((sn e).v C _ hd sc v g h.1.2))
  | expr e =>
    refine ⟨fun C E hd sc st g hp hst hk xa h => ?_, fun C E hd sc sts g hp hst hk xa h => by simp [chkS.chkB] at h⟩
    cases st <;> try (simp only [chkS, Bool.false_eq_true] at h; done)
    simp only [chkS, Bool.and_eq_true] at h
    exact z_expr h.2 ((sn e).v C _ hd sc _ g h.1)
  | ife c s t ihs iht =>
    refine ⟨fun C E hd sc st g hp hst hk xa h => ?_, fun C E hd sc sts g hp hst hk xa h => by simp [chkS.chkB] at h⟩
    cases st <;> try (simp only [chkS, Bool.false_eq_true] at h; done)
    simp only [chkS, Bool.and_eq_true] at h
    exact z_if ((sn c).t C _ hd sc _ g h.1.1) (ihs.2 C E hd sc _ g hp hst hk xa h.1.2) (iht.2 C E hd sc _ g hp hst hk xa h.2)
  | forr tg it s ihs =>
    refine ⟨fun C E hd sc st g hp hst hk xa h => ?_, fun C E hd sc sts g hp hst hk xa h => by simp [chkS.chkB] at h⟩
    cases st <;> try (simp only [chkS, Bool.false_eq_true] at h; done)
    rename_i t i bs os p
    cases os <;> try (simp only [chkS, Bool.false_eq_true] at h; done)
    simp only [chkS, Bool.and_eq_true] at h
    obtain ⟨⟨⟨⟨h1, h2⟩, h3⟩, h4⟩, h5⟩ := h
    exact z_for g hp hst h1 h4 ((sn it).i C _ hd sc t i g h2 h3) (ihs.2 C E hd sc bs g hp hst hk xa h5)
  | whil c s ihs =>
    refine ⟨fun C E hd sc st g hp hst hk xa h => ?_, fun C E hd sc sts g hp hst hk xa h => by simp [chkS.chkB] at h⟩
    cases st <;> try (simp only [chkS, Bool.false_eq_true] at h; done)
    rename_i t bs os p
    cases os <;> try (simp only [chkS, Bool.false_eq_true] at h; done)
    simp only [chkS, Bool.and_eq_true] at h
    exact z_while hp ((sn c).t C _ hd sc _ g h.1) (ihs.2 C E hd sc _ g hp hst hk xa h.2)
  | ret e =>
    refine ⟨fun C E hd sc st g hp hst hk xa h => ?_, fun C E hd sc sts g hp hst hk xa h => by simp [chkS.chkB] at h⟩
    cases st <;> try (simp only [chkS, Bool.false_eq_true] at h; done)
    rename_i v p
    cases v <;> try (simp only [chkS, Bool.false_eq_true] at h; done)
    simp only [chkS] at h
    exact z_ret (s_force ((sn e).v C _ hd sc _ g h))
  | retN =>
    refine ⟨fun C E hd sc st g hp hst hk xa h => ?_, fun C E hd sc sts g hp hst hk xa h => by simp [chkS.chkB] at h⟩
    cases st <;> try (simp only [chkS, Bool.false_eq_true] at h; done)
    rename_i v p
    cases v <;> try (simp only [chkS, Bool.false_eq_true] at h; done)
    exact z_retN
  | raise c e =>
    refine ⟨fun C E hd sc st g hp hst hk xa h => ?_, fun C E hd sc sts g hp hst hk xa h => by simp [chkS.chkB] at h⟩
    obtain ⟨gg, x, p1, p, rfl⟩ : ∃ gg x p1 p, st = .Raise (some (.Call gg [x] [] p1)) none p := by
      unfold chkS at h
      split at h <;> first | exact ⟨_, _, _, _, rfl⟩ | contradiction | (cases h; done)
    simp only [chkS, Bool.and_eq_true] at h
    obtain ⟨⟨⟨h1, h2⟩, h3⟩, h4⟩ := h
    obtain ⟨q, rfl, g1, g2⟩ := gName_at h1
    exact z_raise g xa (by simpa using h4) (g.gl g1) g2 h3 (s_force ((sn e).v C _ hd sc _ g h2))
  | pass =>
    refine ⟨fun C E hd sc st g hp hst hk xa h => ?_, fun C E hd sc sts g hp hst hk xa h => by simp [chkS.chkB] at h⟩
    cases st <;> try (simp only [chkS, Bool.false_eq_true] at h; done)
    exact z_pass
  | brk =>
    refine ⟨fun C E hd sc st g hp hst hk xa h => ?_, fun C E hd sc sts g hp hst hk xa h => by simp [chkS.chkB] at h⟩
    cases st <;> try (simp only [chkS, Bool.false_eq_true] at h; done)
    exact z_brk
  | cont =>
    refine ⟨fun C E hd sc st g hp hst hk xa h => ?_, fun C E hd sc sts g hp hst hk xa h => by simp [chkS.chkB] at h⟩
    cases st <;> try (simp only [chkS, Bool.false_eq_true] at h; done)
    exact z_cont
end
end Ev

set_option Elab.async false
set_option linter.all false
set_option maxRecDepth 100000
/-! EvQ: every checked def keeps what callN tells. Own work. -/
namespace Ev
open PySem PySem.Spec PyProof.Rows L2
open Classical
variable [Tb]
/-- what is told of one def -/
def FnB (K : PySem.W.Frag) (mg : Str → Option Value) (base : Heap) (G : Gm) (f : String) (d : Fd) (hd : Bool) : Prop :=
  ∃ (fa : Addr) (params : Arguments) (body : List Stmt) (scope : Scope) (oc dV kV doc pm cdv ct : Value) (od an : Option Addr) (osl : Array (Option Value)),
    mg (Str.ofString f) = some (.ref fa) ∧ PySem.W.keepIn K (.ref fa) = true ∧ K.lookup fa = some ⟨oc, od, .func (PySem.W.fnOf (Str.ofString f) (Str.ofString f) params body scope dV kV doc pm an cdv ct), osl⟩ ∧ PySem.W.codeIn K cdv (Str.ofString f) = true ∧
    FnScope d.N d.ps scope ∧ Binds K (PySem.W.fnOf (Str.ofString f) (Str.ofString f) params body scope dV kV doc pm an cdv ct) d.ps [] ∧ chkS.chkB d.N G.fs G.cls hd scope d.body body = true ∧
    (hd = true → ∃ c P, cdv = .ref c ∧ LamX.TabB base mg c P ∧ (P, Str.ofString f ++ ".<locals>." ++ "<lambda>") ∈ Tb.T ∧ ∀ p ∈ Tb.T, p.1 = P → p.2 = Str.ofString f ++ ".<locals>." ++ "<lambda>")
section
variable {P : Program} {w : World} {K : PySem.W.Frag} {mg : Str → Option Value} {base : Heap} {G : Gm} {hds : String → Bool}
theorem rs_start {ρ : List Addr} {H : Hp} : ∀ {args : List PV} {vs : List V} (k : Nat), RVs K ρ H args vs → RS K ρ H (args.map some ++ List.replicate k none) (vs.map some ++ List.replicate k none) := by
  intro args vs k r
  have hl := RVs.length r
  refine ⟨by simp [hl], fun i p e => ?_⟩
  by_cases hi : i < args.length
  · rw [List.getElem?_append_left (by simpa using hi), List.getElem?_map] at e
    cases ha : args[i]? with
    | none => rw [ha] at e; cases e
    | some x =>
      rw [ha] at e
      cases e
      obtain ⟨y, hy, ry⟩ := RVs.get r ha
      refine ⟨y, ?_, ry⟩
      rw [List.getElem?_append_left (by rw [List.length_map, ← hl]; exact hi), List.getElem?_map, hy]
      rfl
  · rw [List.getElem?_append_right (by simpa using Nat.le_of_not_lt hi)] at e
    rw [List.getElem?_replicate] at e
    split at e <;> cases e
theorem lamAt_mk {C : Cx} {q : Str} {cdv : Value} (e1 : C.env.qual = q) (e2 : C.env.code = cdv) (e3 : C.base = base) (e4 : C.mg = mg) (h : ∃ c P', cdv = .ref c ∧ LamX.TabB base mg c P' ∧ (P', q ++ "<lambda>") ∈ Tb.T ∧ ∀ p ∈ Tb.T, p.1 = P' → p.2 = q ++ "<lambda>") : LamAt C := by
  subst e1 e2 e3 e4
  exact ⟨h⟩
theorem fnAt (hB : ∀ f d, G.fns.lookup f = some d → FnB K mg base G f d (hds f)) (hfree : ∀ x ∈ bltNames, mg (Str.ofString x) = none)
    (hcon : ∀ x p, G.con.lookup x = some p → ∃ u v, mg (Str.ofString x) = some u ∧ RelV v u ∧ ∀ ρ H, RV K ρ H p v) (hx : ∀ C : Cx, C.prog = P → C.w = w → C.K = K → C.mg = mg → C.base = base → ExAt G C)
    (hha : HrdAt G K mg) (hh : ∀ n N, HeardOk G n N) :
    ∀ n (C : Cx), C.prog = P → C.w = w → C.K = K → C.mg = mg → C.base = base → FnAt G n C := by
  intro n
  induction n with
  | zero =>
    intro C e1 e2 e3 e4 e5 f d hf
    obtain ⟨fa, params, body, scope, oc, dV, kV, doc, pm, cdv, ct, od, an, osl, h1, h2, h3, h4, h5, h6, h7, h8⟩ := hB f d hf
    subst e3 e4
    refine ⟨fa, _, h1, h2, ⟨_, _, _, h3⟩, ⟨fun vs H Q E h => ?_, fun A outer s H args us vs Q E hr he hb hv h => ?_⟩, h6⟩
    · obtain ⟨_, _, _, _, _, z⟩ := h
      exact False.elim z
    · obtain ⟨_, _, _, _, _, z⟩ := h
      exact False.elim z
  | succ n ih =>
    intro C e1 e2 e3 e4 e5 f d hf
    obtain ⟨fa, params, body, scope, oc, dV, kV, doc, pm, cdv, ct, od, an, osl, h1, h2, h3, h4, h5, h6, h7, h8⟩ := hB f d hf
    subst e1 e2 e3 e4 e5
    refine ⟨fa, _, h1, h2, ⟨_, _, _, h3⟩, ?_, h6⟩
    refine L2.fn_of (k := lv n + 7) h3 h4 h5 (fun vs H Q E h => ?_) (fun A outer s H vs Q E hr h => ?_)
    · obtain ⟨ρ, μ, args, R, r, q⟩ := h
      by_cases hl : args.length = d.ps.length
      · rw [← hl, RVs.length r]
      · exfalso
        simp only [callN, hf, if_neg hl] at q
        exact q
    · obtain ⟨ρ, μ, args, R, r, q⟩ := h
      by_cases hl : args.length = d.ps.length
      · rw [callN_eq n hf hl] at q
        have g : Good G n d.N (hds f) scope (WE E) (cxOf (L2N.CX C.prog C.w) C.prog C.w C.K C.mg C.base d.N (Str.ofString f) scope fa cdv A outer s H E) := {
          calm := rfl
          hN := rfl
          nd := h5.nd
          hsc := rfl
          tk := L2N.takes_of rfl rfl rfl rfl
          room := hr.mono (by split <;> omega)
          lam := fun hh => lamAt_mk (q := Str.ofString f ++ ".<locals>.") (cdv := cdv) (base := C.base) (mg := C.mg) rfl rfl rfl rfl (h8 hh)
          fn := ih _ rfl rfl rfl rfl rfl
          free := hfree
          con := hcon
          hrd := hha }
        have hst : Sto scope (cxOf (L2N.CX C.prog C.w) C.prog C.w C.K C.mg C.base d.N (Str.ofString f) scope fa cdv A outer s H E) := fun x hxl => by
          unfold locB at hxl
          refine ⟨?_, .inl rfl⟩
          split at hxl
          · rename_i e; exact .inl e
          · rename_i e; exact .inr e
          · cases hxl
        refine ⟨_, (sst (fun e => snd (hh n d.N) e) d.body).2 _ E (hds f) scope body g (L2.passes_of rfl) hst h5.kind (hx _ rfl rfl rfl rfl rfl) h7, ρ, μ, args.map some ++ List.replicate (d.N.length - d.ps.length) none, R, ?_, ?_⟩
        · unfold L2.start
          have hv : d.ps.length = vs.length := by rw [← hl, RVs.length r]
          rw [hv]
          exact rs_start _ r
        · refine sat_mono (sat_bind q) (fun fl μ1 q ρ1 H1 P1 => ?_) fun c w' μ1 e ρ1 H1 dd wv P1 r1 hxd => e ρ1 H1 dd wv P1 r1 hxd
          cases fl with
          | nx σ1 => exact fun σ' _ => q ρ1 .non H1 P1 (by simp [RV])
          | rt p => exact fun v rv => q ρ1 v H1 P1 rv
          | bk _ => exact False.elim q
          | ct _ => exact False.elim q
      · exfalso
        simp only [callN, hf, if_neg hl] at q
        exact q
end
end Ev

set_option Elab.async false
set_option linter.all false
set_option maxRecDepth 100000
set_option maxHeartbeats 2000000
/-! EvR0: the suite that names a refusal. Own work. -/
namespace Ev
open PySem PySem.Spec PyProof.Rows L2
open Classical
/-- isinstance(e, c), e the handled exception with its dict -/
def rIsD (K : PySem.W.Frag) (D a d : Addr) : List V → Hp → VK → Prop := fun xs H Q => ∃ (m : Addr) (b : Bool) (fs : List (Str × V)), xs = [.ref a, .ref m] ∧ PySem.W.kitOne K (.ref D) (.ref m) = some b ∧ H d = some (.xd fs) ∧ Q (.bl b) H
theorem call_isD {X : Cx} {a D d : Addr} {oe : Obj} {pn : List (Addr × Obj)} (C : ExcC X.K D) (hz : Zc (.ref D) (some d) oe) (hf : ∃ vs, oe.data = .fields vs) : CallR (X.suite a ((a, oe) :: pn)) (.builtin "isinstance") (rIsD X.K D a d) := by
  rintro pins s σ H xs us Q I r ⟨m, b, fs, rfl, kit, ed, q⟩
  match us, r with
  | [u1, u2], .cons r1 (.cons r2 .nil) =>
    cases (show u1 = Value.ref a from r1)
    cases (show u2 = Value.ref m from r2)
    obtain ⟨he, _⟩ := I.pin (a, oe) (List.mem_append_left _ List.mem_cons_self)
    obtain ⟨vs, hv⟩ := hf
    obtain ⟨mA, ns, _⟩ : ObjOk X.prog X.w H s.heap d (.xd fs) := I.hok d _ ed
    obtain ⟨od, ho, _⟩ := lookIn_ns ns
    have J : PySem.W.InstAt s.heap a oe D (some od) := ⟨he, hz.1, by unfold PySem.W.notCls; rw [hv] <;> rfl, by rw [hz.2]; exact ho⟩
    have cl : (PySem.W.clsIn X.K D).isSome = true := by
      obtain ⟨cd, hc, _⟩ := PySem.W.any_some C.hd
      rw [hc]
      rfl
    exact PySem.W.kia_one (PySem.W.kitx_exc cl C.hg C.hk C.hs C.ha C.hn C.ht C.hm) I.kIn J kit (fun z => nomatch z) fun tk => ⟨.bl b, H, I.kept (t' := tk) fun _ _ z => z, rfl, q⟩
end Ev

set_option Elab.async false
set_option linter.all false
set_option maxRecDepth 100000
set_option maxHeartbeats 2000000
/-! EvR1: the suite that names a refusal, walked. Own work. -/
namespace Ev
open PySem PySem.Spec PyProof.Rows L2
open Classical
variable [Tb]
/-- found stands at L, n words noted -/
structure Noted (K : PySem.W.Frag) (ρ : List Addr) (μ : Mu) (H0 : Hp) (L d : Addr) (fs : List (Str × V)) (H : Hp) (xs : List V) (ws : List (Str × Bool)) : Prop where
  post : Post K ρ H0 ρ μ H
  new : H0 L = none
  out : L ∉ ρ
  lst : H L = some (.lst xs)
  len : xs.length = ws.length
  wat : WordsAt H xs ws
  xd : H d = some (.xd fs)
section
variable {K : PySem.W.Frag} {ρ : List Addr} {μ : Mu} {H0 H : Hp} {L d : Addr} {fs : List (Str × V)} {xs : List V} {ws : List (Str × Bool)}
theorem Noted.next (n : Noted K ρ μ H0 L d fs H xs ws) {p : Addr} (hp : H p = none) (w : Str × Bool) : Noted K ρ μ H0 L d fs (upd (upd H p (.tup [.str w.1, .bl w.2])) L (.lst (xs ++ [.ref p]))) (xs ++ [.ref p]) (ws ++ [w]) := by
  have pL : L ≠ p := fun z => by
    have e := n.lst
    rw [z, hp] at e
    cases e
  have PF := n.post.trans (Post.fresh (o := .tup [.str w.1, .bl w.2]) n.post.rel hp)
  have l2 : upd H p (.tup [.str w.1, .bl w.2]) L = some (.lst xs) := by rw [upd_ne pL]; exact n.lst
  obtain ⟨R4, L4⟩ := PF.rel.tmp (zs := xs ++ [.ref p]) l2 n.out
  have keep : ∀ t vs, H t = some (.tup vs) → upd (upd H p (.tup [.str w.1, .bl w.2])) L (.lst (xs ++ [.ref p])) t = some (.tup vs) := fun t vs e => by
    have h1 : t ≠ L := fun z => by
      rw [z, n.lst] at e
      cases e
    have h2 : t ≠ p := fun z => by
      rw [z, hp] at e
      cases e
    rw [upd_ne h1, upd_ne h2]
    exact e
  refine ⟨⟨PF.pre, R4, fun b o e pr hn => ?_, PF.out⟩, n.new, n.out, upd_same, by simp [n.len], fun i x hx => ?_, ?_⟩
  · rw [upd_ne (fun z => by rw [z, n.new] at e; cases e)]
    exact PF.frm b o e pr hn
  · by_cases hi : i < xs.length
    · rw [List.getElem?_append_left hi] at hx
      obtain ⟨w', t, e1, e2, e3⟩ := n.wat i x hx
      exact ⟨w', t, by rw [List.getElem?_append_left (by rw [← n.len]; exact hi)]; exact e1, e2, keep t _ e3⟩
    · rw [List.getElem?_append_right (by omega)] at hx
      have e0 : i - xs.length = 0 := by
        have z := (List.getElem?_eq_some_iff.mp hx).1
        simp at z
        omega
      rw [e0] at hx
      cases hx
      refine ⟨w, p, ?_, rfl, ?_⟩
      · rw [List.getElem?_append_right (by rw [← n.len]; omega), ← n.len, e0]
        rfl
      · rw [upd_ne (Ne.symm pL)]
        exact upd_same
  · have e := n.xd
    rw [upd_ne (fun z => by rw [z, n.lst] at e; cases e), upd_ne (fun z => by rw [z, hp] at e; cases e)]
    exact e
end
section
variable {Y : Cx} {a d : Addr} {oe : Obj} {pn : List (Addr × Obj)} {x fnd : Str} {i jf : Nat} {A : Addr} {c : String}
theorem appsRun (hz : Zc (.ref A) (some d) oe) (hf : ∃ vs, oe.data = .fields vs) (ec : ExcC Y.K A) (hi : Y.N[i]? = some x) (vx : Vis Y.env.scope x) (ox : okN x = true) (hj : Y.N[jf]? = some fnd) (vf : Vis Y.env.scope fnd) (of : okN fnd = true)
    (gi : Gl Y "isinstance") (mi : Y.mg "isinstance" = none) (rest : List Stmt) (u : TS) (hr : PSs (Y.suite a ((a, oe) :: pn)) rest u) :
    ∀ (cs : List String) (apps : List Stmt), AppsSh fnd x cs apps → (∀ m ∈ cs, Gl Y (Str.ofString m) ∧ Y.mg (Str.ofString m) = some (.ref (He.ga Y.K (Str.ofString m))) ∧ okN (Str.ofString m) = true ∧ PySem.W.kitOne Y.K (.ref A) (.ref (He.ga Y.K (Str.ofString m))) = some (decide (c = m))) →
    PSs (Y.suite a ((a, oe) :: pn)) (apps ++ rest) fun D σ H => ∃ ρ μ H0 L fs xs ws, Noted Y.K ρ μ H0 L d fs H xs ws ∧ σ[i]? = some (some (.ref a)) ∧ σ[jf]? = some (some (.ref L)) ∧ ws.length + cs.length < 1000 ∧
      ∀ H' xs', Noted Y.K ρ μ H0 L d fs H' xs' (ws ++ cs.map fun m => (Str.ofString m, decide (c = m))) → u D σ H'
  | [], [], _, _ => hr.imp fun D σ H q => by
    obtain ⟨ρ, μ, H0, L, fs, xs, ws, n, h1, h2, h3, k⟩ := q
    exact k H xs (by simpa using n)
  | m :: cs, st :: apps, sh, hm => by
    obtain ⟨⟨j, k, q1, q2, q3, q4, q5, q6, q7, q8, q9, q10, rfl, hl⟩, sh2⟩ := sh
    obtain ⟨g1, g2, g3, g4⟩ := hm m (by simp)
    simp only [okN, Bool.and_eq_true, Bool.not_eq_true'] at ox of g3
    have pis := pe_callB (X := Y.suite a ((a, oe) :: pn)) (pos := q7) (p := q4) (call_isD (pn := pn) ec hz hf) gi mi boot_isi' (pa_cons (pe_var (X := Y.suite a ((a, oe) :: pn)) (pos := q5) (i := i) hi vx ox.1.1 ox.1.2) (pa_cons (pe_glob (X := Y.suite a ((a, oe) :: pn)) (pos := q6) (v := .ref (He.ga Y.K (Str.ofString m))) g1 g2 rfl g3.1.1) pa_nil rfl) rfl) (by decide) (by decide) rfl (by rfl)
    have ptup := pe_tup (X := Y.suite a ((a, oe) :: pn)) (x1 := k) (pos := q8) (pa_cons (pe_str (x := Str.ofString m) (j := j) (pos := q3)) (pa_cons pis pa_nil rfl) rfl)
    have papp := pe_bm (X := Y.suite a ((a, oe) :: pn)) (T := "list") (name := "append") (id := "list.append") (apos := q2) (cpos := q9) PySem.F.plainAttrs_list PySem.F.slot_list_append PySem.F.type_list_append mt_append (pe_var (X := Y.suite a ((a, oe) :: pn)) (pos := q1) (i := jf) hj vf of.1.1 of.1.2) (pa_cons ptup pa_nil rfl) rfl (by rfl) hl rfl (by rfl)
    refine (pss_cons (ps_expr papp rfl) (appsRun hz hf ec hi vx (by simp only [okN, Bool.and_eq_true, Bool.not_eq_true']; exact ox) hj vf (by simp only [okN, Bool.and_eq_true, Bool.not_eq_true']; exact of) gi mi rest u hr cs apps sh2 fun m' hm' => hm m' (by simp [hm']))).imp fun D σ H q => ?_
    obtain ⟨ρ, μ, H0, L, fs, xs, ws, n, h1, h2, h3, kk⟩ := q
    refine ⟨.ref L, h2, .inl ⟨rfl, xs, SqL.of n.lst⟩, .ref a, h1, He.ga Y.K (Str.ofString m), _, fs, rfl, g4, n.xd, show (2 : Nat) ≤ sizeLine by decide, fun p hp => ?_⟩
    have pL : L ≠ p := fun z => by
      have e := n.lst
      rw [z, hp] at e
      cases e
    refine ⟨L, xs, .ref p, rfl, rfl, by rw [upd_ne pL]; exact n.lst, ?_, ρ, μ, H0, L, fs, _, ws ++ [(Str.ofString m, decide (c = m))], n.next hp (Str.ofString m, decide (c = m)), h1, h2, ?_, fun H' xs' n' => kk H' xs' (by simpa using n')⟩
    · rw [n.len, sizeLine_eq]
      simp at h3
      omega
    · simp at h3 ⊢
      omega
  | [], _ :: _, sh, _ => sh.elim
  | _ :: _, [], sh, _ => sh.elim
end
end Ev

set_option Elab.async false
set_option linter.all false
set_option maxRecDepth 100000
set_option maxHeartbeats 2000000
/-! EvR2: the def that names a refusal. Own work. -/
namespace Ev
open PySem PySem.Spec PyProof.Rows L2 LamX
open Classical
variable [Tb]
theorem words_one (c : String) : ∀ cs : List String, cs.Nodup → (((cs.map fun m => (Str.ofString m, decide (c = m))).filter (·.2)).map (·.1)) = if c ∈ cs then [Str.ofString c] else []
  | [], _ => rfl
  | m :: cs, nd => by
    obtain ⟨n1, n2⟩ := List.nodup_cons.mp nd
    have ih := words_one c cs n2
    by_cases h : c = m
    · subst h
      rw [if_neg n1] at ih
      simp only [List.map_cons, List.filter_cons, decide_true, if_true, ih, List.mem_cons, true_or]
    · simp only [List.map_cons, List.filter_cons, h, decide_false, Bool.false_eq_true, if_false, List.mem_cons, false_or]
      exact ih
theorem join_one (c : String) (cs : List String) (nd : cs.Nodup) : Txt.join " " (((cs.map fun m => (Str.ofString m, decide (c = m))).filter (·.2)).map (·.1)) = if c ∈ cs then Str.ofString c else Str.empty := by
  rw [words_one c cs nd]
  split <;> rfl
/-- the hearing that names: what is wanted of the lambda -/
def TTn (K : PySem.W.Frag) (al cs : List String) : (XK → Hp → VK → Prop) → Hp → VK → Prop := fun tl H Q =>
  tl (fun cls dd H' => ∃ c ∈ al, cls = .ref (He.ga K (Str.ofString c)) ∧ ∃ d fs v ρ μ, dd = some d ∧ H' d = some (.xd fs) ∧ fs.lookup whatS = some v ∧ Rel K ρ μ H' ∧
    ∀ H2 p, Post K ρ H' ρ μ H2 → H2 p = none → Q (.ref p) (upd H2 p (.tup [.str (if c ∈ cs then Str.ofString c else Str.empty), v])))
    H fun v H1 => [V.str "told", v].length ≤ sizeLine ∧ ∀ a, H1 a = none → Q (.ref a) (upd H1 a (.tup [.str "told", v]))
/-- the suite's reading -/
def tsN (K : PySem.W.Frag) (al cs : List String) (i len : Nat) (a : Addr) (cls : Value) (dd : Option Addr) : TS := fun D σ H => σ[i]? = some (some (.ref a)) ∧ σ.length = len ∧ ∃ c ∈ al, cls = .ref (He.ga K (Str.ofString c)) ∧ ∃ d fs v ρ μ, dd = some d ∧ H d = some (.xd fs) ∧ fs.lookup whatS = some v ∧ Rel K ρ μ H ∧
    ∀ H2 p, Post K ρ H ρ μ H2 → H2 p = none → D.rt (.ref p) (upd H2 p (.tup [.str (if c ∈ cs then Str.ofString c else Str.empty), v]))
theorem suiteN {Y : Cx} {al cs : List String} {CS : Addr} {x fnd nm io : Str} {i jf jn jo j2 k2 k3 : Nat} {p7 p8 p9 p10 p11 p12 p13 p14 p15 p16 p17 p18 p19 p20 p21 p22 p23 : Pos} {apps : List Stmt} {scope : Scope} (cl : ClsAt Y.K Y.mg Y.env.scope CS al cs) (sh : AppsSh fnd x cs apps) (hl : lineB p11 p19 = true)
    (hN : Y.N.Nodup) (h1 : Y.N[i]? = some x) (h2 : Y.env.scope.names.lookup x = some .local) (h3 : okN x = true) (h4 : Y.N[jf]? = some fnd) (h5 : Y.env.scope.names.lookup fnd = some .local) (h6 : okN fnd = true) (h7 : Y.N[jn]? = some nm) (h8 : okN nm = true) (h9 : Y.N[jo]? = some io) (h10 : okN io = true) (h11 : jn ≠ jo) (h12 : i ≠ jf)
    (h13 : blkC Y.N Y.env.scope scope [(nm, jn), (io, jo)] = true) (h14 : scope.names.lookup nm = some .local) (h15 : scope.names.lookup io = some .local) (h16 : Y.env.scope.names.lookup ("isinstance" : Str) = some .globalImplicit) (h17 : Y.mg ("isinstance" : Str) = none)
    (a : Addr) (oe : Obj) (cls : Value) (dd : Option Addr) (pn : List (Addr × Obj)) (hz : L2N.Zn cls dd oe) (hf : ∃ vs, oe.data = .fields vs) :
    PSs (Y.suite a ((a, oe) :: pn)) (.Assign [.Name fnd p7] (.List [] p8) p9 :: (apps ++ [.Return (some (.Tuple [.Call (.Attribute (.Constant (.str " ") j2 p10) "join" p11) [.ListComp (.Name nm p12) [⟨.Tuple [.Name nm p13, .Name io p14] k2 p15, .Name fnd p16, [.Name io p17], 0⟩] scope p18] [] p19, .Attribute (.Name x p20) "what" p21] k3 p22)) p23]))
      (tsN Y.K al cs i Y.N.length a cls dd) := by
  refine ⟨fun pins s σ H D I q => ?_⟩
  obtain ⟨hi, len, c, hc, rfl, d, fs, v, ρ, μ, rfl, hxd, hlk, R, k⟩ := q
  have ox := h3
  have of := h6
  simp only [okN, Bool.and_eq_true, Bool.not_eq_true'] at ox of
  obtain ⟨vs, hvs⟩ := hf
  have hot : L2H.Hot1 (Y.suite a ((a, oe) :: pn)).A (a, oe) := ⟨rfl, vs, hvs, hz.2.2 vs hvs⟩
  have words := wordsHot (X := Y.suite a ((a, oe) :: pn)) (pe := (a, oe)) (k := k2) (p1 := p12) (p2 := p13) (p3 := p14) (p4 := p15) (p5 := p17) (pos := p18) hot List.mem_cons_self hN (pe_var (X := Y.suite a ((a, oe) :: pn)) (pos := p16) (i := jf) h4 (.inl h5) of.1.1 of.1.2) (blkOk_by h13) h7 h9 h11 h14 h15 h8 h10 (fun _ => rfl)
  have join := pe_join (X := Y.suite a ((a, oe) :: pn)) (apos := p11) (pos := p19) (pe_str (x := " ") (j := j2) (pos := p10)) words (by rfl) (by rfl) hl
  have what := pe_xf (pn := pn) (pos := p21) (cl.xf c hc) (cl.wh c hc) hz.zc ⟨vs, hvs⟩ (pe_var (X := Y.suite a ((a, oe) :: pn)) (pos := p20) (i := i) h1 (.inl h2) ox.1.1 ox.1.2) rfl
  have ret := pss_one (ps_ret (pos := p23) (pe_tup (x1 := k3) (pos := p22) (pa_cons join (pa_cons what pa_nil rfl) rfl)))
  have all := appsRun (c := c) hz.zc ⟨vs, hvs⟩ (cl.ec c hc) h1 (.inl h2) h3 h4 (.inl h5) h6 h16 h17 _ _ ret cs apps sh fun m hm => ⟨cl.gl m hm, cl.mg m hm, cl.ok m hm, cl.kit c hc m hm⟩
  refine (pss_cons (ps_set (X := Y.suite a ((a, oe) :: pn)) (i := jf) (pos := p9) (pos' := p7) hN h4 (.inl h5) (pe_lst (pos := p8) pa_nil) rfl (.inr h5)) all).run pins s σ H D I ?_
  refine ⟨Nat.zero_le _, fun L hL => ?_⟩
  have jl : jf < σ.length := by rw [len]; exact (List.getElem?_eq_some_iff.mp h4).1
  have Ld : d ≠ L := fun z => by
    rw [z, hL] at hxd
    cases hxd
  refine ⟨ρ, μ, H, L, fs, [], [], ⟨Post.fresh R hL, hL, R.out hL, upd_same, rfl, fun i x h => by simp at h, by rw [upd_ne Ld]; exact hxd⟩, ?_, ?_, ?_, fun H' xs' n => ?_⟩
  · rw [List.getElem?_set_ne (Ne.symm h12)]
    exact hi
  · rw [List.getElem?_set_self jl]
  · have := cl.few
    simp
    omega
  · have lw : xs'.length = (cs.map fun m => (Str.ofString m, decide (c = m))).length := by simpa using n.len
    have few : (cs.map fun m => (Str.ofString m, decide (c = m))).length < 1000 := by
      rw [List.length_map]
      have := cl.few
      omega
    refine ⟨⟨_, rfl⟩, .ref L, List.getElem?_set_self jl, L, xs', _, rfl, n.lst, lw, few, by simpa using n.wat, fun D' hD' => ?_⟩
    have eqn : (((cs.map fun m => (Str.ofString m, decide (c = m))).filter (·.2)).map fun w => V.str w.1) = ((((cs.map fun m => (Str.ofString m, decide (c = m))).filter (·.2)).map (·.1)).map V.str) := by
      rw [List.map_map]
      rfl
    refine ⟨" ", D', (((cs.map fun m => (Str.ofString m, decide (c = m))).filter (·.2)).map (·.1)), rfl, rfl, .inl (SqL.of (by rw [← eqn]; exact upd_same)), ?_, ?_⟩
    · rw [words_one c cs cl.nd]
      split
      · rename_i hm
        have := cl.ln c hm
        have e1 : (" " : Str).length = 1 := rfl
        simp
        rw [e1]
        omega
      · simp
    · rw [join_one c cs cl.nd]
      have dD : d ≠ D' := fun z => by
        have e := n.xd
        rw [z, hD'] at e
        cases e
      refine ⟨.ref a, by rw [List.getElem?_set_ne (Ne.symm h12)]; exact hi, rfl, rfl, d, fs, v, rfl, by rw [upd_ne dD]; exact n.xd, hlk, show (2 : Nat) ≤ sizeLine by decide, fun p hp => ?_⟩
      exact k _ p (n.post.trans (Post.fresh n.post.rel hD')) hp
end Ev

set_option Elab.async false
set_option linter.all false
set_option maxRecDepth 100000
/-! EvR: a lambda handed to the def that hears. Own work. -/
namespace Ev
open PySem PySem.Spec PyProof.Rows L2
open Classical
variable [Tb]
section
variable {K : PySem.W.Frag} {ρ : List Addr} {μ : Mu} {H H1 : Hp}
/-- all but the tables stay -/
theorem Post.ext (R : Rel K ρ μ H) (e : LamX.ExtN H H1) (t : LamX.Tabs Tb.T H1) : Post K ρ H ρ μ H1 := by
  have kp : ∀ a u, H a = some u → Pr u → H1 a = some u := fun a u h n => e a u h n
  have L : Las K ρ H ρ H1 := by
    refine ⟨⟨[], by simp⟩, fun a ws h => ?_, fun a ns h => ?_⟩
    · rcases h with (h | ⟨u, h⟩) | h
      · exact .inl (.inl (kp _ _ h fun _ z => nomatch z))
      · exact .inl (.inr ⟨u, kp _ _ h fun _ z => nomatch z⟩)
      · exact .inr h
    · rcases h with ⟨u, h⟩ | h
      · exact .inl ⟨u, kp _ _ h fun _ z => nomatch z⟩
      · exact .inr h
  refine ⟨⟨[], by simp⟩, ⟨R.nd, R.len, fun i m em => ?_, t⟩, fun a o h pr _ => kp a o h pr, fun _ _ _ _ n => n⟩
  obtain ⟨a, ha, mo⟩ := R.at_ i m em
  refine ⟨a, ha, ?_⟩
  cases m with
  | lst xs =>
    obtain ⟨vs, q, r⟩ := mo
    exact ⟨vs, kp _ _ q pr_lst, RVs.las L xs vs r⟩
  | dct _ => exact mo.elim
end
/-- the plain hearing: what is wanted of the lambda -/
def TTp (K : PySem.W.Frag) (CS : Addr) : (XK → Hp → VK → Prop) → Hp → VK → Prop := fun tl H Q =>
  tl (fun cls _ H' => PySem.W.exmOne K cls (.ref CS) = some true ∧ ∀ a, H' a = none → Q (.ref a) (upd H' a (.tup [.str "refused", .non]))) H fun v H1 => [V.str "told", v].length ≤ sizeLine ∧ ∀ a, H1 a = none → Q (.ref a) (upd H1 a (.tup [.str "told", v]))
theorem plain_gives {X : Cx} {Ng : List Str} {x a e q : Str} {sg : Scope} {g CS : Addr} {cdg : Value} {j1 j2 j3 k1 k2 : Nat} {p1 p2 p3 p4 p5 p6 p7 p8 p9 p10 p11 p12 : Pos} (hge : sg.names.lookup e = some .globalImplicit) (hme : X.mg e = some (.ref CS)) (hde : (e == ("__debug__" : Str)) = false)
    (h0 : ∀ f : Addr, (L2.start Ng [V.ref f])[0]? = some (some (V.ref f))) :
    GivesN X Ng x sg g cdg [.Try [.Return (some (.Tuple [.Constant (.str "told") j1 p1, .Call (.Name a p2) [] [] p3] k1 p4)) p5]
      [.ExceptHandler (some (.Name e p6)) none [.Return (some (.Tuple [.Constant (.str "refused") j2 p7, .Constant .none j3 p8] k2 p9)) p10] p11] [] [] p12] a q (TTp X.K CS) := by
  intro f c' s H Q tl act hc h
  have hgl : Gl (cxOf C8.CX0 X.prog X.w X.K X.mg X.base Ng x sg g cdg X.A X.stack s H C8.E0).nox e := hge
  refine ⟨_, pss_one (ps_try_only (X := (cxOf C8.CX0 X.prog X.w X.K X.mg X.base Ng x sg g cdg X.A X.stack s H C8.E0).nox) (c := .ref CS)
      (tb := fun W D σ H => ∃ Ech : XK, (∀ cls d σ' H', Ech cls d H' → W cls d σ' H') ∧ σ[0]? = some (some (.ref f)) ∧ H c' = some (LamX.CodeO c' q) ∧ tl Ech H fun v H1 => [V.str "told", v].length ≤ sizeLine ∧ ∀ a, H1 a = none → D.rt (.ref a) (upd H1 a (.tup [.str "told", v])))
      rfl rfl ⟨hgl, hde, .inl hme⟩ LamX.takes0 (fun W pn xe tk _ => ?_) (fun a oe cls d pn _ _ => pss_one (ps_ret (pe_tup (pa_cons pe_str (pa_cons pe_non pa_nil rfl) rfl))))), ?_⟩
  · refine ⟨fun pins s' σ H' D I h' => ?_⟩
    obtain ⟨Ech, hW, h1, h2, h3⟩ := h'
    have hp := act W pn xe Ech p2 p3 (takesN tk)
    have hq := pss_one (ps_ret (pos := p5) (pe_tup (x1 := k1) (pos := p4) (pa_cons (pe_str (x := "told") (j := j1) (pos := p1)) (pa_cons hp pa_nil rfl) rfl)))
    exact hq.run pins s' σ H' D I ⟨h1, h2, fun cls d H2 h => hW cls d σ H2 h, h3⟩
  · exact ⟨_, fun cls d σ' H' ⟨e1, e2⟩ => ⟨true, e1, fun _ a _ => ⟨by decide, fun p hp => e2 p hp⟩, fun z => nomatch z⟩, h0 f, hc, h⟩
theorem named_gives {X : Cx} {Ng : List Str} {q g0 a e x fnd nm io : Str} {sg : Scope} {g CS : Addr} {cdg : Value} {al cs : List String} {i jf jn jo j1 j2 k1 k2 k3 : Nat} {p1 p2 p3 p4 p5 p6 p7 p8 p9 p10 p11 p12 p13 p14 p15 p16 p17 p18 p19 p20 p21 p22 p23 p24 p25 : Pos} {apps : List Stmt} {scope : Scope} (cl : ClsAt X.K X.mg sg CS al cs) (sh : AppsSh fnd x cs apps) (hl : lineB p11 p19 = true)
    (he : sg.names.lookup e = some .globalImplicit) (hme : X.mg e = some (.ref CS)) (hde : (e == ("__debug__" : Str)) = false) (hN : Ng.Nodup) (len1 : 1 ≤ Ng.length) (h1 : Ng[i]? = some x) (h2 : sg.names.lookup x = some .local) (h3 : okN x = true) (h4 : Ng[jf]? = some fnd) (h5 : sg.names.lookup fnd = some .local) (h6 : okN fnd = true) (h7 : Ng[jn]? = some nm) (h8 : okN nm = true) (h9 : Ng[jo]? = some io) (h10 : okN io = true) (h11 : jn ≠ jo) (h12 : i ≠ jf)
    (h13 : blkC Ng sg scope [(nm, jn), (io, jo)] = true) (h14 : scope.names.lookup nm = some .local) (h15 : scope.names.lookup io = some .local) (h16 : sg.names.lookup ("isinstance" : Str) = some .globalImplicit) (h17 : X.mg ("isinstance" : Str) = none) :
    GivesN X Ng g0 sg g cdg [.Try [.Return (some (.Tuple [.Constant (.str "told") j1 p1, .Call (.Name a p2) [] [] p3] k1 p4)) p5] [.ExceptHandler (some (.Name e p6)) (some x) (.Assign [.Name fnd p7] (.List [] p8) p9 ::
        (apps ++ [.Return (some (.Tuple [.Call (.Attribute (.Constant (.str " ") j2 p10) "join" p11) [.ListComp (.Name nm p12) [⟨.Tuple [.Name nm p13, .Name io p14] k2 p15, .Name fnd p16, [.Name io p17], 0⟩] scope p18] [] p19, .Attribute (.Name x p20) "what" p21] k3 p22)) p23])) p24] [] [] p25] a q (TTn X.K al cs) := by
  intro f c' s H Q tl act hc want
  have l0 : (L2.start Ng [V.ref f]).length = Ng.length := by
    unfold L2.start
    simp
    omega
  refine ⟨_, pss_one (L2N.ps_try_as (X := (gCx X Ng g0 sg g cdg s H).nox) (c := .ref CS) (i := i) (ts := tsN X.K al cs i Ng.length)
      (tb := fun W D σ H => ∃ Ech : XK, (∀ cls dd H', Ech cls dd H' → W cls dd σ H') ∧ σ[0]? = some (some (.ref f)) ∧ H c' = some (LamX.CodeO c' q) ∧ tl Ech H fun v H1 => [V.str "told", v].length ≤ sizeLine ∧ ∀ a, H1 a = none → D.rt (.ref a) (upd H1 a (.tup [.str "told", v])))
      rfl rfl hN h1 h2 ⟨he, hde, .inl hme⟩ takesN0 (fun W pn xe tk _ => ?_) (fun a oe cls dd pn hz hf => suiteN (Y := (gCx X Ng g0 sg g cdg s H).nox) cl sh hl hN h1 h2 h3 h4 h5 h6 h7 h8 h9 h10 h11 h12 h13 h14 h15 h16 h17 a oe cls dd pn hz hf)), ?_⟩
  · refine ⟨fun pins s' σ H' D I h' => ?_⟩
    obtain ⟨Ech, hW, z1, z2, z3⟩ := h'
    have hp := act W pn xe Ech p2 p3 tk
    have hq := pss_one (ps_ret (pos := p5) (pe_tup (x1 := k1) (pos := p4) (pa_cons (pe_str (x := "told") (j := j1) (pos := p1)) (pa_cons hp pa_nil rfl) rfl)))
    exact hq.run pins s' σ H' D I ⟨z1, z2, hW, z3⟩
  · refine ⟨_, fun cls dd H' hE => ?_, rfl, hc, want⟩
    obtain ⟨c, m1, rfl, d, fs, v, ρ, μ, rfl, m2, m3, m4, m5⟩ := hE
    refine ⟨true, cl.ex c m1, fun _ b hb => ?_, fun z => nomatch z⟩
    refine ⟨?_, ?_, c, m1, rfl, d, fs, v, ρ, μ, rfl, m2, m3, m4, m5⟩
    · rw [List.getElem?_set_self (by rw [l0]; exact (List.getElem?_eq_some_iff.mp h1).1)]
    · rw [List.length_set]
      exact l0
theorem lam_empty {as : Arguments} (h : (as.posonlyargs.isEmpty && as.args.isEmpty && as.kwonlyargs.isEmpty && as.vararg.isNone && as.kwarg.isNone && as.defaults.isEmpty && as.kw_defaults.isEmpty) = true) : as = ⟨[], [], none, [], [], none, []⟩ := by
  obtain ⟨a1, a2, a3, a4, a5, a6, a7⟩ := as
  simp only [Bool.and_eq_true, List.isEmpty_iff, Option.isNone_iff_eq_none] at h
  obtain ⟨⟨⟨⟨⟨⟨h1, h2⟩, h3⟩, h4⟩, h5⟩, h6⟩, h7⟩ := h
  simp_all
theorem heardOk {G : Gm} {n : Nat} {N : List Str} : HeardOk G n N := by
  intro C W sc g h as e f scope p pos d gd hl hg hs has hbody
  obtain ⟨fa, pg, bg, sg, oc, dV, kV, doc, pm, cdv, ct, od, an, osl, a, Ng, m1, m2, m3, m4, m5, m6, m7, m8, m9, m10, sh⟩ := gd.hrd g h hl
  obtain ⟨q, rfl, g1, g2⟩ := gName_at hg
  obtain ⟨c, P, c1, c2, c3, c4⟩ := (gd.lam rfl).tab
  have L : LamX.LamS C.env.scope scope := by
    rw [gd.hsc]
    exact LamX.lamS_by hs
  have e0 := lam_empty has
  subst e0
  simp only [okN, Bool.and_eq_true, Bool.not_eq_true'] at m9 m10
  have h0 : ∀ f : Addr, (L2.start Ng [V.ref f])[0]? = some (some (V.ref f)) := fun f => rfl
  have body : ∀ (A : Around) (outer : List Env) (s : Shared) (H : Hp) (E : XK) (f c' : Addr), Room (lv n + 3) (A.deeper (LamX.lamEnv C scope s.heap.objs.size f c')) → PE (lamN C A outer s H E scope f c') e (tF C.K (WE E) d) := fun A outer s H E f c' hr => hbody _ _ rfl {
    calm := rfl
    hN := gd.hN
    nd := gd.nd
    hsc := rfl
    tk := L2N.takes_of rfl rfl rfl rfl
    room := hr
    lam := fun z => nomatch z
    fn := gd.fn
    free := gd.free
    con := gd.con
    hrd := gd.hrd }
  cases h with
  | named al cs =>
    obtain ⟨ex, x, fnd, nm, io, CS, i, jf, jn, jo, j1, j2, k1, k2, k3, p1, p2, p3, p4, p5, p6, p7, p8, p9, p10, p11, p12, p13, p14, p15, p16, p17, p18, p19, p20, p21, p22, p23, p24, p25, apps, scope2, rfl, s1, s2, s3, s4, s5, s6, s7, s8, s9, s10, s11, s12, s13, s14, s15, s16, s17, s18, s19, s20, s21, s22, s23⟩ := sh
    have len1 : 1 ≤ Ng.length := (List.getElem?_eq_some_iff.mp m7).1
    refine (lamcallN (T := Tb.T) (t := fun E => tF C.K (WE E) d) (k := lv n + 3) (gd.gl g1) m1 m2 m3 m4 m5 m6 m7 m8 (named_gives s23 s1 s2 s3 s4 s5 m6.nd len1 s6 s7 s8 s9 s10 s11 s12 s13 s14 s15 s16 s17 s18 s19 s20 s21 s22) c2 c1 c3 c4 (gd.room.mono (by simp)) L rfl (fun _ _ _ _ _ => rfl) body m10.1.1 m9.1.1 m9.1.2).imp fun σ H Q q => ?_
    obtain ⟨ρ, μ, σp, R, S, q⟩ := q
    refine ⟨R.tabs, fun H1 he ht => ?_⟩
    have P1 := Post.ext R he ht
    refine ⟨ρ, μ, σp, P1.rel, S.las (P1.las R), ?_⟩
    have q' : (told (.named al cs) (d σp μ)).sat (fun x μ' => ∀ ρ' v H', Post C.K ρ H ρ' μ' H' → RA C.K H ρ' H' x v → Q v H') (EXC C.K W ρ H σ) := q
    cases hd : d σp μ with
    | bad => rw [hd] at q'; exact False.elim q'
    | ok x μ' =>
      rw [hd] at q'
      intro ρ' v H' P2 rv
      have P12 := P1.trans P2
      refine ⟨show (2 : Nat) ≤ sizeLine by decide, fun a ha => ?_⟩
      have rs : RVs C.K ρ' H' [.str "told", x] [.str "told", v] := ⟨_, _, rfl, by simp [RV], _, _, rfl, rv, rfl⟩
      exact q' ρ' _ _ (P12.trans (Post.fresh P12.rel ha)) (RA.back P12 (new_t P12.rel rs ha) fun _ h => h)
    | exc c w μ' =>
      rw [hd] at q'
      obtain ⟨hc, q'⟩ := sat_if q'
      intro ρ' H' dd wv P2 rv hx
      have P12 := P1.trans P2
      refine ⟨c, hc, rfl, dd, _, wv, ρ', μ', rfl, hx, by simp [List.lookup], P12.rel, fun H2 p P3 hp => ?_⟩
      have P123 := P12.trans P3
      have rs : RVs C.K ρ' H2 [.str (if c ∈ cs then Str.ofString c else Str.empty), w] [.str (if c ∈ cs then Str.ofString c else Str.empty), wv] := ⟨_, _, rfl, by simp [RV], _, _, rfl, RV.las (P3.las P12.rel) _ _ rv, rfl⟩
      exact q' ρ' _ _ (P123.trans (Post.fresh P123.rel hp)) (RA.back P123 (new_t P123.rel rs hp) fun _ h => h)
  | plain al =>
    obtain ⟨ex, CS, j1, j2, j3, k1, k2, p1, p2, p3, p4, p5, p6, p7, p8, p9, p10, p11, p12, rfl, s1, s2, s3, s4⟩ := sh
    refine (lamcallN (T := Tb.T) (t := fun E => tF C.K (WE E) d) (k := lv n + 3) (gd.gl g1) m1 m2 m3 m4 m5 m6 m7 m8 (plain_gives s1 s2 s3 h0) c2 c1 c3 c4 (gd.room.mono (by simp)) L rfl (fun _ _ _ _ _ => rfl) body m10.1.1 m9.1.1 m9.1.2).imp fun σ H Q q => ?_
    obtain ⟨ρ, μ, σp, R, S, q⟩ := q
    refine ⟨R.tabs, fun H1 he ht => ?_⟩
    have P1 := Post.ext R he ht
    refine ⟨ρ, μ, σp, P1.rel, S.las (P1.las R), ?_⟩
    have q' : (told (.plain al) (d σp μ)).sat (fun x μ' => ∀ ρ' v H', Post C.K ρ H ρ' μ' H' → RA C.K H ρ' H' x v → Q v H') (EXC C.K W ρ H σ) := q
    cases hd : d σp μ with
    | bad => rw [hd] at q'; exact False.elim q'
    | ok x μ' =>
      rw [hd] at q'
      intro ρ' v H' P2 rv
      have P12 := P1.trans P2
      refine ⟨show (2 : Nat) ≤ sizeLine by decide, fun a ha => ?_⟩
      have rs : RVs C.K ρ' H' [.str "told", x] [.str "told", v] := ⟨_, _, rfl, by simp [RV], _, _, rfl, rv, rfl⟩
      exact q' ρ' _ _ (P12.trans (Post.fresh P12.rel ha)) (RA.back P12 (new_t P12.rel rs ha) fun _ h => h)
    | exc c w μ' =>
      rw [hd] at q'
      obtain ⟨hc, q'⟩ := sat_if q'
      intro ρ' H' dd wv P2 rv hx
      have P12 := P1.trans P2
      refine ⟨s4 c hc, fun a ha => ?_⟩
      have rs : RVs C.K ρ' H' [.str "refused", .non] [.str "refused", .non] := ⟨_, _, rfl, by simp [RV], _, _, rfl, by simp [RV], rfl⟩
      exact q' ρ' _ _ (P12.trans (Post.fresh P12.rel ha)) (RA.back P12 (new_t P12.rel rs ha) fun _ h => h)
end Ev

set_option Elab.async false
set_option linter.all false
set_option maxRecDepth 100000
/-! EvS: from the head's facts to the defs' promises. Own work. -/
namespace Ev
open PySem PySem.Spec PyProof.Rows L2
open Classical
section
variable {P : Program} {w : World} {K : PySem.W.Frag} {mg : Str → Option Value} {base : Heap}
theorem fnB_of [Tb] {G : Gm} {f : String} {d : Fd} {hd : Bool} {params : Arguments} {body : List Stmt} {scope : Scope} {fd : FuncData} (F : FunD K (Str.ofString f) (Str.ofString f) params body scope [] [] (He.fAd K (Str.ofString f, none)) fd) (gm : mg (Str.ofString f) = some (.ref (He.ga K (Str.ofString f))))
    (S : FnScope d.N d.ps scope) (bn : ∀ (kV doc pm : Value) (an : Option Addr) (cdv ct : Value) (us : List Value), us.length = d.ps.length → bindArgs (PySem.W.fnOf (Str.ofString f) (Str.ofString f) params body scope .none kV doc pm an cdv ct) ⟨us, []⟩ = pure (d.ps.zip us))
    (ck : chkS.chkB d.N G.fs G.cls hd scope d.body body = true)
    (tab : hd = true → LamX.TabB base mg (He.cT K (Str.ofString f, none)).1 (He.cT K (Str.ofString f, none)).2 ∧ ((He.cT K (Str.ofString f, none)).2, Str.ofString f ++ ".<locals>." ++ "<lambda>") ∈ Tb.T ∧ ∀ p ∈ Tb.T, p.1 = (He.cT K (Str.ofString f, none)).2 → p.2 = Str.ofString f ++ ".<locals>." ++ "<lambda>") : FnB K mg base G f d hd := by
  have B := F.bindsN bn
  obtain ⟨oc, od, dV, kV, doc, pm, an, cdv, ct, osl, rfl, lk, hcd, _, _⟩ := F.ex
  refine ⟨He.fAd K (Str.ofString f, none), params, body, scope, oc, dV, kV, doc, pm, cdv, ct, od, an, osl, gm, F.kp, lk, hcd, S, B, ck, fun h => ?_⟩
  obtain ⟨c, rfl⟩ := He.codeIn_ref hcd
  obtain ⟨t1, t2, t3⟩ := tab h
  have e : He.codeOf K (Str.ofString f, none) = c := He.codeOf_eq lk rfl
  have e1 : (He.cT K (Str.ofString f, none)).1 = c := e
  rw [e1] at t1
  exact ⟨c, _, rfl, t1, t2, t3⟩
/-- Refused.__init__ -/
theorem init_ok {qual : Str} {params : Arguments} {body : List Stmt} {scope : Scope} {fI : Addr} {fd : FuncData} {p1 p2 p3 p4 p5 p6 p7 p8 p9 p10 : Pos} (F : FunD K "__init__" qual params body scope [] [] fI fd) (S : FnScope ["self", "what"] ["self", "what"] scope)
    (sh : body = [.Expr (.Call (.Attribute (.Name "ValueError" p1) "__init__" p2) [.Name "self" p3, .Name "what" p4] [] p5) p6, .Assign [.Attribute (.Name "self" p7) "what" p8] (.Name "what" p9) p10]) (gv : scope.names.lookup ("ValueError" : Str) = some .globalImplicit) (mv : mg ("ValueError" : Str) = none)
    (pl : Env → PySem.Sem Bool) (hc : ∀ env : Env, eval (.Call (.Attribute (.Name "ValueError" p1) "__init__" p2) [.Name "self" p3, .Name "what" p4] [] p5) env = (do
      let ov ← eval (.Name "ValueError" p1) env
      standAt p2.atName
      let (f, first) ← holding [ov] (getMethod ov "__init__" (pl env))
      callWith p5 f first (backTo p5 (starEach [.Name "self" p3, .Name "what" p4] env)) (backToKw p5 (keywordEach [] env))))
    (vV : PySem.W.findCls K (.type "ValueError") (.type "type") "__init__" = some (.val (.builtin "ValueError.__init__"))) : FnOk P w K mg base (L2N.CX P w) 5 fI fd ["self", "what"] (spI K) := by
  subst sh
  have v1 : scope.names.lookup ("self" : Str) = some .local ∨ scope.names.lookup ("self" : Str) = some .cell := S.par _ (by simp)
  have v2 : scope.names.lookup ("what" : Str) = some .local ∨ scope.names.lookup ("what" : Str) = some .cell := S.par _ (by simp)
  refine F.ok (k := 4) S (fun vs H Q E h => ?_) (fun cdv A outer s H vs Q E hr h => ?_)
  · obtain ⟨a, A, w, rfl, _⟩ := h
    rfl
  · obtain ⟨a, C, v, rfl, T, hw, ha, k⟩ := h
    let X := cxOf (L2N.CX P w) P w K mg base ["self", "what"] qual scope fI cdv A outer s H E
    have s1 : PE X (.Name "self" p3) (tVar 0) := pe_var (X := X) rfl (v1.elim .inl fun z => .inr (.inl z))
    have s2 : PE X (.Name "what" p4) (tVar 1) := pe_var (X := X) rfl (v2.elim .inl fun z => .inr (.inl z))
    have s3 : PE X (.Name "self" p7) (tVar 0) := pe_var (X := X) rfl (v1.elim .inl fun z => .inr (.inl z))
    have s4 : PE X (.Name "what" p9) (tVar 1) := pe_var (X := X) rfl (v2.elim .inl fun z => .inr (.inl z))
    have c1 := pe_veinit (X := X) (p1 := p1) (p2 := p2) (pos := p5) gv mv vV (pa_cons s1 (pa_cons s2 pa_nil rfl) rfl) (hc _)
    refine ⟨_, pss_cons (ps_expr c1 rfl) (pss_one (ps_ost (p' := p8) (pos := p10) s3 s4 rfl)), ?_⟩
    exact ⟨_, rfl, _, rfl, a, C, [v], rfl, by simp, T, ha, _, rfl, _, rfl, a, C, rfl, T, hw, .inl ⟨ha, fun dx y1 y2 => k dx y1 y2⟩⟩
end
end Ev

set_option Elab.async false
set_option linter.all false
set_option maxRecDepth 100000
/-! EvT: the law's end. Own work. -/
namespace Ev
open PySem PySem.Spec PyProof.Rows L2
open Classical
abbrev tbOf (K : PySem.W.Frag) (tf : List He.Defn) : Tb := ⟨tf.map fun p => ((He.cT K p).2, p.1 ++ ".<locals>." ++ "<lambda>")⟩
theorem lawAt {l : PySem.W.OpenLaw} {w : World} {K : PySem.W.Frag} {mg : Str → Option Value} {fa : Addr} {h : Heap} {tf : List He.Defn} (m : Nat) {n : Nat} {x : Str} {G : Gm} {d : Fd} {params : Arguments} {body : List Stmt} {scope : Scope} {fd : FuncData} (hf : G.fns.lookup "law" = some d) (ps : d.ps = [x])
    (gm : mg (Str.ofString "law") = some (.ref fa)) (X : K.In h) (s1 : ∀ p ∈ tf, PySem.W.codeHdIn K (He.cT K p).1 (He.cT K p).2 = true) (s2 : ∀ p ∈ tf, K.lookup (He.cT K p).2 = none) (s3 : ∀ p ∈ tf, h.get? (He.cT K p).2 = some { cls := .none, data := .fields #[] })
    (F : FunD K (Str.ofString "law") (Str.ofString "law") params body scope [] [] fa fd) (bn : ∀ (kV doc pm : Value) (an : Option Addr) (cdv ct : Value) (us : List Value), us.length = [x].length → bindArgs (PySem.W.fnOf (Str.ofString "law") (Str.ofString "law") params body scope .none kV doc pm an cdv ct) ⟨us, []⟩ = pure ([x].zip us))
    (all : ∀ base : Heap, K.In base → base.Ns mainGlobals mg → (∀ p ∈ tf, LamX.TabB base mg (He.cT K p).1 (He.cT K p).2) → ∀ C : Cx, C.prog = l.prog → C.w = w → C.K = K → C.mg = mg → C.base = base → @FnAt (tbOf K tf) G m C)
    (ev : ∀ ns : List Int, ns.length ≤ n → (∀ z ∈ ns, Builtin.Int.intBits z ≤ 1048576) → (∃ μ, callN G m "law" [.frz ns] [] = .ok (.bl true) μ) ∧ ∃ μ, callN G m "law" [.ref 0] [.lst (ns.map .int)] = .ok (.bl true) μ) :
    LamX.LawAtS l w K (L2N.CX l.prog w) (lv m) n x mg fa h := by
  letI : Tb := tbOf K tf
  refine ⟨fd, tf.map (He.cT K), spF K G m "law", ?_, ?_, ?_, fun s v => F.bindsA bn s [v] rfl, ?_, ?_⟩
  · intro p hp
    obtain ⟨q, hq, rfl⟩ := List.mem_map.mp hp
    exact s3 q hq
  · intro p hp
    obtain ⟨q, hq, rfl⟩ := List.mem_map.mp hp
    exact s2 q hq
  · intro p hp
    obtain ⟨q, hq, rfl⟩ := List.mem_map.mp hp
    exact PySem.W.codeHd_of_K X (s1 q hq)
  · intro H a ns hl hb hT hS
    have tabs : LamX.Tabs Tb.T H := fun p hp => by
      obtain ⟨q, hq, rfl⟩ := List.mem_map.mp hp
      exact LamX.TabS.nil (hT _ (List.mem_map.mpr ⟨q, hq, rfl⟩))
    obtain ⟨⟨μ1, e1⟩, μ2, e2⟩ := ev ns hl hb
    have other : FrzAt K H a ns → spF K G m "law" [.ref a] H (fun v _ => v = .bl true) fun _ _ _ => False := fun fz => by
      refine ⟨[], [], [.frz ns], ⟨List.nodup_nil, rfl, fun i o e => by simp at e, tabs⟩, ⟨_, _, rfl, ?_, rfl⟩, ?_⟩
      · simp only [RV]
        exact ⟨a, rfl, fz⟩
      · rw [e1]
        intro ρ' v H' P r
        simpa [RV] using r
    rcases hS with (hL | hL) | hL
    · refine ⟨[a], [.lst (ns.map .int)], [.ref 0], ⟨by simp, rfl, fun i o e => ?_, tabs⟩, ⟨_, _, rfl, ?_, rfl⟩, ?_⟩
      · cases i with
        | zero =>
          cases e
          exact ⟨a, rfl, _, hL, RVs.ints ns⟩
        | succ i => simp at e
      · simp only [RV]
        exact ⟨a, rfl, rfl⟩
      · rw [e2]
        intro ρ' v H' P r
        simpa [RV] using r
    · exact other (.inl hL)
    · exact other (.inr hL)
  · intro base hK hG hT
    have tabs : ∀ p ∈ tf, LamX.TabB base mg (He.cT K p).1 (He.cT K p).2 := fun p hp => hT _ (List.mem_map.mpr ⟨p, hp, rfl⟩)
    have key : ∀ C : Cx, C.prog = l.prog → C.w = w → C.K = K → C.mg = mg → C.base = base → FnOk l.prog w K mg base (L2N.CX l.prog w) (lv m) fa fd [x] (spF K G m "law") := fun C e1 e2 e3 e4 e5 => by
      obtain ⟨fa', fd', q1, _, ⟨oc, od, osl, lk⟩, Fn, _⟩ := all base hK hG tabs C e1 e2 e3 e4 e5 "law" d hf
      rw [e4, gm] at q1
      rw [e3] at lk
      rw [e1, e2, e3, e4, e5] at Fn
      cases q1
      obtain ⟨oc2, od2, dV, kV, doc, pm, an, cdv, ct, osl2, rfl, lk2, _⟩ := F.ex
      rw [lk2] at lk
      cases lk
      rw [ps] at Fn
      exact Fn
    refine ⟨fun vs H Q E h => ?_, fun A outer s H args us vs Q E hr he hb hv hs => (key (cxOf (L2N.CX l.prog w) l.prog w K mg base [] (Str.ofString "law") scope fa .none A outer s H E) rfl rfl rfl rfl rfl).run A outer s H args us vs Q E hr he hb hv hs⟩
    obtain ⟨ρ, μ, args, R, r, q⟩ := h
    rw [← RVs.length r]
    cases m with
    | zero => exact False.elim q
    | succ m =>
      by_cases hl : args.length = d.ps.length
      · rw [hl, ps]
      · exfalso
        simp only [callN, hf, if_neg hl] at q
        exact q
end Ev

set_option Elab.async false
set_option linter.all false
set_option maxRecDepth 100000
/-! EvU: what the head must tell of the classes, as one Bool. Own work. -/
namespace Ev
open PySem PySem.Spec PyProof.Rows L2
def oexB (K : PySem.W.Frag) (C : Addr) : Bool := (match K.lookup C with
    | some ⟨.type ty, _, .cls cd, sl⟩ => ty == "type" && cd.hasDict && !cd.hasDel && (match cd.mro, sl.toList with
      | .ref D :: bm, [_, _, _, _, some (.builtin id), _] => D == C && id == "ValueError.__new__" && PySem.HandSPX.refsVE bm
      | _, _ => false)
    | _ => false) && decide (PySem.W.findIn K (.ref C) "__setattr__" = some (some (.builtin "object.__setattr__"))) && decide (PySem.W.subIn K (.ref C) (.type "BaseException") = some true) && decide (PySem.W.typeIn K (.ref C) = some (.type "type")) && PySem.W.keepIn K (.ref C)
theorem oexB_ok {K : PySem.W.Frag} {C : Addr} (h : oexB K C = true) : OexC K C := by
  unfold oexB at h
  simp only [Bool.and_eq_true, decide_eq_true_eq] at h
  obtain ⟨⟨⟨⟨h1, h2⟩, h3⟩, h4⟩, h5⟩ := h
  refine ⟨?_, h2, h3, h4, h5⟩
  split at h1
  · rename_i ty dd cd sl look
    simp only [Bool.and_eq_true, beq_iff_eq, Bool.not_eq_true'] at h1
    obtain ⟨⟨⟨rfl, e2⟩, e3⟩, h1⟩ := h1
    split at h1
    · rename_i D bm k0 k1 k2 k3 id k5 em es
      simp only [Bool.and_eq_true, beq_iff_eq] at h1
      obtain ⟨⟨rfl, rfl⟩, hb⟩ := h1
      obtain ⟨nm, bs, mro, ns, qn, hd, sn, sub, ab, col, del⟩ := cd
      dsimp only at em e2 e3
      subst em e2 e3
      obtain ⟨l⟩ := sl
      dsimp only at es
      subst es
      exact ⟨nm, qn, ns, bs, bm, sn, sub, ab, col, dd, k0, k1, k2, k3, k5, look, hb⟩
    · cases h1
  · cases h1
def ecB (K : PySem.W.Frag) (D : Addr) : Bool := decide (PySem.W.findIn K (.ref D) "__getattribute__" = some (some (.builtin "BaseException.__getattribute__"))) && decide (PySem.W.findIn K (.ref D) "__getattr__" = some none) && decide (PySem.W.subIn K (.ref D) (.type "BaseException") = some true) && PySem.W.hasDictIn K D &&
  decide (PySem.W.findIn K (.ref D) "__class__" = some (some (.builtin "object.__class__"))) && decide (PySem.W.specialIn K (.builtin "object.__class__") "__get__" = some (some (.builtin "getset_descriptor.__get__"))) && decide (PySem.W.takesIn K (.builtin "object.__class__") = some true) && decide (PySem.W.mroIn K D (.type "object") = some true)
theorem ecB_ok {K : PySem.W.Frag} {D : Addr} (h : ecB K D = true) : ExcC K D := by
  unfold ecB at h
  simp only [Bool.and_eq_true, decide_eq_true_eq] at h
  obtain ⟨⟨⟨⟨⟨⟨⟨h1, h2⟩, h3⟩, h4⟩, h5⟩, h6⟩, h7⟩, h8⟩ := h
  exact ⟨h1, h2, h3, h4, h5, h6, h7, h8⟩
end Ev

set_option Elab.async false
set_option linter.all false
set_option maxRecDepth 100000
/-! EvV: facts of built-ins that hold in any fragment. Own work. -/
namespace Ev
open PySem PySem.Spec PyProof.Rows L2
theorem findCls_ve (K : PySem.W.Frag) : PySem.W.findCls K (.type "ValueError") (.type "type") "__init__" = some (.val (.builtin "ValueError.__init__")) := by
  unfold PySem.W.findCls
  kernel_rfl
theorem cls_get (K : PySem.W.Frag) : PySem.W.specialIn K (.builtin "object.__class__") "__get__" = some (some (.builtin "getset_descriptor.__get__")) := by
  unfold PySem.W.specialIn
  kernel_rfl
theorem cls_takes (K : PySem.W.Frag) : PySem.W.takesIn K (.builtin "object.__class__") = some true := by
  unfold PySem.W.takesIn
  kernel_rfl
end Ev

set_option Elab.async false
set_option linter.all false
set_option maxRecDepth 100000
/-! EvY: from the head's facts to every def's promise. Own work. -/
namespace Ev
open PySem PySem.Spec PyProof.Rows L2
open Classical
def initAt : He.Defn := ("Refused", some "__init__")
/-- what the head tells of the classes and the tables -/
def litsOf (tf : List He.Defn) (al : List String) (K : PySem.W.Frag) : Bool := decide (PySem.W.typeIn K (.ref (He.fAd K initAt)) = some (.type "function")) && (decide ((tf.map fun p => (He.cT K p).2).Nodup) && al.all fun c =>
  oexB K (He.ga K (Str.ofString c)) && (decide (PySem.W.findIn K (.ref (He.ga K (Str.ofString c))) "__init__" = some (some (.ref (He.fAd K initAt)))) && (decide (PySem.W.findIn K (.ref (He.ga K (Str.ofString c))) whatS = some none) && (xfB K (He.ga K (Str.ofString c)) &&
  (decide (PySem.W.findIn K (.ref (He.ga K (Str.ofString c))) "__class__" = some (some (.builtin "object.__class__"))) && (decide (PySem.W.mroIn K (He.ga K (Str.ofString c)) (.type "object") = some true) &&
  (decide (PySem.W.exmOne K (.ref (He.ga K (Str.ofString c))) (.ref (He.ga K "Refused")) = some true) && (al.all fun m => decide (PySem.W.kitOne K (.ref (He.ga K (Str.ofString c))) (.ref (He.ga K (Str.ofString m))) = some (decide (c = m)))))))))))
structure LitC (al : List String) (K : PySem.W.Frag) (c : String) : Prop where
  ox : OexC K (He.ga K (Str.ofString c))
  ini : PySem.W.findIn K (.ref (He.ga K (Str.ofString c))) "__init__" = some (some (.ref (He.fAd K initAt)))
  wh : PySem.W.findIn K (.ref (He.ga K (Str.ofString c))) whatS = some none
  xf : XfC K (He.ga K (Str.ofString c))
  ec : ExcC K (He.ga K (Str.ofString c))
  ex : PySem.W.exmOne K (.ref (He.ga K (Str.ofString c))) (.ref (He.ga K "Refused")) = some true
  kit : ∀ m ∈ al, PySem.W.kitOne K (.ref (He.ga K (Str.ofString c))) (.ref (He.ga K (Str.ofString m))) = some (decide (c = m))
structure LitP (tf : List He.Defn) (al : List String) (K : PySem.W.Frag) : Prop where
  ty : PySem.W.typeIn K (.ref (He.fAd K initAt)) = some (.type "function")
  nd : (tf.map fun p => (He.cT K p).2).Nodup
  each : ∀ c ∈ al, LitC al K c
theorem litsOf_ok {tf : List He.Defn} {al : List String} {K : PySem.W.Frag} (h : litsOf tf al K = true) : LitP tf al K := by
  unfold litsOf at h
  obtain ⟨h1, h⟩ := He.ba h
  obtain ⟨h2, h⟩ := He.ba h
  refine ⟨of_decide_eq_true h1, of_decide_eq_true h2, fun c hc => ?_⟩
  have h := List.all_eq_true.mp h c hc
  obtain ⟨k1, h⟩ := He.ba h
  obtain ⟨k2, h⟩ := He.ba h
  obtain ⟨k3, h⟩ := He.ba h
  obtain ⟨k4, h⟩ := He.ba h
  obtain ⟨k5, h⟩ := He.ba h
  obtain ⟨k6, h⟩ := He.ba h
  obtain ⟨k7, k8⟩ := He.ba h
  have xf := xfB_ok k4
  exact ⟨oexB_ok k1, of_decide_eq_true k2, of_decide_eq_true k3, xf, ⟨xf.ga, xf.gg, xf.exC, xf.hdC, of_decide_eq_true k5, cls_get K, cls_takes K, of_decide_eq_true k6⟩, of_decide_eq_true k7, fun m hm => of_decide_eq_true (List.all_eq_true.mp k8 m hm)⟩
theorem tb_uniq {K : PySem.W.Frag} : ∀ {tf : List He.Defn} {p : He.Defn}, (tf.map fun p => (He.cT K p).2).Nodup → p ∈ tf → ∀ q ∈ tf, (He.cT K q).2 = (He.cT K p).2 → q = p
  | [], _, _, hp, _, _, _ => by simp at hp
  | a :: tf, p, hn, hp, q, hq, e => by
    rw [List.map_cons, List.nodup_cons] at hn
    rcases List.mem_cons.mp hp with e1 | hp'
    · rcases List.mem_cons.mp hq with e2 | hq'
      · rw [e1, e2]
      · subst e1
        exact (hn.1 (List.mem_map.mpr ⟨q, hq', e⟩)).elim
    · rcases List.mem_cons.mp hq with e2 | hq'
      · subst e2
        exact (hn.1 (List.mem_map.mpr ⟨p, hp', e.symm⟩)).elim
      · exact tb_uniq hn.2 hp' q hq' e
theorem tab_of {K : PySem.W.Frag} {mg : Str → Option Value} {base : Heap} {tf : List He.Defn} {x : Str} (hp : (x, none) ∈ tf) (hn : (tf.map fun p => (He.cT K p).2).Nodup) (tabs : ∀ p ∈ tf, LamX.TabB base mg (He.cT K p).1 (He.cT K p).2) :
    LamX.TabB base mg (He.cT K (x, none)).1 (He.cT K (x, none)).2 ∧ ((He.cT K (x, none)).2, x ++ ".<locals>." ++ "<lambda>") ∈ (tbOf K tf).T ∧ ∀ p ∈ (tbOf K tf).T, p.1 = (He.cT K (x, none)).2 → p.2 = x ++ ".<locals>." ++ "<lambda>" := by
  refine ⟨tabs _ hp, List.mem_map.mpr ⟨_, hp, rfl⟩, fun q hq e => ?_⟩
  obtain ⟨r, hr, rfl⟩ := List.mem_map.mp hq
  have := tb_uniq hn hp r hr e
  subst this
  rfl
theorem mem_of_lookup {β : Type} {x : String} {b : β} : ∀ {l : List (String × β)}, l.lookup x = some b → (x, b) ∈ l
  | [], h => by cases h
  | (y, c) :: l, h => by
    rw [List.lookup_cons] at h
    split at h
    · rename_i e
      cases h
      rw [beq_iff_eq.mp e]
      exact List.mem_cons_self
    · exact List.mem_cons_of_mem _ (mem_of_lookup h)
theorem con_int {K : PySem.W.Frag} {mg : Str → Option Value} {x : Str} {i : Int} (h : ∃ t, mg x = some (.int i t)) : ∃ u v, mg x = some u ∧ RelV v u ∧ ∀ ρ H, RV K ρ H (.int i) v := by
  obtain ⟨t, e⟩ := h
  exact ⟨_, .int i, e, ⟨t, rfl⟩, fun ρ H => by simp [RV]⟩
theorem initCall {p1 p2 p3 p4 p5 : Pos} (env : Env) (h1 : (p2.endLine == p5.line) = true := by rfl) : eval (.Call (.Attribute (.Name "ValueError" p1) "__init__" p2) [.Name "self" p3, .Name "what" p4] [] p5) env = (do
      let ov ← eval (.Name "ValueError" p1) env
      standAt p2.atName
      let (f, first) ← holding [ov] (getMethod ov "__init__" (plainOf (.Name "ValueError" p1) env))
      callWith p5 f first (backTo p5 (starEach [.Name "self" p3, .Name "what" p4] env)) (backToKw p5 (keywordEach [] env))) := by
  have e : eval (.Call (.Attribute (.Name "ValueError" p1) "__init__" p2) [.Name "self" p3, .Name "what" p4] [] p5) env = (eval (.Name "ValueError" p1) env >>= fun ov => standAt p2.atName >>= fun _ => methodCall (.Name "ValueError" p1) "__init__" p2 p5 env ov 2 (backTo p5 (starEach [.Name "self" p3, .Name "what" p4] env)) (backToKw p5 (keywordEach [] env))) := by
    first | rfl | (unfold eval; rfl)
  rw [e]
  congr 1
  funext ov
  congr 1
  funext _
  exact mcall_line rfl h1
section
variable {P : Program} {w : World} {K : PySem.W.Frag} {mg : Str → Option Value} {base : Heap}
theorem exAt_of {tf : List He.Defn} {al : List String} {G : Gm} {fd : FuncData} (L : LitP tf al K) (hc : ∀ c ∈ G.cls, c ∈ al) (F : FnOk P w K mg base (L2N.CX P w) 5 (He.fAd K initAt) fd ["self", "what"] (spI K)) (B : Binds K fd ["self", "what"] []) (hm : ∀ c ∈ al, mg (Str.ofString c) = some (.ref (He.ga K (Str.ofString c)))) :
    ∀ C : Cx, C.prog = P → C.w = w → C.K = K → C.mg = mg → C.base = base → ExAt G C := fun C e1 e2 e3 e4 e5 => by
  subst e1 e2 e3 e4 e5
  exact ⟨fun c h => ⟨_, fd, (L.each c (hc c h)).ox, (L.each c (hc c h)).ini, (L.each c (hc c h)).wh, L.ty, F, B, hm c (hc c h)⟩⟩
theorem clsAt_of {tf : List He.Defn} {al : List String} (L : LitP tf al K) {cs : List String} (hcs : ∀ m ∈ cs, m ∈ al) {sg : Scope} (gl : ∀ m ∈ cs, sg.names.lookup (Str.ofString m) = some .globalImplicit) (hm : ∀ c ∈ al, mg (Str.ofString c) = some (.ref (He.ga K (Str.ofString c)))) (ok : ∀ m ∈ cs, okN (Str.ofString m) = true) (ln : ∀ m ∈ cs, (Str.ofString m).length ≤ 1000) (nd : cs.Nodup) (few : cs.length < 900) :
    ClsAt K mg sg (He.ga K "Refused") al cs := ⟨fun c h => (L.each c h).ex, fun c h => (L.each c h).ec, fun c h => (L.each c h).xf, fun c h => (L.each c h).wh, fun c h m h' => (L.each c h).kit m (hcs m h'), gl, fun m h => hm m (hcs m h), ok, ln, nd, few⟩
theorem hrd_of {g : String} {h : Hrd} {pg : Arguments} {bg : List Stmt} {sg : Scope} {fd : FuncData} {a : Str} {Ng : List Str} (F : FunD K (Str.ofString g) (Str.ofString g) pg bg sg [] [] (He.fAd K (Str.ofString g, none)) fd) (gm : mg (Str.ofString g) = some (.ref (He.ga K (Str.ofString g)))) (S : FnScope Ng [a] sg)
    (bn : ∀ (kV doc pm : Value) (an : Option Addr) (cdv ct : Value) (us : List Value), us.length = [a].length → bindArgs (PySem.W.fnOf (Str.ofString g) (Str.ofString g) pg bg sg .none kV doc pm an cdv ct) ⟨us, []⟩ = pure ([a].zip us))
    (n0 : Ng[0]? = some a) (vs : Vis sg a) (o1 : okN a = true) (o2 : okN (Str.ofString g) = true) (sh : HrdSh K mg Ng sg a bg h) : ∃ (fa : Addr) (pg : Arguments) (bg : List Stmt) (sg : Scope) (oc dV kV doc pm cdv ct : Value) (od an : Option Addr) (osl : Array (Option Value)) (a : Str) (Ng : List Str),
  mg (Str.ofString g) = some (.ref fa) ∧ PySem.W.keepIn K (.ref fa) = true ∧ K.lookup fa = some ⟨oc, od, .func (PySem.W.fnOf (Str.ofString g) (Str.ofString g) pg bg sg dV kV doc pm an cdv ct), osl⟩ ∧ PySem.W.codeIn K cdv (Str.ofString g) = true ∧
    Binds K (PySem.W.fnOf (Str.ofString g) (Str.ofString g) pg bg sg dV kV doc pm an cdv ct) [a] [] ∧ FnScope Ng [a] sg ∧ Ng[0]? = some a ∧ Vis sg a ∧ okN a = true ∧ okN (Str.ofString g) = true ∧ HrdSh K mg Ng sg a bg h := by
  have B := F.bindsN bn
  obtain ⟨oc, od, dV, kV, doc, pm, an, cdv, ct, osl, rfl, lk, hcd, _, _⟩ := F.ex
  exact ⟨_, pg, bg, sg, oc, dV, kV, doc, pm, cdv, ct, od, an, osl, a, Ng, gm, F.kp, lk, hcd, B, S, n0, vs, o1, o2, sh⟩
end
end Ev

set_option Elab.async false
set_option linter.all false
set_option maxRecDepth 100000
/-! EvW: tools for proofs about the evaluator. Own work. -/
namespace Ev
open PySem PySem.Spec PyProof.Rows L2
open Classical
noncomputable section
theorem sizeLine_eq : sizeLine = 16777216 := rfl
@[simp] theorem set_last (μ : Mu) (x y : MO) : (μ ++ [x]).set μ.length y = μ ++ [y] := by simp
theorem get_app {μ ν : Mu} {a : Nat} {x : MO} (h : μ[a]? = some x) : (μ ++ ν)[a]? = some x := by
  have hl : a < μ.length := by
    rcases Nat.lt_or_ge a μ.length with h' | h'
    · exact h'
    · rw [List.getElem?_eq_none h'] at h; cases h
  rw [List.getElem?_append_left hl, h]
theorem get_lt {μ : Mu} {a : Nat} {x : MO} (h : μ[a]? = some x) : a < μ.length := by
  rcases Nat.lt_or_ge a μ.length with h' | h'
  · exact h'
  · rw [List.getElem?_eq_none h'] at h; cases h
theorem whileLoop_succ (test : Sg → Mu → Out Bool) (body : Sg → Mu → Out Fl) (n : Nat) (σ : Sg) (μ : Mu) : whileLoop test body (n + 1) σ μ =
    (test σ μ).bind fun c μ1 => if c = true then (body σ μ1).bind fun f μ2 => f.turn (fun σ μ => whileLoop test body n σ μ) μ2 else .ok (.nx σ) μ1 := rfl
theorem ixN_nat {n k : Nat} (h : k < n) : ixN n (k : Int) = some k := by
  unfold ixN
  grind
theorem atI_nat {xs : List PV} {k : Nat} (h : k < xs.length) : atI xs (k : Int) = some xs[k] := by
  unfold atI
  rw [ixN_nat h]
  simp [h]
/-- a comprehension that changes nothing -/
theorem compLoop_pure {μ : Mu} {src : List Nat} {body : PV → Mu → Out (Option PV)} (g : PV → Option PV) : ∀ (xs acc : List PV), (∀ x ∈ xs, body x μ = .ok (g x) μ) → acc.length + xs.length ≤ sizeLine → compLoop μ src body xs acc μ = .ok (acc ++ xs.filterMap g) μ
  | [], acc, _, _ => by simp [compLoop]
  | x :: xs, acc, h, hl => by
    simp only [compLoop, stay_self, if_true]
    rw [h x List.mem_cons_self]
    simp only [List.length_cons] at hl
    cases hg : g x with
    | none =>
      simp only [Out.bind_ok, compGo_none]
      rw [compLoop_pure g xs acc (fun y hy => h y (List.mem_cons_of_mem _ hy)) (by omega)]
      simp [hg]
    | some y =>
      simp only [Out.bind_ok, compGo_some]
      rw [if_pos (by omega), compLoop_pure g xs (acc ++ [y]) (fun y hy => h y (List.mem_cons_of_mem _ hy)) (by rw [List.length_append]; simp only [List.length_cons, List.length_nil]; omega)]
      simp [hg]
/-- a comprehension that keeps P -/
theorem compLoop_inv {μ0 : Mu} {src : List Nat} {body : PV → Mu → Out (Option PV)} (P : Nat → List PV → Mu → Prop) : ∀ (xs : List PV) (i : Nat) (acc : List PV) (μ : Mu), P i acc μ → (∀ i acc μ, P i acc μ → stay μ0 μ src) → (∀ i acc, P i acc μ → True) →
    (∀ (k : Nat) x acc μ, xs[k]? = some x → P (i + k) acc μ → ∃ y μ', body x μ = .ok y μ' ∧ (∀ p, y = some p → acc.length < sizeLine ∧ P (i + k + 1) (acc ++ [p]) μ') ∧ (y = none → P (i + k + 1) acc μ')) →
    ∃ ys μ', compLoop μ0 src body xs acc μ = .ok ys μ' ∧ P (i + xs.length) ys μ'
  | [], i, acc, μ, h, hs, _, _ => ⟨acc, μ, by simp [compLoop, hs _ _ _ h], h⟩
  | x :: xs, i, acc, μ, h, hs, _, hb => by
    obtain ⟨y, μ1, e1, h1, h2⟩ := hb 0 x acc μ rfl (by simpa using h)
    simp only [compLoop, hs _ _ _ h, if_true, e1, Out.bind_ok]
    have tl : ∀ (k : Nat) x' acc μ, xs[k]? = some x' → P (i + 1 + k) acc μ → ∃ y μ', body x' μ = .ok y μ' ∧ (∀ p, y = some p → acc.length < sizeLine ∧ P (i + 1 + k + 1) (acc ++ [p]) μ') ∧ (y = none → P (i + 1 + k + 1) acc μ') := fun k x' acc μ hx hp => by
      have e : i + 1 + k = i + (k + 1) := by omega
      rw [e] at hp ⊢
      exact hb (k + 1) x' acc μ (by simpa using hx) hp
    have e2 : i + (x :: xs).length = i + 1 + xs.length := by simp only [List.length_cons]; omega
    rw [e2]
    cases y with
    | none =>
      simp only [compGo_none]
      exact compLoop_inv P xs (i + 1) acc μ1 (h2 rfl) hs (fun _ _ _ => trivial) tl
    | some p =>
      obtain ⟨hl, hp⟩ := h1 p rfl
      simp only [compGo_some, if_pos hl]
      exact compLoop_inv P xs (i + 1) (acc ++ [p]) μ1 hp hs (fun _ _ _ => trivial) tl
/-- a loop that keeps P, or ends with R -/
theorem forLoop_inv {μ0 : Mu} {src : List Nat} {body : PV → Sg → Mu → Out Fl} (P : Nat → Sg → Mu → Prop) (R : PV → Mu → Prop) : ∀ (xs : List PV) (i : Nat) (σ : Sg) (μ : Mu), P i σ μ → (∀ i σ μ, P i σ μ → stay μ0 μ src) →
    (∀ (k : Nat) x σ μ, xs[k]? = some x → P (i + k) σ μ → (∃ σ' μ', body x σ μ = .ok (.nx σ') μ' ∧ P (i + k + 1) σ' μ') ∨ ∃ p μ', body x σ μ = .ok (.rt p) μ' ∧ R p μ') →
    (∃ σ' μ', forLoop μ0 src body xs σ μ = .ok (.nx σ') μ' ∧ P (i + xs.length) σ' μ') ∨ ∃ p μ', forLoop μ0 src body xs σ μ = .ok (.rt p) μ' ∧ R p μ'
  | [], i, σ, μ, h, hs, _ => .inl ⟨σ, μ, by simp [forLoop, hs _ _ _ h], h⟩
  | x :: xs, i, σ, μ, h, hs, hb => by
    simp only [forLoop, hs _ _ _ h, if_true]
    have tl : ∀ (k : Nat) x' σ μ, xs[k]? = some x' → P (i + 1 + k) σ μ → (∃ σ' μ', body x' σ μ = .ok (.nx σ') μ' ∧ P (i + 1 + k + 1) σ' μ') ∨ ∃ p μ', body x' σ μ = .ok (.rt p) μ' ∧ R p μ' := fun k x' σ μ hx hp => by
      have e : i + 1 + k = i + (k + 1) := by omega
      rw [e] at hp ⊢
      exact hb (k + 1) x' σ μ (by simpa using hx) hp
    have e2 : i + (x :: xs).length = i + 1 + xs.length := by simp only [List.length_cons]; omega
    rw [e2]
    rcases hb 0 x σ μ rfl (by simpa using h) with ⟨σ1, μ1, e1, h1⟩ | ⟨p, μ1, e1, h1⟩
    · rw [e1]
      simp only [Out.bind_ok, turn_nx]
      exact forLoop_inv P R xs (i + 1) σ1 μ1 h1 hs tl
    · rw [e1]
      exact .inr ⟨p, μ1, rfl, h1⟩
/-- a loop that never ends early -/
theorem forLoop_nx {μ0 : Mu} {src : List Nat} {body : PV → Sg → Mu → Out Fl} (P : Nat → Sg → Mu → Prop) (xs : List PV) (σ : Sg) (μ : Mu) (h : P 0 σ μ) (hs : ∀ i σ μ, P i σ μ → stay μ0 μ src)
    (hb : ∀ (k : Nat) x σ μ, xs[k]? = some x → P k σ μ → ∃ σ' μ', body x σ μ = .ok (.nx σ') μ' ∧ P (k + 1) σ' μ') : ∃ σ' μ', forLoop μ0 src body xs σ μ = .ok (.nx σ') μ' ∧ P xs.length σ' μ' := by
  rcases forLoop_inv P (fun _ _ => False) xs 0 σ μ h hs (fun k x σ μ hx hp => .inl (by simpa using hb k x σ μ hx (by simpa using hp))) with h | ⟨_, _, _, h⟩
  · simpa using h
  · exact h.elim
@[simp] theorem le_size (n : Nat) (h : n ≤ 16777216) : (n ≤ sizeLine) = True := eq_true (Nat.le_trans h (Nat.le_of_eq sizeLine_eq.symm))
@[simp] theorem lt_size (n : Nat) (h : n < 16777216) : (n < sizeLine) = True := eq_true (Nat.lt_of_lt_of_le h (Nat.le_of_eq sizeLine_eq.symm))
/-! ### what an outcome keeps -/
def OK {α : Type} (o : Out α) (Q : α → Mu → Prop) : Prop := ∃ a μ, o = .ok a μ ∧ Q a μ
def OKk {α β : Type} (f : α → Mu → Out β) (Q : β → Mu → Prop) : α → Mu → Prop := fun a μ => OK (f a μ) Q
@[simp] theorem OKk_eq {α β : Type} (f : α → Mu → Out β) (Q : β → Mu → Prop) (a : α) (μ : Mu) : OKk f Q a μ = OK (f a μ) Q := rfl
@[simp] theorem OK_ok {α : Type} (a : α) (μ : Mu) (Q : α → Mu → Prop) : OK (.ok a μ) Q ↔ Q a μ := by
  unfold OK
  constructor
  · rintro ⟨_, _, e, h⟩
    cases e
    exact h
  · exact fun h => ⟨_, _, rfl, h⟩
@[simp] theorem OK_bad {α : Type} (Q : α → Mu → Prop) : OK (.bad : Out α) Q ↔ False := by
  unfold OK
  constructor
  · rintro ⟨_, _, e, h⟩
    cases e
  · exact False.elim
@[simp] theorem OK_exc {α : Type} (c : String) (w : PV) (μ : Mu) (Q : α → Mu → Prop) : OK (.exc c w μ : Out α) Q ↔ False := by
  unfold OK
  constructor
  · rintro ⟨_, _, e, h⟩
    cases e
  · exact False.elim
@[simp] theorem OK_bind {α β : Type} (o : Out α) (f : α → Mu → Out β) (Q : β → Mu → Prop) : OK (o.bind f) Q ↔ OK o (OKk f Q) := by
  cases o <;> simp
theorem OK.mono {α : Type} {o : Out α} {Q Q' : α → Mu → Prop} (h : OK o Q) (hi : ∀ a μ, Q a μ → Q' a μ) : OK o Q' := by
  obtain ⟨a, μ, e, q⟩ := h
  exact ⟨a, μ, e, hi _ _ q⟩
@[simp] theorem OK_calm {α : Type} (o : Out α) (Q : α → Mu → Prop) : OK (calm o) Q ↔ OK o Q := by
  cases o <;> simp [calm]
/-- only the outcome matters -/
theorem OK.eq {α : Type} {o o' : Out α} {Q : α → Mu → Prop} (h : OK o Q) (e : o' = o) : OK o' Q := by rw [e]; exact h
theorem OK.for {μ0 : Mu} {src : List Nat} {body : PV → Sg → Mu → Out Fl} {xs : List PV} {σ : Sg} {μ : Mu} {Q : Fl → Mu → Prop} (P : Nat → Sg → Mu → Prop) (R : PV → Mu → Prop) (h : P 0 σ μ) (hs : ∀ i σ μ, P i σ μ → stay μ0 μ src)
    (hb : ∀ (k : Nat) x σ μ (Q' : Fl → Mu → Prop), xs[k]? = some x → P k σ μ → (∀ σ' μ', P (k + 1) σ' μ' → Q' (.nx σ') μ') → (∀ p μ', R p μ' → Q' (.rt p) μ') → OK (body x σ μ) Q') (h1 : ∀ σ μ, P xs.length σ μ → Q (.nx σ) μ) (h2 : ∀ p μ, R p μ → Q (.rt p) μ) : OK (forLoop μ0 src body xs σ μ) Q := by
  rcases forLoop_inv P R xs 0 σ μ h hs (fun k x σ μ hx hp => by
    obtain ⟨f, μ', e, h | h⟩ := hb k x σ μ (fun f μ' => (∃ σ', f = .nx σ' ∧ P (k + 1) σ' μ') ∨ ∃ p, f = .rt p ∧ R p μ') hx (by simpa using hp) (fun σ' μ' h => .inl ⟨σ', rfl, h⟩) (fun p μ' h => .inr ⟨p, rfl, h⟩)
    · obtain ⟨σ', rfl, h⟩ := h
      exact .inl ⟨σ', μ', e, by simpa using h⟩
    · obtain ⟨p, rfl, h⟩ := h
      exact .inr ⟨p, μ', e, h⟩) with ⟨σ', μ', e, hp⟩ | ⟨p, μ', e, hp⟩
  · exact ⟨_, _, e, h1 _ _ (by simpa using hp)⟩
  · exact ⟨_, _, e, h2 _ _ hp⟩
theorem OK.forN {μ0 : Mu} {src : List Nat} {body : PV → Sg → Mu → Out Fl} {xs : List PV} {σ : Sg} {μ : Mu} {Q : Fl → Mu → Prop} (P : Nat → Sg → Mu → Prop) (h : P 0 σ μ) (hs : ∀ i σ μ, P i σ μ → stay μ0 μ src)
    (hb : ∀ (k : Nat) x σ μ (Q' : Fl → Mu → Prop), xs[k]? = some x → P k σ μ → (∀ σ' μ', P (k + 1) σ' μ' → Q' (.nx σ') μ') → OK (body x σ μ) Q') (h1 : ∀ σ μ, P xs.length σ μ → Q (.nx σ) μ) : OK (forLoop μ0 src body xs σ μ) Q :=
  OK.for P (fun _ _ => False) h hs (fun k x σ μ Q' hx hp q _ => hb k x σ μ Q' hx hp q) h1 fun _ _ h => h.elim
theorem OK.comp {μ0 : Mu} {src : List Nat} {body : PV → Mu → Out (Option PV)} {xs : List PV} {μ : Mu} {Q : List PV → Mu → Prop} (P : Nat → List PV → Mu → Prop) (h : P 0 [] μ) (hs : ∀ i acc μ, P i acc μ → stay μ0 μ src) (hl : xs.length ≤ 16777216) (ha : ∀ i acc μ, P i acc μ → acc.length ≤ i)
    (hb : ∀ (k : Nat) x acc μ (Q' : Option PV → Mu → Prop), xs[k]? = some x → P k acc μ → (∀ p μ', P (k + 1) (acc ++ [p]) μ' → Q' (some p) μ') → (∀ μ', P (k + 1) acc μ' → Q' none μ') → OK (body x μ) Q') (h1 : ∀ ys μ, P xs.length ys μ → Q ys μ) : OK (compLoop μ0 src body xs [] μ) Q := by
  obtain ⟨ys, μ', e, hp⟩ := compLoop_inv P xs 0 [] μ h hs (fun _ _ _ => trivial) (fun k x acc μ hx hp => by
    have hk : k < xs.length := by
      rcases Nat.lt_or_ge k xs.length with h | h
      · exact h
      · rw [List.getElem?_eq_none h] at hx; cases hx
    obtain ⟨y, μ', e, h⟩ := hb k x acc μ (fun y μ' => (∃ p, y = some p ∧ P (k + 1) (acc ++ [p]) μ') ∨ (y = none ∧ P (k + 1) acc μ')) hx (by simpa using hp) (fun p μ' h => .inl ⟨p, rfl, h⟩) (fun μ' h => .inr ⟨rfl, h⟩)
    refine ⟨y, μ', e, fun p hy => ?_, fun hy => ?_⟩
    · subst hy
      rcases h with ⟨p', e', h⟩ | ⟨e', _⟩
      · cases e'
        have := ha _ _ _ hp
        exact ⟨by rw [sizeLine_eq]; omega, by simpa using h⟩
      · cases e'
    · subst hy
      rcases h with ⟨p', e', h⟩ | ⟨_, h⟩
      · cases e'
      · simpa using h)
  exact ⟨ys, μ', e, h1 _ _ (by simpa using hp)⟩
theorem OK.compP {μ : Mu} {src : List Nat} {body : PV → Mu → Out (Option PV)} {xs : List PV} {Q : List PV → Mu → Prop} (g : PV → Option PV) (h : ∀ x ∈ xs, body x μ = .ok (g x) μ) (hl : xs.length ≤ 16777216) (q : Q (xs.filterMap g) μ) : OK (compLoop μ src body xs [] μ) Q :=
  ⟨_, _, compLoop_pure g xs [] h (by rw [sizeLine_eq]; simpa using hl), by simpa using q⟩
/-- m turns are enough -/
theorem OK.whil {test : Sg → Mu → Out Bool} {body : Sg → Mu → Out Fl} {Q : Fl → Mu → Prop} (P : Nat → Sg → Mu → Prop)
    (hb : ∀ m σ μ (Q' : Fl → Mu → Prop), P m σ μ → (∀ σ' m' μ', m' < m → P m' σ' μ' → Q' (.nx σ') μ') → (∀ p μ', Q (.rt p) μ' → Q' (.rt p) μ') → OK (test σ μ) fun c μ1 => (c = false ∧ Q (.nx σ) μ1) ∨ (c = true ∧ OK (body σ μ1) Q')) :
    ∀ (n m : Nat) (σ : Sg) (μ : Mu), m < n → P m σ μ → OK (whileLoop test body n σ μ) Q
  | 0, m, _, _, h, _ => absurd h (Nat.not_lt_zero m)
  | n + 1, m, σ, μ, h, hp => by
    rw [whileLoop_succ]
    obtain ⟨c, μ1, e, h1⟩ := hb m σ μ (fun f μ2 => (∃ σ' m', m' < m ∧ f = .nx σ' ∧ P m' σ' μ2) ∨ ∃ p, f = .rt p ∧ Q (.rt p) μ2) hp (fun σ' m' μ' h1 h2 => .inl ⟨σ', m', h1, rfl, h2⟩) (fun p μ' h => .inr ⟨p, rfl, h⟩)
    rw [e, Out.bind_ok]
    rcases h1 with ⟨rfl, q⟩ | ⟨rfl, q⟩
    · simpa using q
    · rw [if_pos rfl]
      obtain ⟨f, μ2, e2, h2⟩ := q
      rw [e2, Out.bind_ok]
      rcases h2 with ⟨σ', m', hm, rfl, h2⟩ | ⟨p, rfl, h2⟩
      · rw [turn_nx]
        exact OK.whil P hb n m' σ' μ2 (by omega) h2
      · simpa using h2
theorem rngA_nat {k : Nat} (h : k < 2 ^ 60) : rngA [.v (.int (k : Int))] = some ((List.range k).map fun (i : Nat) => .int (i : Int)) := by
  rw [rngA_one, if_pos (Sm.nat h), Int.toNat_natCast]
  congr 2
  funext i
  rw [Int.zero_add]
theorem rngA_lit {k : Int} (h : 0 ≤ k) (h' : k < 2 ^ 60) : rngA [.v (.int k)] = some ((List.range k.toNat).map fun (i : Nat) => .int (i : Int)) := by
  obtain ⟨n, rfl⟩ := Int.eq_ofNat_of_zero_le h
  rw [rngA_nat (by omega), Int.toNat_natCast]
theorem rng_get {n k : Nat} {x : PV} (f : Nat → PV) (hx : ((List.range n).map f)[k]? = some x) : k < n ∧ x = f k := by
  have hk : k < n := by
    rcases Nat.lt_or_ge k n with h | h
    · exact h
    · rw [List.getElem?_eq_none (by simpa using h)] at hx; cases hx
  simp only [List.getElem?_map, List.getElem?_range hk, Option.map_some, Option.some.injEq] at hx
  exact ⟨hk, hx.symm⟩
/-! ### the same data -/
mutual
inductive SameR (μ : Mu) : PV → PV → Nat → Prop
  | non : SameR μ .non .non 1
  | bl (b : Bool) : SameR μ (.bl b) (.bl b) 1
  | int (i : Int) : SameR μ (.int i) (.int i) 1
  | str (s : Str) : PyData.strOk s = true → SameR μ (.str s) (.str s) 1
  | tup {xs ys : List PV} {n : Nat} : SameL μ xs ys n → SameR μ (.tup xs) (.tup ys) (n + 1)
  | ref {a b : Nat} {xs ys : List PV} {n : Nat} : μ[a]? = some (.lst xs) → μ[b]? = some (.lst ys) → SameL μ xs ys n → SameR μ (.ref a) (.ref b) (n + 1)
inductive SameL (μ : Mu) : List PV → List PV → Nat → Prop
  | nil : SameL μ [] [] 0
  | cons {x y : PV} {xs ys : List PV} {n m : Nat} : SameR μ x y n → SameL μ xs ys m → SameL μ (x :: xs) (y :: ys) (n + m)
end
inductive Todo (μ : Mu) : List PV → Nat → Prop
  | nil : Todo μ [] 0
  | snoc {ts : List PV} {m n : Nat} {p q : PV} : Todo μ ts m → SameR μ p q n → Todo μ (ts ++ [.tup [p, q]]) (m + n)
theorem SameR.pos {μ : Mu} {p q : PV} {n : Nat} (h : SameR μ p q n) : 1 ≤ n := by cases h <;> omega
theorem Todo.len {μ : Mu} {ts : List PV} {m : Nat} (h : Todo μ ts m) : ts.length ≤ m := by
  induction h with
  | nil => exact Nat.le_refl _
  | snoc _ r ih => have := r.pos; simp; omega
theorem SameL.len {μ : Mu} : ∀ {xs ys : List PV} {n : Nat}, SameL μ xs ys n → xs.length = ys.length ∧ xs.length ≤ n
  | _, _, _, .nil => ⟨rfl, Nat.le_refl _⟩
  | _, _, _, .cons r l => by
    have := r.pos
    have := l.len
    simp only [List.length_cons]
    omega
theorem Todo.more {μ : Mu} : ∀ {xs ys : List PV} {n m : Nat} {ts : List PV}, Todo μ ts m → SameL μ xs ys n → Todo μ (ts ++ List.zipWith (fun x y => .tup [x, y]) xs ys) (m + n)
  | [], [], _, m, ts, h, l => by
    cases l
    simpa using h
  | x :: xs, y :: ys, _, m, ts, h, l => by
    cases l with
    | cons r l =>
      have := Todo.more (h.snoc r) l
      simpa [Nat.add_assoc] using this
  | [], _ :: _, _, _, _, _, l => nomatch l
  | _ :: _, [], _, _, _, _, l => nomatch l
mutual
theorem SameR.ext {μ : Mu} (μ' : Mu) (he : ∀ (i : Nat) o, μ[i]? = some o → μ'[i]? = some o) : ∀ {p q : PV} {n : Nat}, SameR μ p q n → SameR μ' p q n
  | _, _, _, .non => .non
  | _, _, _, .bl b => .bl b
  | _, _, _, .int b => .int b
  | _, _, _, .str b h => .str b h
  | _, _, _, .tup l => .tup (SameL.ext μ' he l)
  | _, _, _, .ref h1 h2 l => .ref (he _ _ h1) (he _ _ h2) (SameL.ext μ' he l)
theorem SameL.ext {μ : Mu} (μ' : Mu) (he : ∀ (i : Nat) o, μ[i]? = some o → μ'[i]? = some o) : ∀ {p q : List PV} {n : Nat}, SameL μ p q n → SameL μ' p q n
  | _, _, _, .nil => .nil
  | _, _, _, .cons r l => .cons (r.ext μ' he) (l.ext μ' he)
end
theorem SameL.ints (μ : Mu) : ∀ ns : List Int, SameL μ (ns.map .int) (ns.map .int) ns.length
  | [] => .nil
  | n :: ns => by
    have := SameL.cons (SameR.int (μ := μ) n) (SameL.ints μ ns)
    simpa [Nat.add_comm] using this
end
end Ev

set_option Elab.async false
set_option linter.all false
set_option maxRecDepth 100000
/-! EvX0: the terms of k01's defs, printed by genx0.py. Own work. -/
namespace Ev
open PySem PySem.Spec PyProof.Rows L2
def iwhole : Fd := ⟨["thing", "low", "high"], ["thing", "low", "high"],
  .seq (.ret (.and (.isi (.var 0) .int) (.and (.not (.isi (.var 0) .bool)) (.chain .le .le (.var 1) (.var 0) (.var 2))))) .nil⟩
def iwrong_lot : Fd := ⟨["thing", "top"], ["thing", "top", "least", "at", "number"],
  .seq (.ife (.not (.isi (.var 0) .tuple)) (.seq (.ret (.neg (.int 1))) .nil) (.nil)) (.seq (.asg (.nm 2) (.int 0)) (.seq (.forr (.tup (.cons (.nm 3) (.cons (.nm 4) .nil))) (.enum (.var 0)) (.seq (.ife (.not (.call "whole" (.cons (.var 4) (.cons (.var 2) (.cons (.bin .sub (.var 1) (.int 1)) .nil))))) (.seq (.ret (.var 3)) .nil) (.nil)) (.seq (.asg (.nm 2) (.bin .add (.var 4) (.int 1))) .nil))) (.seq (.ret .non) .nil)))⟩
def iis_lot : Fd := ⟨["thing", "top"], ["thing", "top"],
  .seq (.ret (.isN (.call "wrong_lot" (.cons (.var 0) (.cons (.var 1) .nil))))) .nil⟩
def iwrong_web : Fd := ⟨["thing"], ["thing", "cell", "reads"],
  .seq (.ife (.not (.isi (.var 0) .tuple)) (.seq (.ret (.tup (.cons (.str "BadWeb") (.cons (.neg (.int 1)) .nil)))) .nil) (.nil)) (.seq (.ife (.cmp .gt (.bi .len (.cons (.var 0) .nil)) (.glo "MOST_CELLS")) (.seq (.ret (.tup (.cons (.str "TooMany") (.cons (.bi .len (.cons (.var 0) .nil)) .nil)))) .nil) (.nil)) (.seq (.forr (.tup (.cons (.nm 1) (.cons (.nm 2) .nil))) (.enum (.var 0)) (.seq (.ife (.not (.call "is_lot" (.cons (.var 2) (.cons (.bi .len (.cons (.var 0) .nil)) .nil)))) (.seq (.ret (.tup (.cons (.str "BadWeb") (.cons (.var 1) .nil)))) .nil) (.nil)) .nil)) (.seq (.ret .non) .nil)))⟩
def iasked_web : Fd := ⟨["web"], ["web", "wrong"],
  .seq (.asg (.nm 1) (.call "wrong_web" (.cons (.var 0) .nil))) (.seq (.ife (.isN (.var 1)) (.seq .retN .nil) (.nil)) (.seq (.ife (.cmp .eq (.ix (.var 1) (.int 0)) (.str "TooMany")) (.seq (.raise "TooMany" (.ix (.var 1) (.int 1))) .nil) (.nil)) (.seq (.raise "BadWeb" (.ix (.var 1) (.int 1))) .nil)))⟩
def iasked_cell : Fd := ⟨["C", "cell"], ["C", "cell"],
  .seq (.ife (.not (.call "whole" (.cons (.var 1) (.cons (.int 0) (.cons (.bin .sub (.var 0) (.int 1)) .nil))))) (.seq (.raise "BadCell" (.var 1)) .nil) (.nil)) .nil⟩
def ireader_lists : Fd := ⟨["web"], ["web", "found", "_", "cell", "reads", "one"],
  .seq (.asg (.nm 1) (.comp (.nm 2) (.var 0) .nil (.lst .nil))) (.seq (.forr (.tup (.cons (.nm 3) (.cons (.nm 4) .nil))) (.enum (.var 0)) (.seq (.forr (.nm 5) (.var 4) (.seq (.expr (.app (.ix (.var 1) (.var 5)) (.var 3))) .nil)) .nil)) (.seq (.ret (.var 1)) .nil))⟩
def imade_web : Fd := ⟨["thing"], ["thing"],
  .seq (.expr (.call "asked_web" (.cons (.var 0) .nil))) (.seq (.ret (.var 0)) .nil)⟩
def iis_web : Fd := ⟨["thing"], ["thing"],
  .seq (.ret (.isN (.call "wrong_web" (.cons (.var 0) .nil)))) .nil⟩
def ireaders : Fd := ⟨["web", "cell"], ["web", "cell"],
  .seq (.expr (.call "asked_web" (.cons (.var 0) .nil))) (.seq (.expr (.call "asked_cell" (.cons (.bi .len (.cons (.var 0) .nil)) (.cons (.var 1) .nil)))) (.seq (.ret (.bi .tuple (.cons (.ix (.call "reader_lists" (.cons (.var 0) .nil)) (.var 1)) .nil))) .nil))⟩
def iselves : Fd := ⟨["web"], ["web", "cell", "reads"],
  .seq (.expr (.call "asked_web" (.cons (.var 0) .nil))) (.seq (.ret (.bi .tuple (.cons (.comp (.tup (.cons (.nm 1) (.cons (.nm 2) .nil))) (.enum (.var 0)) (.cons (.cmp .in_ (.var 1) (.var 2)) .nil) (.var 1)) .nil))) .nil)⟩
def i_law_pool : Fd := ⟨["script"], ["script", "digits", "stirred", "at", "cell"],
  .seq (.asg (.tup (.cons (.nm 1) (.cons (.nm 2) .nil))) (.tup (.cons (.int 0) (.cons (.int 7) .nil)))) (.seq (.forr (.nm 3) (.rng (.cons (.bi .len (.cons (.var 0) .nil)) .nil)) (.seq (.asg (.nm 4) (.bi .int (.cons (.bi .max2 (.cons (.ix (.var 0) (.var 3)) (.cons (.bin .sub (.neg (.int 1)) (.ix (.var 0) (.var 3))) .nil))) .nil))) (.seq (.asg (.nm 2) (.bin .mod (.bi .int (.cons (.bin .add (.bin .add (.bin .mul (.var 2) (.int 48271)) (.bin .mod (.var 4) (.int 2147483629))) (.int 11)) .nil)) (.int 2147483647))) (.seq (.asg (.nm 1) (.ite (.and (.cmp .ge (.var 4) (.bin .pow (.int 10) (.int 12))) (.cmp .lt (.var 1) (.bin .pow (.int 10) (.int 60)))) (.bi .int (.cons (.bin .add (.bin .mul (.var 1) (.bin .pow (.int 10) (.int 60))) (.bin .mod (.var 4) (.bin .pow (.int 10) (.int 60)))) .nil)) (.var 1))) .nil)))) (.seq (.ret (.lst (.cons (.var 1) (.cons (.var 2) (.cons (.int 0) .nil))))) .nil))⟩
def i_law_take : Fd := ⟨["jar", "many"], ["jar", "many", "made"],
  .seq (.ife (.cmp .gt (.ix (.var 0) (.int 0)) (.int 0)) (.seq (.asg (.nm 2) (.bin .mod (.bi .int (.cons (.ix (.var 0) (.int 0)) .nil)) (.var 1))) (.seq (.setIx (.var 0) (.int 0) (.bin .fdiv (.ix (.var 0) (.int 0)) (.var 1))) (.seq (.ret (.var 2)) .nil))) (.nil)) (.seq (.setIx (.var 0) (.int 2) (.bin .add (.ix (.var 0) (.int 2)) (.int 1))) (.seq (.setIx (.var 0) (.int 1) (.bin .mod (.bi .int (.cons (.bin .add (.bin .add (.bin .mul (.ix (.var 0) (.int 1)) (.int 39373)) (.bin .mul (.int 7919) (.ix (.var 0) (.int 2)))) (.int 7)) .nil)) (.int 2147483647))) (.seq (.ret (.bin .mod (.bi .int (.cons (.bin .fdiv (.bin .mod (.bi .int (.cons (.bin .mul (.ix (.var 0) (.int 1)) (.ix (.var 0) (.int 1))) .nil)) (.int 2147483629)) (.int 32)) .nil)) (.var 1))) .nil)))⟩
def i_law_one : Fd := ⟨["jar", "things"], ["jar", "things"],
  .seq (.ret (.ix (.var 1) (.call "_law_take" (.cons (.var 0) (.cons (.bi .len (.cons (.var 1) .nil)) .nil))))) .nil⟩
def i_law_mixed : Fd := ⟨["jar", "things"], ["jar", "things", "left_now", "made", "go"],
  .seq (.par2 2 3 (.bi .list (.cons (.var 1) .nil)) (.lst .nil)) (.seq (.forr (.nm 4) (.rng (.cons (.bi .len (.cons (.var 1) .nil)) .nil)) (.seq (.expr (.app (.var 3) (.mt .pop1 (.var 2) (.cons (.call "_law_take" (.cons (.var 0) (.cons (.bi .len (.cons (.var 2) .nil)) .nil))) .nil)))) .nil)) (.seq (.ret (.var 3)) .nil))⟩
def i_law_some : Fd := ⟨["jar", "things", "odds"], ["jar", "things", "odds", "made", "thing"],
  .seq (.asg (.nm 3) (.lst .nil)) (.seq (.forr (.nm 4) (.var 1) (.seq (.expr (.mt .extend (.var 3) (.cons (.ite (.cmp .eq (.call "_law_take" (.cons (.var 0) (.cons (.var 2) .nil))) (.int 0)) (.lst (.cons (.var 4) .nil)) (.lst .nil)) .nil))) .nil)) (.seq (.ret (.bi .tuple (.cons (.var 3) .nil))) .nil))⟩
def i_law_yw_is_whole : Fd := ⟨["thing"], ["thing"],
  .seq (.ret (.and (.isi (.var 0) .int) (.not (.isi (.var 0) .bool)))) .nil⟩
def i_law_yw_is_in : Fd := ⟨["thing", "low", "top"], ["thing", "low", "top"],
  .seq (.ret (.and (.call "_law_yw_is_whole" (.cons (.var 0) .nil)) (.chain .le .le (.var 1) (.var 0) (.var 2)))) .nil⟩
def i_law_yw_lot_fault : Fd := ⟨["thing", "many"], ["thing", "many", "last", "at"],
  .seq (.ife (.not (.isi (.var 0) .tuple)) (.seq (.ret (.neg (.int 1))) .nil) (.nil)) (.seq (.asg (.nm 2) (.neg (.int 1))) (.seq (.forr (.nm 3) (.rng (.cons (.bi .len (.cons (.var 0) .nil)) .nil)) (.seq (.ife (.not (.call "_law_yw_is_in" (.cons (.ix (.var 0) (.var 3)) (.cons (.bin .add (.var 2) (.int 1)) (.cons (.bin .sub (.var 1) (.int 1)) .nil))))) (.seq (.ret (.var 3)) .nil) (.nil)) (.seq (.asg (.nm 2) (.ix (.var 0) (.var 3))) .nil))) (.seq (.ret .non) .nil)))⟩
def i_law_yw_web_fault : Fd := ⟨["thing"], ["thing", "at"],
  .seq (.ife (.not (.isi (.var 0) .tuple)) (.seq (.ret (.tup (.cons (.str "BadWeb") (.cons (.neg (.int 1)) .nil)))) .nil) (.nil)) (.seq (.ife (.cmp .gt (.bi .len (.cons (.var 0) .nil)) (.int 60)) (.seq (.ret (.tup (.cons (.str "TooMany") (.cons (.bi .len (.cons (.var 0) .nil)) .nil)))) .nil) (.nil)) (.seq (.forr (.nm 1) (.rng (.cons (.bi .len (.cons (.var 0) .nil)) .nil)) (.seq (.ife (.notN (.call "_law_yw_lot_fault" (.cons (.ix (.var 0) (.var 1)) (.cons (.bi .len (.cons (.var 0) .nil)) .nil)))) (.seq (.ret (.tup (.cons (.str "BadWeb") (.cons (.var 1) .nil)))) .nil) (.nil)) .nil)) (.seq (.ret .non) .nil)))⟩
def i_law_yw_readers : Fd := ⟨["web", "cell"], ["web", "cell", "x"],
  .seq (.ret (.bi .tuple (.cons (.comp (.nm 2) (.rng (.cons (.bi .len (.cons (.var 0) .nil)) .nil)) (.cons (.cmp .in_ (.var 1) (.ix (.var 0) (.var 2))) .nil) (.var 2)) .nil))) .nil⟩
def i_law_yw_web : Fd := ⟨["jar"], ["jar", "many", "sort_now", "order_now", "made", "x", "at", "selves_odds", "one"],
  .seq (.asg (.nm 1) (.call "_law_one" (.cons (.var 0) (.cons (.lst (.cons (.int 0) (.cons (.int 1) (.cons (.int 2) (.cons (.int 3) (.cons (.int 3) (.cons (.int 4) (.cons (.int 4) (.cons (.int 5) (.cons (.int 5) (.cons (.int 6) (.cons (.int 7) .nil)))))))))))) .nil)))) (.seq (.asg (.nm 1) (.ite (.cmp .eq (.call "_law_take" (.cons (.var 0) (.cons (.int 40) .nil))) (.int 0)) (.int 60) (.var 1))) (.seq (.par2 2 3 (.call "_law_take" (.cons (.var 0) (.cons (.int 7) .nil))) (.call "_law_mixed" (.cons (.var 0) (.cons (.conv false (.rng (.cons (.var 1) .nil))) .nil)))) (.seq (.asg (.nm 4) (.comp (.nm 5) (.rng (.cons (.var 1) .nil)) .nil (.lst .nil))) (.seq (.forr (.nm 6) (.rng (.cons (.var 1) .nil)) (.seq (.asg (.nm 5) (.ix (.var 3) (.var 6))) (.seq (.expr (.mt .extend (.ix (.var 4) (.var 5)) (.cons (.ite (.and (.cmp .in_ (.var 2) (.lst (.cons (.int 0) (.cons (.int 2) .nil)))) (.or (.cmp .gt (.var 6) (.int 0)) (.cmp .eq (.var 2) (.int 2)))) (.lst (.cons (.ix (.var 3) (.bin .sub (.var 6) (.int 1))) .nil)) (.lst .nil)) .nil))) (.seq (.ife (.cmp .eq (.var 2) (.int 1)) (.seq (.expr (.mt .extend (.ix (.var 4) (.var 5)) (.cons (.bi .list (.cons (.call "_law_some" (.cons (.var 0) (.cons (.slice (.var 3) .nil (.cons (.var 6) .nil)) (.cons (.int 2) .nil)))) .nil)) .nil))) .nil) (.nil)) (.seq (.ife (.cmp .eq (.var 2) (.int 3)) (.seq (.expr (.mt .extend (.ix (.var 4) (.var 5)) (.cons (.bi .list (.cons (.call "_law_some" (.cons (.var 0) (.cons (.var 3) (.cons (.bin .add (.int 1) (.call "_law_take" (.cons (.var 0) (.cons (.int 3) .nil)))) .nil)))) .nil)) .nil))) .nil) (.nil)) (.seq (.ife (.and (.cmp .eq (.var 2) (.int 4)) (.cmp .gt (.var 6) (.int 0))) (.seq (.expr (.mt .extend (.ix (.var 4) (.var 5)) (.cons (.ite (.cmp .lt (.var 6) (.bin .sub (.var 1) (.int 1))) (.slice (.var 3) .nil (.cons (.int 1) .nil)) (.slice (.var 3) (.cons (.int 1) .nil) (.cons (.bin .sub (.var 1) (.int 1)) .nil))) .nil))) .nil) (.nil)) (.seq (.ife (.cmp .eq (.var 2) (.int 5)) (.seq (.expr (.mt .extend (.ix (.var 4) (.var 5)) (.cons (.ite (.cmp .gt (.var 6) (.int 1)) (.slice (.var 3) (.cons (.bin .sub (.bin .mul (.bin .fdiv (.var 6) (.int 2)) (.int 2)) (.int 2)) .nil) (.cons (.bin .mul (.bin .fdiv (.var 6) (.int 2)) (.int 2)) .nil)) (.lst .nil)) .nil))) .nil) (.nil)) (.seq (.ife (.cmp .eq (.var 2) (.int 6)) (.seq (.expr (.mt .extend (.ix (.var 4) (.var 5)) (.cons (.lst (.cons (.ix (.var 3) (.bin .mod (.bin .add (.var 6) (.int 1)) (.var 1))) (.cons (.ix (.var 3) (.bin .fdiv (.var 6) (.int 2))) .nil))) .nil))) .nil) (.nil)) .nil)))))))) (.seq (.asg (.nm 7) (.call "_law_one" (.cons (.var 0) (.cons (.lst (.cons (.int 3) (.cons (.int 9) (.cons (.bin .pow (.int 10) (.int 9)) .nil)))) .nil)))) (.seq (.forr (.nm 5) (.rng (.cons (.var 1) .nil)) (.seq (.expr (.mt .extend (.ix (.var 4) (.var 5)) (.cons (.ite (.cmp .eq (.call "_law_take" (.cons (.var 0) (.cons (.var 7) .nil))) (.int 0)) (.lst (.cons (.var 5) .nil)) (.lst .nil)) .nil))) .nil)) (.seq (.ret (.bi .tuple (.cons (.comp (.nm 8) (.var 4) .nil (.bi .tuple (.cons (.sortSet (.var 8)) .nil))) .nil))) .nil)))))))⟩
def i_law_yw_odd_web : Fd := ⟨["jar", "web"], ["jar", "web", "many", "found", "at", "bad", "one", "go", "thing"],
  .seq (.asg (.nm 2) (.bi .len (.cons (.var 1) .nil))) (.seq (.asg (.nm 3) (.lst (.cons .non (.cons (.lst .nil) (.cons (.bi .list (.cons (.var 1) .nil)) (.cons (.int 0) (.cons (.str "web") (.cons (.bl true) (.cons (.bin .add (.var 1) (.tup (.cons .non .nil))) (.cons (.bin .add (.var 1) (.tup (.cons (.tup (.cons (.bin .add (.var 2) (.int 1)) .nil)) .nil))) (.cons (.bin .add (.var 1) (.tup (.cons (.tup (.cons (.int 0) (.cons (.int 0) .nil))) .nil))) (.cons (.bin .mul (.tup (.cons (.tup (.cons (.int 0) .nil)) .nil)) (.int 61)) .nil)))))))))))) (.seq (.expr (.app (.var 3) (.bin .mul (.tup (.cons .non .nil)) (.int 61)))) (.seq (.ife (.cmp .gt (.var 2) (.int 0)) (.seq (.asg (.nm 4) (.call "_law_take" (.cons (.var 0) (.cons (.var 2) .nil)))) (.seq (.asg (.nm 5) (.lst (.cons .non (.cons (.bi .list (.cons (.ix (.var 1) (.var 4)) .nil)) (.cons (.tup (.cons (.var 2) .nil)) (.cons (.tup (.cons (.neg (.int 1)) .nil)) (.cons (.tup (.cons (.int 0) (.cons (.int 0) .nil))) (.cons (.tup (.cons (.bl true) .nil)) (.cons (.tup (.cons .non .nil)) (.cons (.bin .add (.ix (.var 1) (.var 4)) (.tup (.cons (.var 2) .nil))) (.cons (.str "0") (.cons (.int 0) .nil)))))))))))) (.seq (.asg (.nm 5) (.comp (.nm 6) (.bin .add (.var 5) (.lst (.cons (.bin .add (.ix (.var 1) (.var 4)) (.slice (.ix (.var 1) (.var 4)) (.cons (.neg (.int 1)) .nil) .nil)) .nil))) (.cons (.notN (.call "_law_yw_lot_fault" (.cons (.var 6) (.cons (.var 2) .nil)))) .nil) (.var 6))) (.seq (.expr (.mt .extend (.var 3) (.cons (.comp (.nm 6) (.var 5) .nil (.bin .add (.bin .add (.slice (.var 1) .nil (.cons (.var 4) .nil)) (.tup (.cons (.var 6) .nil))) (.slice (.var 1) (.cons (.bin .add (.var 4) (.int 1)) .nil) .nil))) .nil))) (.seq (.expr (.mt .extend (.var 3) (.cons (.comp (.nm 7) (.rng (.cons (.int 4) .nil)) .nil (.bin .add (.bin .add (.slice (.var 1) .nil (.cons (.var 4) .nil)) (.tup (.cons (.call "_law_one" (.cons (.var 0) (.cons (.var 5) .nil))) .nil))) (.bi .tuple (.cons (.bin .mul (.lst (.cons .non .nil)) (.bin .sub (.bin .sub (.var 2) (.int 1)) (.var 4))) .nil)))) .nil))) .nil))))) (.nil)) (.seq (.asg (.nm 8) (.call "_law_one" (.cons (.var 0) (.cons (.var 3) .nil)))) (.seq (.ret (.tup (.cons (.var 8) (.cons (.call "_law_yw_web_fault" (.cons (.var 8) .nil)) .nil)))) .nil)))))⟩
def i_law_yw_odd_cell : Fd := ⟨["jar", "web"], ["jar", "web", "thing"],
  .seq (.asg (.nm 2) (.call "_law_one" (.cons (.var 0) (.cons (.lst (.cons (.bi .len (.cons (.var 1) .nil)) (.cons (.neg (.int 1)) (.cons (.bl true) (.cons .non (.cons (.str "0") (.cons (.tup (.cons (.int 0) .nil)) (.cons (.bin .pow (.int 10) (.int 20)) .nil)))))))) .nil)))) (.seq (.ret (.tup (.cons (.var 2) (.cons (.tup (.cons (.str "BadCell") (.cons (.var 2) .nil))) .nil)))) .nil)⟩
def i_law_yw_arguments : Fd := ⟨["jar", "right", "odd_now"], ["jar", "right", "odd_now", "at", "row", "k"],
  .seq (.asg (.nm 3) (.call "_law_take" (.cons (.var 0) (.cons (.bi .len (.cons (.var 1) .nil)) .nil)))) (.seq (.asg (.nm 4) (.bin .add (.bi .list (.cons (.slice (.var 1) .nil (.cons (.var 3) .nil)) .nil)) (.lst (.cons (.ix (.ix (.var 2) (.var 3)) (.int 0)) .nil)))) (.seq (.expr (.mt .extend (.var 4) (.cons (.comp (.nm 5) (.rng (.cons (.bin .add (.var 3) (.int 1)) (.cons (.bi .len (.cons (.var 1) .nil)) .nil))) .nil (.call "_law_one" (.cons (.var 0) (.cons (.lst (.cons (.ix (.var 1) (.var 5)) (.cons (.ix (.ix (.var 2) (.var 5)) (.int 0)) .nil))) .nil)))) .nil))) (.seq (.ret (.tup (.cons (.var 4) (.cons (.ix (.ix (.var 2) (.var 3)) (.int 1)) .nil)))) .nil)))⟩
def i_law_yq_is_whole : Fd := ⟨["thing"], ["thing"],
  .seq (.ret (.and (.isi (.var 0) .int) (.not (.isi (.var 0) .bool)))) .nil⟩
def i_law_yq_same : Fd := ⟨["heard_now", "owed"], ["heard_now", "owed", "todo", "one", "due", "is_so", "at"],
  .seq (.asg (.nm 2) (.lst (.cons (.tup (.cons (.var 0) (.cons (.var 1) .nil))) .nil))) (.seq (.whil (.cmp .ne (.var 2) (.lst .nil)) (.seq (.asg (.tup (.cons (.nm 3) (.cons (.nm 4) .nil))) (.mt .pop0 (.var 2) .nil)) (.seq (.ife (.isN (.var 4)) (.seq (.asg (.nm 5) (.isN (.var 3))) .nil) (.seq (.ife (.isi (.var 4) .bool) (.seq (.asg (.nm 5) (.and (.isi (.var 3) .bool) (.cmp .eq (.var 3) (.var 4)))) .nil) (.seq (.ife (.isi (.var 4) .int) (.seq (.asg (.nm 5) (.and (.call "_law_yq_is_whole" (.cons (.var 3) .nil)) (.cmp .eq (.var 3) (.var 4)))) .nil) (.seq (.ife (.isi (.var 4) .str) (.seq (.asg (.nm 5) (.and (.isi (.var 3) .str) (.cmp .eq (.var 3) (.var 4)))) .nil) (.seq (.asg (.nm 5) (.ite (.isi (.var 4) .tuple) (.isi (.var 3) .tuple) (.isi (.var 3) .list))) (.seq (.asg (.nm 5) (.and (.var 5) (.cmp .eq (.bi .len (.cons (.var 3) .nil)) (.bi .len (.cons (.var 4) .nil))))) (.seq (.expr (.mt .extend (.var 2) (.cons (.ite (.var 5) (.comp (.nm 6) (.rng (.cons (.bi .len (.cons (.var 4) .nil)) .nil)) .nil (.tup (.cons (.ix (.var 3) (.var 6)) (.cons (.ix (.var 4) (.var 6)) .nil)))) (.lst .nil)) .nil))) .nil)))) .nil)) .nil)) .nil)) (.seq (.ife (.not (.var 5)) (.seq (.ret (.bl false)) .nil) (.nil)) .nil)))) (.seq (.ret (.bl true)) .nil))⟩
def i_law_n1_form_right : Fd := ⟨["thing"], ["thing", "owed", "told_now"],
  .seq (.asg (.nm 1) (.call "_law_yw_web_fault" (.cons (.var 0) .nil))) (.seq (.asg (.nm 2) (.lst (.cons (.heard "_law_n1_heard" (.call "made_web" (.cons (.var 0) .nil))) .nil))) (.seq (.expr (.app (.var 2) (.heard "_law_n1_heard" (.call "is_web" (.cons (.var 0) .nil))))) (.seq (.ret (.call "_law_yq_same" (.cons (.var 2) (.cons (.lst (.cons (.ite (.isN (.var 1)) (.tup (.cons (.str "told") (.cons (.var 0) .nil))) (.var 1)) (.cons (.tup (.cons (.str "told") (.cons (.isN (.var 1)) .nil))) .nil))) .nil)))) .nil)))⟩
def i_law_n1_asked : Fd := ⟨["web"], ["web", "x"],
  .seq (.ret (.lst (.cons (.call "selves" (.cons (.var 0) .nil)) (.cons (.comp (.nm 1) (.rng (.cons (.bi .len (.cons (.var 0) .nil)) .nil)) .nil (.call "readers" (.cons (.var 0) (.cons (.var 1) .nil)))) .nil)))) .nil⟩
def i_law_n1_right : Fd := ⟨["web"], ["web", "owed", "x"],
  .seq (.asg (.nm 1) (.lst (.cons (.bi .tuple (.cons (.comp (.nm 2) (.rng (.cons (.bi .len (.cons (.var 0) .nil)) .nil)) (.cons (.cmp .in_ (.var 2) (.ix (.var 0) (.var 2))) .nil) (.var 2)) .nil)) (.cons (.comp (.nm 2) (.rng (.cons (.bi .len (.cons (.var 0) .nil)) .nil)) .nil (.call "_law_yw_readers" (.cons (.var 0) (.cons (.var 2) .nil)))) .nil)))) (.seq (.ret (.call "_law_yq_same" (.cons (.heard "_law_n1_heard" (.call "_law_n1_asked" (.cons (.var 0) .nil))) (.cons (.tup (.cons (.str "told") (.cons (.var 1) .nil))) .nil)))) .nil)⟩
def i_law_n1_refused_right : Fd := ⟨["jar", "web"], ["jar", "web", "odd_now", "args_now", "due", "told_now"],
  .seq (.asg (.nm 2) (.lst (.cons (.call "_law_yw_odd_web" (.cons (.var 0) (.cons (.var 1) .nil))) (.cons (.call "_law_yw_odd_cell" (.cons (.var 0) (.cons (.var 1) .nil))) .nil)))) (.seq (.asg (.tup (.cons (.nm 3) (.cons (.nm 4) .nil))) (.call "_law_yw_arguments" (.cons (.var 0) (.cons (.lst (.cons (.var 1) (.cons (.int 0) .nil))) (.cons (.var 2) .nil))))) (.seq (.ife (.cmp .eq (.var 1) (.tup .nil)) (.seq (.asg (.tup (.cons (.nm 3) (.cons (.nm 4) .nil))) (.tup (.cons (.lst (.cons (.tup .nil) (.cons (.ix (.ix (.var 2) (.int 1)) (.int 0)) .nil))) (.cons (.ix (.ix (.var 2) (.int 1)) (.int 1)) .nil)))) .nil) (.nil)) (.seq (.asg (.nm 5) (.lst (.cons (.heard "_law_n1_heard" (.call "readers" (.cons (.ix (.var 3) (.int 0)) (.cons (.ix (.var 3) (.int 1)) .nil)))) .nil))) (.seq (.expr (.app (.var 5) (.heard "_law_n1_heard" (.call "selves" (.cons (.ix (.ix (.var 2) (.int 0)) (.int 0)) .nil))))) (.seq (.ret (.call "_law_yq_same" (.cons (.var 5) (.cons (.lst (.cons (.var 4) (.cons (.ix (.ix (.var 2) (.int 0)) (.int 1)) .nil))) .nil)))) .nil)))))⟩
end Ev

set_option Elab.async false
set_option linter.all false
set_option maxRecDepth 100000
/-! EvX1: the jar, what the helpers of the laws do. Own work. -/
namespace Ev
open PySem PySem.Spec PyProof.Rows L2
open Classical
noncomputable section
/-- the jar: the pool's digits, its stirred number, the count of takes (at most k) -/
def Jar (j k : Nat) (μ : Mu) : Prop := ∃ d s c : Int, μ[j]? = some (.lst [.int d, .int s, .int c]) ∧ 0 ≤ d ∧ d < 1000000000000000000000000000000000000000000000000000000000000000000000000000000000000000000000000000000000000000000000000 ∧ 0 ≤ s ∧ s < 2147483647 ∧ 0 ≤ c ∧ c ≤ k
theorem Jar.mono {j k k' : Nat} {μ : Mu} (h : Jar j k μ) (hk : k ≤ k') : Jar j k' μ := by
  obtain ⟨d, s, c, e, h1, h2, h3, h4, h5, h6⟩ := h
  exact ⟨d, s, c, e, h1, h2, h3, h4, h5, by omega⟩
theorem Jar.lt {j k : Nat} {μ : Mu} (h : Jar j k μ) : j < μ.length := by
  obtain ⟨d, s, c, e, _⟩ := h
  exact get_lt e
theorem mulok {i j : Int} {a b : Nat} (h1 : i.natAbs < 2 ^ a) (h2 : j.natAbs < 2 ^ b) (h : a + b ≤ 134217728) : CMulX i j := mulx_ok h1 h2 h
theorem ix0 {a : PV} {xs : List PV} : atI (a :: xs) 0 = some a := by
  have := atI_nat (xs := a :: xs) (k := 0) (by simp)
  simpa using this
theorem ix1 {a b : PV} {xs : List PV} : atI (a :: b :: xs) 1 = some b := by
  have := atI_nat (xs := a :: b :: xs) (k := 1) (by simp)
  simpa using this
theorem ix2 {a b c : PV} {xs : List PV} : atI (a :: b :: c :: xs) 2 = some c := by
  have := atI_nat (xs := a :: b :: c :: xs) (k := 2) (by simp)
  simpa using this
theorem take_ok {G : Gm} (hf : G.fns.lookup "_law_take" = some i_law_take) (n : Nat) {j k : Nat} {μ : Mu} {m : Int} (J : Jar j k μ) (hk : k < 2 ^ 60) (hm : 0 < m) (hm2 : m < 2 ^ 60)
    {Q : PV → Mu → Prop} (q : ∀ (t : Nat) (l : MO), (t : Int) < m → Jar j (k + 1) (μ.set j l) → Q (.int t) (μ.set j l)) : OK (callN G (n + 1) "_law_take" [.ref j, .int m] μ) Q := by
  have hjl := J.lt
  obtain ⟨d, s, c, e, d0, d1, s0, s1, c0, c1⟩ := J
  rw [callN_eq n hf rfl]
  have hdiv : CDivW d m := ⟨hm, by
    have : m.natAbs < 2 ^ 60 := by omega
    have := Nat.log2_lt (n := m.natAbs) (k := 60) (by omega)
    omega⟩
  by_cases h : 0 < d
  · have t0 := Int.emod_nonneg d (b := m) (by omega)
    have t1 := Int.emod_lt_of_pos d hm
    refine OK.eq (o := .ok (.int (d % m)) (μ.set j (.lst [.int (d / m), .int s, .int c]))) ?_ ?_
    · have := q (d % m).toNat (.lst [.int (d / m), .int s, .int c]) (by rw [Int.toNat_of_nonneg t0]; exact t1) ⟨d / m, s, c, by simp [hjl], Int.ediv_nonneg d0 (by omega), Int.lt_of_le_of_lt (Int.ediv_le_self _ d0) d1, s0, s1, c0, by omega⟩
      rw [Int.toNat_of_nonneg t0] at this
      exact (OK_ok _ _ _).mpr this
    · simp [i_law_take, e, ix0, h, hm, hdiv, setIxA, ixN]
  · have b1 : CMulX s 39373 := mulok (a := 31) (b := 16) (by omega) (by decide) (by decide)
    have b2 : CMulX 7919 (c + 1) := mulok (a := 13) (b := 61) (by decide) (by omega) (by decide)
    have hs1 := Int.emod_nonneg (s * 39373 + 7919 * (c + 1) + 7) (b := 2147483647) (by decide)
    have hs2 := Int.emod_lt_of_pos (s * 39373 + 7919 * (c + 1) + 7) (b := 2147483647) (by decide)
    have b3 : CMulX ((s * 39373 + 7919 * (c + 1) + 7) % 2147483647) ((s * 39373 + 7919 * (c + 1) + 7) % 2147483647) := mulok (a := 31) (b := 31) (by omega) (by omega) (by decide)
    have d32 : CDivW ((s * 39373 + 7919 * (c + 1) + 7) % 2147483647 * ((s * 39373 + 7919 * (c + 1) + 7) % 2147483647) % 2147483629) 32 := ⟨by decide, by decide⟩
    have t0 := Int.emod_nonneg ((s * 39373 + 7919 * (c + 1) + 7) % 2147483647 * ((s * 39373 + 7919 * (c + 1) + 7) % 2147483647) % 2147483629 / 32) (b := m) (by omega)
    have t1 := Int.emod_lt_of_pos ((s * 39373 + 7919 * (c + 1) + 7) % 2147483647 * ((s * 39373 + 7919 * (c + 1) + 7) % 2147483647) % 2147483629 / 32) hm
    refine OK.eq (o := .ok (.int ((s * 39373 + 7919 * (c + 1) + 7) % 2147483647 * ((s * 39373 + 7919 * (c + 1) + 7) % 2147483647) % 2147483629 / 32 % m)) (μ.set j (.lst [.int d, .int ((s * 39373 + 7919 * (c + 1) + 7) % 2147483647), .int (c + 1)]))) ?_ ?_
    · have := q _ (.lst [.int d, .int ((s * 39373 + 7919 * (c + 1) + 7) % 2147483647), .int (c + 1)]) (by rw [Int.toNat_of_nonneg t0]; exact t1) ⟨d, _, c + 1, by simp [hjl], d0, d1, hs1, hs2, by omega, by omega⟩
      rw [Int.toNat_of_nonneg t0] at this
      exact (OK_ok _ _ _).mpr this
    · have es : ∀ x : MO, (μ.set j x)[j]? = some x := fun x => by simp [hjl]
      clear hjl
      simp [i_law_take, e, es, ix0, ix1, ix2, h, hm, setIxA, ixN, b1, b2, b3, d32]
theorem ixA_sv {μ : Mu} {a : Ag} {xs : List PV} {i : Int} (h : sview μ a = some xs) : ixA μ a (.v (.int i)) = (atI xs i).map .v := by
  cases a with
  | l ys => cases h; rfl
  | v p =>
    cases p with
    | str s => cases h
    | _ =>
      simp only [ixA, h]
theorem len_sv {μ : Mu} {a : Ag} {xs : List PV} (h : sview μ a = some xs) : biA .len [a] μ = some (.v (.int xs.length)) := by
  cases a with
  | l ys => cases h; rfl
  | v p =>
    cases p with
    | str s => cases h
    | _ => simp only [biA, h, Option.map_some]
theorem sv_set {μ : Mu} {p : PV} {xs : List PV} {j : Nat} {l : MO} (h : sview μ (.v p) = some xs) (hp : p ≠ .ref j) : sview (μ.set j l) (.v p) = some xs := by
  cases p with
  | ref n =>
    have hn : j ≠ n := fun z => hp (by rw [z])
    simp only [sview_ref, mview_ref] at h ⊢
    rw [List.getElem?_set_ne hn]
    exact h
  | _ => exact h
theorem one_ok {G : Gm} (h1 : G.fns.lookup "_law_take" = some i_law_take) (h2 : G.fns.lookup "_law_one" = some i_law_one) (n : Nat) {j k : Nat} {μ : Mu} {p : PV} {xs : List PV} (J : Jar j k μ) (hk : k < 2 ^ 60) (hs : sview μ (.v p) = some xs) (hp : p ≠ .ref j) (h0 : xs ≠ []) (hl : xs.length < 2 ^ 60)
    {Q : PV → Mu → Prop} (q : ∀ y l, y ∈ xs → Jar j (k + 1) (μ.set j l) → Q y (μ.set j l)) : OK (callN G (n + 2) "_law_one" [.ref j, p] μ) Q := by
  have hpos : 0 < xs.length := List.length_pos_iff.mpr h0
  rw [callN_eq (n + 1) h2 rfl]
  have e1 := len_sv hs
  simp [i_law_one, e1]
  refine take_ok h1 n J hk (by omega) (by omega) fun t l ht J' => ?_
  have hi : t < xs.length := by omega
  have e2 : ixA (μ.set j l) (.v p) (.v (.int (t : Int))) = some (.v xs[t]) := by rw [ixA_sv (sv_set hs hp), atI_nat hi]; rfl
  simp [e2]
  exact q _ _ (List.getElem_mem hi) J'
/-- nothing of μ changed but the jar; new objects may stand behind -/
def Fr (j : Nat) (μ μ' : Mu) : Prop := μ.length ≤ μ'.length ∧ ∀ a, a < μ.length → a ≠ j → μ'[a]? = μ[a]?
theorem Fr.refl (j : Nat) (μ : Mu) : Fr j μ μ := ⟨Nat.le_refl _, fun _ _ _ => rfl⟩
theorem Fr.trans {j : Nat} {μ μ1 μ2 : Mu} (h : Fr j μ μ1) (h' : Fr j μ1 μ2) : Fr j μ μ2 := ⟨Nat.le_trans h.1 h'.1, fun a ha hj => by rw [h'.2 a (Nat.lt_of_lt_of_le ha h.1) hj, h.2 a ha hj]⟩
theorem Fr.set {j : Nat} {μ μ1 : Mu} (h : Fr j μ μ1) (l : MO) : Fr j μ (μ1.set j l) := ⟨by simpa using h.1, fun a ha hj => by rw [List.getElem?_set_ne (Ne.symm hj), h.2 a ha hj]⟩
theorem Fr.setNew {j a : Nat} {μ μ1 : Mu} (h : Fr j μ μ1) (ha : μ.length ≤ a) (l : MO) : Fr j μ (μ1.set a l) := ⟨by simpa using h.1, fun b hb hj => by rw [List.getElem?_set_ne (by omega), h.2 b hb hj]⟩
theorem Fr.app {j : Nat} {μ μ1 : Mu} (h : Fr j μ μ1) (ν : Mu) : Fr j μ (μ1 ++ ν) := ⟨by have := h.1; simp; omega, fun b hb hj => by rw [List.getElem?_append_left (Nat.lt_of_lt_of_le hb h.1), h.2 b hb hj]⟩
theorem Jar.setNe {j k a : Nat} {μ : Mu} (h : Jar j k μ) (ha : a ≠ j) (l : MO) : Jar j k (μ.set a l) := by
  obtain ⟨d, s, c, e, h⟩ := h
  exact ⟨d, s, c, by rw [List.getElem?_set_ne ha, e], h⟩
theorem Jar.app {j k : Nat} {μ : Mu} (h : Jar j k μ) (ν : Mu) : Jar j k (μ ++ ν) := by
  obtain ⟨d, s, c, e, h⟩ := h
  exact ⟨d, s, c, get_app e, h⟩
theorem it_sv {μ : Mu} {a : Ag} {xs : List PV} (h : sview μ a = some xs) : ∃ src, itA μ a = some (xs, src) ∧ ∀ n ∈ src, a = .v (.ref n) := by
  cases a with
  | l ys => cases h; exact ⟨[], rfl, fun _ h => nomatch h⟩
  | v p =>
    cases p with
    | ref n =>
      simp only [sview_ref, mview_ref] at h
      refine ⟨[n], ?_, fun m hm => by simp at hm; rw [hm]⟩
      rw [itA_ref]
      split at h
      · rename_i ys e
        cases h
        simp
      · cases h
    | tup ys => cases h; exact ⟨[], rfl, fun _ h => nomatch h⟩
    | frz ys => cases h; exact ⟨[], rfl, fun _ h => nomatch h⟩
    | _ => cases h
theorem seqIx {n i : Nat} (h : i < n) : seqIndex? (i : Int) n = some i := by
  have := ixN_seq (n := n) (i := (i : Int)) (j := i) (ixN_nat h)
  exact this.1
theorem pool_ok {G : Gm} (hf : G.fns.lookup "_law_pool" = some i_law_pool) (n : Nat) {μ : Mu} {p : PV} {ns : List Int} (hs : sview μ (.v p) = some (ns.map .int)) (hl : ns.length ≤ 63)
    {Q : PV → Mu → Prop} (q : ∀ l, Jar μ.length 0 (μ ++ [l]) → Q (.ref μ.length) (μ ++ [l])) : OK (callN G (n + 1) "_law_pool" [p] μ) Q := by
  rw [callN_eq n hf rfl]
  have e1 := len_sv hs
  have c1 : CPow 10 12 := ⟨by decide, by decide, by decide⟩
  have c2 : CPow 10 60 := ⟨by decide, by decide, by decide⟩
  simp only [List.length_map] at e1
  have hsm : Sm (ns.length : Int) := Sm.nat (by omega)
  simp [i_law_pool, e1, hsm]
  refine OK.forN (fun i σ μ' => μ' = μ ∧ ∃ (d s : Int) (a c : Option PV), σ = [some p, some (.int d), some (.int s), a, c] ∧ 0 ≤ d ∧ d < 1000000000000000000000000000000000000000000000000000000000000000000000000000000000000000000000000000000000000000000000000 ∧ 0 ≤ s ∧ s < 2147483647) ⟨rfl, 0, 7, none, none, rfl, by decide, by decide, by decide, by decide⟩ (fun _ _ _ _ => stay_nil _ _) (fun k x σ μ' Q' hx hP q' => ?_) ?_
  · obtain ⟨rfl, d, s, a, c, rfl, d0, d1, s0, s1⟩ := hP
    obtain ⟨hk, rfl⟩ := rng_get _ hx
    have e2 : ixA μ' (.v p) (.v (.int (k : Int))) = some (.v (.int ns[k])) := by
      rw [ixA_sv hs, atI_nat (by simpa using hk)]
      simp
    have b1 : CMulX s 48271 := mulok (a := 31) (b := 16) (by omega) (by decide) (by decide)
    generalize ns[k] = z at e2
    obtain ⟨cell, hc, hc0⟩ : ∃ cell : Int, (if -1 - z > z then -1 - z else z) = cell ∧ 0 ≤ cell := ⟨_, rfl, by split <;> omega⟩
    have hm1 := Int.emod_nonneg (s * 48271 + cell % 2147483629 + 11) (b := 2147483647) (by decide)
    have hm2 := Int.emod_lt_of_pos (s * 48271 + cell % 2147483629 + 11) (b := 2147483647) (by decide)
    have hm3 := Int.emod_nonneg cell (b := 1000000000000000000000000000000000000000000000000000000000000) (by decide)
    have hm4 := Int.emod_lt_of_pos cell (b := 1000000000000000000000000000000000000000000000000000000000000) (by decide)
    by_cases h1 : 1000000000000 ≤ cell
    · by_cases h2 : d < 1000000000000000000000000000000000000000000000000000000000000
      · have b2 : CMulX d 1000000000000000000000000000000000000000000000000000000000000 := mulok (a := 200) (b := 200) (by omega) (by omega) (by omega)
        simp [e2, hc, b1, c1, c2, h1, h2, b2]
        exact q' _ _ ⟨rfl, _, _, _, _, rfl, by omega, by omega, hm1, hm2⟩
      · simp [e2, hc, b1, c1, c2, h1, h2]
        exact q' _ _ ⟨rfl, _, _, _, _, rfl, d0, d1, hm1, hm2⟩
    · simp [e2, hc, b1, c1, c2, h1]
      exact q' _ _ ⟨rfl, _, _, _, _, rfl, d0, d1, hm1, hm2⟩
  · rintro σ μ' ⟨rfl, d, s, a, c, rfl, d0, d1, s0, s1⟩
    simp
    exact q _ ⟨d, s, 0, by simp, d0, d1, s0, s1, by decide, by decide⟩
end
end Ev

set_option Elab.async false
set_option linter.all false
set_option maxRecDepth 100000
/-! EvX2: shuffles, drawn lots, the judge of like data. Own work. -/
namespace Ev
open PySem PySem.Spec PyProof.Rows L2
open Classical
noncomputable section
theorem pop1_ok {μ : Mu} {n t : Nat} {xs : List PV} (h : μ[n]? = some (.lst xs)) (ht : t < xs.length) (hl : xs.length < 2 ^ 60) : mtA .pop1 (.v (.ref n)) [.v (.int t)] μ = some (.v xs[t], μ.set n (.lst (xs.eraseIdx t))) := by
  simp only [mtA, h, if_pos (Sm.nat (k := t) (by omega)), seqIx ht, List.getElem?_eq_getElem ht]
theorem ext_ok {μ : Mu} {n : Nat} {b : Ag} {xs ys : List PV} (h : μ[n]? = some (.lst xs)) (hb : mview μ b = some ys) (hl : xs.length + ys.length ≤ 16777216) : mtA .extend (.v (.ref n)) [b] μ = some (.v .non, μ.set n (.lst (xs ++ ys))) := by
  simp only [mtA, h, hb]
  rw [if_pos (by rw [sizeLine_eq]; exact hl)]
theorem pop0_ok {μ : Mu} {n : Nat} {xs : List PV} {y : PV} (h : μ[n]? = some (.lst (xs ++ [y]))) : mtA .pop0 (.v (.ref n)) [] μ = some (.v y, μ.set n (.lst xs)) := by
  simp only [mtA, h]
  simp
theorem sv_app {μ : Mu} {p : PV} {xs : List PV} (h : sview μ (.v p) = some xs) (ν : Mu) : sview (μ ++ ν) (.v p) = some xs := by
  cases p with
  | ref n =>
    simp only [sview_ref, mview_ref] at h ⊢
    split at h
    · rename_i e
      rw [get_app e]
      exact h
    · cases h
  | _ => exact h
theorem sv_fr {j : Nat} {μ μ' : Mu} {p : PV} {xs : List PV} (f : Fr j μ μ') (h : sview μ (.v p) = some xs) (hp : p ≠ .ref j) : sview μ' (.v p) = some xs := by
  cases p with
  | ref n =>
    have hn : n ≠ j := fun z => hp (by rw [z])
    simp only [sview_ref, mview_ref] at h ⊢
    split at h
    · rename_i e
      rw [f.2 n (get_lt e) hn, e]
      exact h
    · cases h
  | _ => exact h
section
variable {G : Gm} (h1 : G.fns.lookup "_law_take" = some i_law_take)
include h1
theorem mixed_ok (h2 : G.fns.lookup "_law_mixed" = some i_law_mixed) (n : Nat) {j k : Nat} {μ : Mu} {p : PV} {xs : List PV} (J : Jar j k μ) (hk : k + xs.length < 2 ^ 60) (hs : sview μ (.v p) = some xs) (hp : p ≠ .ref j) (hl : xs.length ≤ 1000)
    {Q : PV → Mu → Prop} (q : ∀ (M : Nat) ys μ', μ'[M]? = some (.lst ys) → μ.length ≤ M → ys.length = xs.length → (∀ y ∈ ys, y ∈ xs) → Fr j μ μ' → Jar j (k + xs.length) μ' → Q (.ref M) μ') : OK (callN G (n + 2) "_law_mixed" [.ref j, p] μ) Q := by
  have hj := J.lt
  rw [callN_eq (n + 1) h2 rfl]
  have e1 := len_sv (sv_app hs [.lst xs, .lst []])
  have hsm : Sm (xs.length : Int) := Sm.nat (by omega)
  simp [i_law_mixed, hs, e1, hsm]
  refine OK.forN (fun i σ μ' => ∃ (lft ys : List PV) (a : Option PV), σ = [some (.ref j), some p, some (.ref μ.length), some (.ref (μ.length + 1)), a] ∧ μ'[μ.length]? = some (.lst lft) ∧ μ'[μ.length + 1]? = some (.lst ys) ∧ lft.length + i = xs.length ∧ ys.length = i ∧ (∀ y ∈ lft, y ∈ xs) ∧ (∀ y ∈ ys, y ∈ xs) ∧ Fr j μ μ' ∧ Jar j (k + i) μ')
    ⟨xs, [], none, rfl, by simp, by simp, rfl, rfl, fun _ h => h, (fun _ h => by simp at h), (Fr.refl j μ).app _, J.app _⟩ (fun _ _ _ _ => stay_nil _ _) (fun i x σ μ' Q' hx hP q' => ?_) ?_
  · obtain ⟨lft, ys, a, rfl, g1, g2, l1, l2, m1, m2, f, J'⟩ := hP
    obtain ⟨hi, rfl⟩ := rng_get _ hx
    simp [g1]
    refine take_ok h1 n J' (by omega) (by omega) (by omega) fun t l ht J2 => ?_
    have g1' : (μ'.set j l)[μ.length]? = some (.lst lft) := by rw [List.getElem?_set_ne (by omega), g1]
    have g2' : (μ'.set j l)[μ.length + 1]? = some (.lst ys) := by rw [List.getElem?_set_ne (by omega), g2]
    have ht' : t < lft.length := by omega
    have e2 := pop1_ok g1' ht' (by omega)
    have g3 : ((μ'.set j l).set μ.length (.lst (lft.eraseIdx t)))[μ.length + 1]? = some (.lst ys) := by rw [List.getElem?_set_ne (by omega), g2']
    have hy : ys.length < 16777216 := by omega
    simp [e2, g3, hy]
    refine q' _ _ ⟨lft.eraseIdx t, ys ++ [lft[t]], _, rfl, ?_, ?_, ?_, by simp [l2], fun y hy => m1 _ (List.mem_of_mem_eraseIdx hy), fun y hy => ?_, ((f.set l).setNew (Nat.le_refl _) _).setNew (Nat.le_succ _) _, (J2.setNe (by omega) _).setNe (by omega) _⟩
    · rw [List.getElem?_set_ne (by omega), List.getElem?_set_self (get_lt g1')]
    · rw [List.getElem?_set_self (get_lt g3)]
    · rw [List.length_eraseIdx, if_pos ht']
      omega
    · simp only [List.mem_append, List.mem_singleton] at hy
      rcases hy with hy | rfl
      · exact m2 _ hy
      · exact m1 _ (List.getElem_mem ht')
  · rintro σ μ' ⟨lft, ys, a, rfl, g1, g2, l1, l2, m1, m2, f, J'⟩
    simp only [List.length_map, List.length_range] at l1 l2 J'
    simp
    exact q _ ys _ g2 (Nat.le_succ _) l2 m2 f J'
theorem some_ok (h2 : G.fns.lookup "_law_some" = some i_law_some) (n : Nat) {j k : Nat} {μ : Mu} {p : PV} {xs : List PV} {odds : Int} (J : Jar j k μ) (hk : k + xs.length < 2 ^ 60) (hs : sview μ (.v p) = some xs) (hp : p ≠ .ref j) (hl : xs.length ≤ 1000) (ho : 0 < odds) (ho2 : odds < 2 ^ 60)
    {Q : PV → Mu → Prop} (q : ∀ ys μ', (∀ y ∈ ys, y ∈ xs) → ys.length ≤ xs.length → Fr j μ μ' → Jar j (k + xs.length) μ' → Q (.tup ys) μ') : OK (callN G (n + 2) "_law_some" [.ref j, p, .int odds] μ) Q := by
  have hj := J.lt
  rw [callN_eq (n + 1) h2 rfl]
  obtain ⟨src, hit, hsrc⟩ := it_sv (sv_app hs [.lst []])
  simp [i_law_some, hit]
  refine OK.forN (fun i σ μ' => ∃ (ys : List PV) (a : Option PV), σ = [some (.ref j), some p, some (.int odds), some (.ref μ.length), a] ∧ μ'[μ.length]? = some (.lst ys) ∧ ys.length ≤ i ∧ i ≤ xs.length ∧ (∀ y ∈ ys, y ∈ xs) ∧ Fr j μ μ' ∧ Jar j (k + i) μ')
    ⟨[], none, rfl, by simp, Nat.le_refl _, Nat.zero_le _, (fun _ h => by simp at h), (Fr.refl j μ).app _, J.app _⟩ (fun i σ μ' hP m hm => ?_) (fun i x σ μ' Q' hx hP q' => ?_) ?_
  · obtain ⟨ys, a, rfl, g, l, _, m1, f, J'⟩ := hP
    have e := hsrc m hm
    cases e
    have hm' : m < μ.length := by
      simp only [sview_ref, mview_ref] at hs
      split at hs
      · rename_i e; exact get_lt e
      · cases hs
    rw [f.2 m hm' (fun z => hp (by rw [z])), List.getElem?_append_left hm']
  · obtain ⟨ys, a, rfl, g, l, _, m1, f, J'⟩ := hP
    have hi : i < xs.length := by
      rcases Nat.lt_or_ge i xs.length with h | h
      · exact h
      · rw [List.getElem?_eq_none h] at hx; cases hx
    simp
    refine take_ok h1 n J' (by omega) (by omega) (by omega) fun t l' ht J2 => ?_
    have g' : (μ'.set j l')[μ.length]? = some (.lst ys) := by rw [List.getElem?_set_ne (by omega), g]
    by_cases h0 : t = 0
    · subst h0
      have e2 := ext_ok (b := .l [x]) g' rfl (by simp; omega)
      simp [e2]
      refine q' _ _ ⟨ys ++ [x], _, rfl, by rw [List.getElem?_set_self (get_lt g')], by simp; omega, hi, fun y hy => ?_, (f.set l').setNew (Nat.le_refl _) _, J2.setNe (by omega) _⟩
      simp only [List.mem_append, List.mem_singleton] at hy
      rcases hy with hy | rfl
      · exact m1 _ hy
      · exact List.mem_of_getElem? hx
    · have e2 := ext_ok (b := .l []) g' rfl (by simp; omega)
      have h0' : ¬ (t : Int) = 0 := by omega
      simp [e2, h0]
      refine q' _ _ ⟨ys, _, rfl, by rw [List.getElem?_set_self (get_lt g')], by omega, hi, m1, (f.set l').setNew (Nat.le_refl _) _, J2.setNe (by omega) _⟩
  · rintro σ μ' ⟨ys, a, rfl, g, l, l', m1, f, J'⟩
    simp [g]
    exact q ys _ m1 l f J'
end
end
end Ev

set_option Elab.async false
set_option linter.all false
set_option maxRecDepth 100000
/-! EvX3: the judge of like data. Own work. -/
namespace Ev
open PySem PySem.Spec PyProof.Rows L2
open Classical
noncomputable section
abbrev prs (xs ys : List PV) : List PV := List.zipWith (fun x y => .tup [x, y]) xs ys
theorem prs_comp {W : Wd} {p q : PV} {σ : Sg} {μ : Mu} {xs ys : List PV} {src : List Nat} (hp : ∀ k : Nat, ixA μ (.v p) (.v (.int k)) = (atI xs k).map .v) (hq : ∀ k : Nat, ixA μ (.v q) (.v (.int k)) = (atI ys k).map .v) (hl : xs.length = ys.length) (hs : xs.length ≤ 16777216) (s3 : varA σ 3 = some (.v p)) (s4 : varA σ 4 = some (.v q)) (s7 : σ.length = 7)
    {Q : List PV → Mu → Prop} (h : Q (prs xs ys) μ) : OK (compLoop μ src (compBody W (.nm 6) .nil (.tup (.cons (.ix (.var 3) (.var 6)) (.cons (.ix (.var 4) (.var 6)) .nil))) σ) ((List.range ys.length).map fun (k : Nat) => .int (k : Int)) [] μ) Q := by
  obtain ⟨a, b, c, d, e, f, g, rfl⟩ : ∃ a b c d e f g, σ = [a, b, c, d, e, f, g] := by
    match σ, s7 with
    | [a, b, c, d, e, f, g], _ => exact ⟨a, b, c, d, e, f, g, rfl⟩
  have h3 : d = some p := by
    cases d with
    | none => simp [varA] at s3
    | some d => simp [varA] at s3; rw [s3]
  have h4 : e = some q := by
    cases e with
    | none => simp [varA] at s4
    | some e => simp [varA] at s4; rw [s4]
  subst h3 h4
  refine OK.comp (fun i acc μ1 => μ1 = μ ∧ acc = (prs xs ys).take i) ⟨rfl, by simp⟩ (fun i acc μ1 h => by rw [h.1]; exact stay_self _ _) (by simpa [← hl] using hs) (fun i acc μ1 h => by rw [h.2, List.length_take]; omega) (fun i x acc μ1 Q' hx hP q1 q2 => ?_) ?_
  · obtain ⟨rfl, rfl⟩ := hP
    obtain ⟨hi, rfl⟩ := rng_get _ hx
    have hi' : i < xs.length := by omega
    have e3 := hp i
    have e4 := hq i
    rw [atI_nat hi'] at e3
    rw [atI_nat hi] at e4
    simp at e3 e4
    simp [e3, e4]
    refine q1 _ _ ⟨rfl, ?_⟩
    have hz : i < (prs xs ys).length := by simp; omega
    have := List.take_append_getElem (l := prs xs ys) (i := i) hz
    rw [← this]
    simp
  · rintro acc μ1 ⟨rfl, rfl⟩
    have : (prs xs ys).take ((List.range ys.length).map fun (k : Nat) => PV.int (k : Int)).length = prs xs ys := by
      rw [List.take_of_length_le]
      simp
      omega
    rw [this]
    exact h
theorem ix_lst {μ : Mu} {a : Nat} {xs : List PV} (h : μ[a]? = some (.lst xs)) (k : Nat) : ixA μ (.v (.ref a)) (.v (.int k)) = (atI xs k).map .v := ixA_sv (by simp [h])
theorem same_ok {G : Gm} (h1 : G.fns.lookup "_law_yq_same" = some i_law_yq_same) (h2 : G.fns.lookup "_law_yq_is_whole" = some i_law_yq_is_whole) (n : Nat) {μ : Mu} {p q : PV} {m : Nat} (S : SameR μ p q m) (hm : m ≤ 10000000) (hf : m < G.fuel)
    {Q : PV → Mu → Prop} (hq : Q (.bl true) (μ ++ [.lst []])) : OK (callN G (n + 2) "_law_yq_same" [p, q] μ) Q := by
  have isw : ∀ (i : Int) (μ : Mu), callN G (n + 1) "_law_yq_is_whole" [.int i] μ = .ok (.bl true) μ := fun i μ => by
    rw [callN_eq n h2 rfl]
    simp [i_law_yq_is_whole]
  rw [callN_eq (n + 1) h1 rfl]
  simp [i_law_yq_same]
  refine OK.whil (fun m σ μ' => ∃ ts o3 o4 o5 o6, σ = [some p, some q, some (.ref μ.length), o3, o4, o5, o6] ∧ μ' = μ ++ [.lst ts] ∧ Todo μ ts m ∧ m ≤ 10000000) (fun m σ μ' Q' hP q1 q2 => ?_) G.fuel m _ _ hf ⟨_, _, _, _, _, rfl, rfl, by simpa using Todo.nil.snoc S, hm⟩
  obtain ⟨ts, o3, o4, o5, o6, rfl, rfl, T, hm⟩ := hP
  have hg : ∀ zs : List PV, (μ ++ [MO.lst zs])[μ.length]? = some (.lst zs) := fun zs => by simp
  have he := eqA_nil (μ ++ [MO.lst ts]) (a := .v (.ref μ.length)) (xs := ts) (by simp)
  cases T with
  | nil =>
    simp [he]
    simpa using hq
  | @snoc ts m' n' a b T S =>
    have := S.pos
    have e1 := pop0_ok (hg (ts ++ [.tup [a, b]]))
    rw [set_last] at e1
    have e0 : (ts ++ [PV.tup [a, b]]).isEmpty = false := by simp
    rw [e0] at he
    have sm : ∀ {o3 o4 o5 o6 : Option PV}, Q' (.nx [some p, some q, some (.ref μ.length), o3, o4, o5, o6]) (μ ++ [.lst ts]) := fun {o3 o4 o5 o6} => q1 _ m' _ (by omega) ⟨ts, o3, o4, o5, o6, rfl, rfl, T, by omega⟩
    have deep : ∀ {xs ys : List PV} {n'' : Nat}, n' = n'' + 1 → SameL μ xs ys n'' → ∀ {o3 o4 o5 o6 : Option PV}, Q' (.nx [some p, some q, some (.ref μ.length), o3, o4, o5, o6]) (μ ++ [.lst (ts ++ prs xs ys)]) := fun {xs ys n''} hn L {o3 o4 o5 o6} => q1 _ (m' + n'') _ (by omega) ⟨_, o3, o4, o5, o6, rfl, rfl, T.more L, by omega⟩
    have tl := T.len
    cases S with
    | non =>
      simp [he, e1]
      exact sm
    | bl b =>
      simp [he, e1]
      exact sm
    | int i =>
      simp [he, e1, isw]
      exact sm
    | str s hs =>
      simp [he, e1, hs]
      exact sm
    | @tup xs ys n'' L =>
      obtain ⟨l1, l2⟩ := L.len
      have hsm : Sm (ys.length : Int) := Sm.nat (by omega)
      simp [he, e1, l1, hsm]
      refine prs_comp (fun k => rfl) (fun k => rfl) l1 (by omega) rfl rfl rfl ?_
      have e2 := ext_ok (μ := μ ++ [MO.lst ts]) (b := .l (prs xs ys)) (hg ts) rfl (by simp; omega)
      simp [e2]
      exact deep rfl L
    | @ref x y xs ys n'' g1 g2 L =>
      obtain ⟨l1, l2⟩ := L.len
      have hsm : Sm (ys.length : Int) := Sm.nat (by omega)
      have g1' := get_app (ν := [MO.lst ts]) g1
      have g2' := get_app (ν := [MO.lst ts]) g2
      simp [he, e1, l1, hsm, g1', g2']
      refine prs_comp (fun k => ix_lst g1' k) (fun k => ix_lst g2' k) l1 (by omega) rfl rfl rfl ?_
      have e2 := ext_ok (μ := μ ++ [MO.lst ts]) (b := .l (prs xs ys)) (hg ts) rfl (by simp; omega)
      simp [e2]
      exact deep rfl L
end
end Ev

set_option Elab.async false
set_option linter.all false
set_option maxRecDepth 100000
/-! EvX4: forms of lots and webs, the program's and the law's. Own work. -/
namespace Ev
open PySem PySem.Spec PyProof.Rows L2
open Classical
noncomputable section
theorem OK.toEq {α : Type} {o : Out α} {a : α} {μ : Mu} (h : OK o fun a' μ' => a' = a ∧ μ' = μ) : o = .ok a μ := by
  obtain ⟨_, _, e, rfl, rfl⟩ := h
  exact e
def Lv1 (μ : Mu) (p : PV) : Prop := ∀ n, p = .ref n → ∃ xs, μ[n]? = some (.lst xs)
def Lv2 (μ : Mu) (p : PV) : Prop := Lv1 μ p ∧ ∀ xs, p = .tup xs → ∀ x ∈ xs, Lv1 μ x
def Lv3 (μ : Mu) (p : PV) : Prop := Lv1 μ p ∧ ∀ xs, p = .tup xs → ∀ x ∈ xs, Lv2 μ x
def tyB (t : Ty) : PV → Bool
  | .non => false
  | .bl _ => match t with | .int | .bool => true | _ => false
  | .int _ => match t with | .int => true | _ => false
  | .str _ => match t with | .str => true | _ => false
  | .tup _ => match t with | .tuple => true | _ => false
  | .ref _ => match t with | .list => true | _ => false
  | .frz _ => match t with | .list => true | _ => false
theorem isA_lv {μ : Mu} {p : PV} (h : Lv1 μ p) (t : Ty) : isA μ t (.v p) = some (tyB t p) := by
  cases p with
  | ref n =>
    obtain ⟨xs, e⟩ := h n rfl
    cases t <;> simp [e, tyB]
  | _ => cases t <;> simp [tyB]
def wholeB : PV → Int → Int → Bool
  | .int i, lo, hi => decide (lo ≤ i) && decide (i ≤ hi)
  | _, _, _ => false
def lotGo (top : Int) : List PV → Int → Nat → Option Nat
  | [], _, _ => none
  | x :: xs, least, a => match x with
    | .int i => if least ≤ i ∧ i ≤ top - 1 then lotGo top xs (i + 1) (a + 1) else some a
    | _ => some a
def optP : Option Nat → PV
  | some a => .int a
  | none => .non
def lotF (top : Int) : PV → PV
  | .tup xs => optP (lotGo top xs 0 0)
  | _ => .int (-1)
def lotOk (top : Int) (p : PV) : Bool := isNone (.v (lotF top p))
def webGo (top : Int) : List PV → Nat → Option Nat
  | [], _ => none
  | x :: xs, a => if lotOk top x = true then webGo top xs (a + 1) else some a
def webE : PV → Option (String × Int)
  | .tup xs => if 60 < xs.length then some ("TooMany", xs.length) else match webGo xs.length xs 0 with
    | some a => some ("BadWeb", (a : Int))
    | none => none
  | _ => some ("BadWeb", -1)
def excP : Option (String × Int) → PV
  | some (c, w) => .tup [.str (Str.ofString c), .int w]
  | none => .non
abbrev webF (p : PV) : PV := excP (webE p)
theorem enum_get {xs : List PV} {k : Nat} {x : PV} (hx : (enumP xs)[k]? = some x) : ∃ h : k < xs.length, x = .tup [.int k, xs[k]] := by
  unfold enumP at hx
  have hk : k < xs.length := by
    rcases Nat.lt_or_ge k xs.length with h | h
    · exact h
    · rw [List.getElem?_eq_none (by simpa using h)] at hx; cases hx
  refine ⟨hk, ?_⟩
  simp [hk] at hx
  exact hx.symm
theorem enum_len (xs : List PV) : (enumP xs).length = xs.length := by simp [enumP]
theorem lotGo_cons (top least : Int) (x : PV) (xs : List PV) (a : Nat) : lotGo top (x :: xs) least a = match x with
    | .int i => if least ≤ i ∧ i ≤ top - 1 then lotGo top xs (i + 1) (a + 1) else some a
    | _ => some a := by
  cases x <;> rfl
theorem lotGo_bad {top least : Int} {x : PV} {xs : List PV} {a : Nat} (h : wholeB x least (top - 1) = false) : lotGo top (x :: xs) least a = some a := by
  cases x with
  | int i =>
    simp only [wholeB, Bool.and_eq_false_iff, decide_eq_false_iff_not] at h
    rw [lotGo_cons]
    simp only
    rw [if_neg (by omega)]
  | _ => rfl
theorem lotGo_good {top least : Int} {x : PV} {xs : List PV} {a : Nat} (h : wholeB x least (top - 1) = true) : ∃ i, x = .int i ∧ lotGo top (x :: xs) least a = lotGo top xs (i + 1) (a + 1) := by
  cases x with
  | int i =>
    simp only [wholeB, Bool.and_eq_true, decide_eq_true_eq] at h
    exact ⟨i, rfl, by rw [lotGo_cons]; simp only; rw [if_pos h]⟩
  | _ => cases h
section
variable {G : Gm} (h1 : G.fns.lookup "whole" = some iwhole) (n : Nat)
include h1
theorem whole_eq {μ : Mu} {p : PV} (hp : Lv1 μ p) (lo hi : Int) : callN G (n + 1) "whole" [p, .int lo, .int hi] μ = .ok (.bl (wholeB p lo hi)) μ := by
  rw [callN_eq n h1 rfl]
  have e := isA_lv hp
  cases p with
  | int i =>
    by_cases h : lo ≤ i <;> simp [iwhole, wholeB, h]
  | bl b => simp [iwhole, wholeB]
  | _ => simp [iwhole, e, tyB, wholeB]
theorem wrong_lot_eq (h2 : G.fns.lookup "wrong_lot" = some iwrong_lot) {μ : Mu} {p : PV} (hp : Lv2 μ p) (top : Int) : callN G (n + 2) "wrong_lot" [p, .int top] μ = .ok (lotF top p) μ := by
  rw [callN_eq (n + 1) h2 rfl]
  have e := isA_lv hp.1
  cases p with
  | tup xs =>
    refine OK.toEq ?_
    simp [iwrong_lot]
    refine OK.for (fun i σ μ' => μ' = μ ∧ ∃ least a b, σ = [some (.tup xs), some (.int top), some (.int least), a, b] ∧ lotGo top (xs.drop i) least i = lotGo top xs 0 0) (fun q μ' => μ' = μ ∧ ∃ a : Nat, q = .int a ∧ lotGo top xs 0 0 = some a) ⟨rfl, 0, none, none, rfl, by simp⟩ (fun _ _ _ _ => stay_nil _ _) (fun k x σ μ' Q' hx hP q1 q2 => ?_) ?_ ?_
    · obtain ⟨rfl, least, a, b, rfl, hL⟩ := hP
      obtain ⟨hk, rfl⟩ := enum_get hx
      rw [List.drop_eq_getElem_cons hk] at hL
      have hw := whole_eq h1 n (hp.2 _ rfl _ (List.getElem_mem hk)) least (top - 1)
      cases hb : wholeB xs[k] least (top - 1) with
      | false =>
        simp [hw, hb]
        rw [lotGo_bad hb] at hL
        exact q2 _ _ ⟨rfl, k, rfl, hL.symm⟩
      | true =>
        obtain ⟨i, hi, e2⟩ := lotGo_good (xs := xs.drop (k + 1)) (a := k) hb
        rw [e2] at hL
        rw [hi] at hw
        rw [hi] at hb
        simp [hw, hb, hi]
        exact q1 _ _ ⟨rfl, i + 1, _, _, rfl, hL⟩
    · rintro σ μ' ⟨rfl, least, a, b, rfl, hL⟩
      simp [lotF]
      rw [enum_len, List.drop_length] at hL
      rw [← hL]
      rfl
    · rintro q μ' ⟨rfl, a, rfl, hL⟩
      simp [lotF, hL, optP]
  | _ => simp [iwrong_lot, e, tyB, lotF]
theorem is_lot_eq (h2 : G.fns.lookup "wrong_lot" = some iwrong_lot) (h3 : G.fns.lookup "is_lot" = some iis_lot) {μ : Mu} {p : PV} (hp : Lv2 μ p) (top : Int) : callN G (n + 3) "is_lot" [p, .int top] μ = .ok (.bl (lotOk top p)) μ := by
  rw [callN_eq (n + 2) h3 rfl]
  simp [iis_lot, wrong_lot_eq h1 n h2 hp, lotOk]
end
/-- the program's web defs -/
structure WebG (G : Gm) : Prop where
  whole : G.fns.lookup "whole" = some iwhole
  wrong_lot : G.fns.lookup "wrong_lot" = some iwrong_lot
  is_lot : G.fns.lookup "is_lot" = some iis_lot
  wrong_web : G.fns.lookup "wrong_web" = some iwrong_web
  asked_web : G.fns.lookup "asked_web" = some iasked_web
  most : G.con.lookup "MOST_CELLS" = some (.int 60)
  cTM : "TooMany" ∈ G.cls
  cBW : "BadWeb" ∈ G.cls
theorem wrong_web_eq {G : Gm} (g : WebG G) (n : Nat) {μ : Mu} {p : PV} (hp : Lv3 μ p) : callN G (n + 4) "wrong_web" [p] μ = .ok (webF p) μ := by
  rw [callN_eq (n + 3) g.wrong_web rfl]
  have e := isA_lv hp.1
  cases p with
  | tup xs =>
    refine OK.toEq ?_
    by_cases h60 : 60 < xs.length
    · have h60' : (60 : Int) < (xs.length : Int) := by omega
      simp [iwrong_web, g.most, h60', h60, webF, webE, excP]
    · have hn : ¬ (60 < xs.length) := h60
      have h60' : ¬ (60 : Int) < (xs.length : Int) := by omega
      simp [iwrong_web, g.most, h60']
      refine OK.for (fun i σ μ' => μ' = μ ∧ ∃ a b, σ = [some (.tup xs), a, b] ∧ webGo xs.length (xs.drop i) i = webGo xs.length xs 0) (fun q μ' => μ' = μ ∧ ∃ a : Nat, q = .tup [.str "BadWeb", .int a] ∧ webGo xs.length xs 0 = some a) ⟨rfl, none, none, rfl, by simp⟩ (fun _ _ _ _ => stay_nil _ _) (fun k x σ μ' Q' hx hP q1 q2 => ?_) ?_ ?_
      · obtain ⟨rfl, a, b, rfl, hL⟩ := hP
        obtain ⟨hk, rfl⟩ := enum_get hx
        rw [List.drop_eq_getElem_cons hk, webGo] at hL
        have hw := is_lot_eq g.whole n g.wrong_lot g.is_lot (hp.2 _ rfl _ (List.getElem_mem hk)) xs.length
        cases hb : lotOk xs.length xs[k] with
        | false =>
          simp [hw, hb]
          rw [hb, if_neg (by simp)] at hL
          exact q2 _ _ ⟨rfl, k, rfl, hL.symm⟩
        | true =>
          simp [hw, hb]
          rw [hb, if_pos rfl] at hL
          exact q1 _ _ ⟨rfl, _, _, rfl, hL⟩
      · rintro σ μ' ⟨rfl, a, b, rfl, hL⟩
        rw [enum_len, List.drop_length] at hL
        simp [webF, webE, hn, ← hL, webGo, excP]
      · rintro q μ' ⟨rfl, a, rfl, hL⟩
        simp [webF, webE, hn, hL, excP]
  | _ => simp [iwrong_web, e, tyB, webF, webE, excP]
theorem s_bt : ((Str.ofString "BadWeb") == (Str.ofString "TooMany")) = false := by decide
theorem ok_bw : PyData.strOk (Str.ofString "BadWeb") = true := by decide +kernel
theorem ok_tm : PyData.strOk (Str.ofString "TooMany") = true := by decide +kernel
theorem webE_cls {p : PV} {c : String} {w : Int} (h : webE p = some (c, w)) : c = "TooMany" ∨ c = "BadWeb" := by
  unfold webE at h
  split at h
  · split at h
    · cases h; exact .inl rfl
    · split at h
      · cases h; exact .inr rfl
      · cases h
  · cases h; exact .inr rfl
def excO (o : Option (String × Int)) (v : PV) (μ : Mu) : Out PV := match o with
  | none => .ok v μ
  | some (c, w) => .exc c (.int w) μ
theorem asked_web_eq {G : Gm} (g : WebG G) (n : Nat) {μ : Mu} {p : PV} (hp : Lv3 μ p) : callN G (n + 5) "asked_web" [p] μ = excO (webE p) .non μ := by
  rw [callN_eq (n + 4) g.asked_web rfl]
  have e := wrong_web_eq g n hp
  unfold webF at e
  cases h : webE p with
  | none =>
    rw [h] at e
    simp [iasked_web, e, excP, excO]
  | some cw =>
    obtain ⟨c, w⟩ := cw
    rw [h] at e
    rcases webE_cls h with rfl | rfl
    · have b : (Str.ofString "TooMany" == ("TooMany" : Str)) = true := by simp
      have b2 := ok_tm
      simp [iasked_web, e, excP, excO, ix0, ix1, g.cTM, ok_tm]
    · have b := s_bt
      simp [iasked_web, e, excP, excO, ix0, ix1, g.cBW, ok_tm, ok_bw, s_bt]
end
end Ev

set_option Elab.async false
set_option linter.all false
set_option maxRecDepth 100000
/-! EvX5: the law's own forms; webs. Own work. -/
namespace Ev
open PySem PySem.Spec PyProof.Rows L2
open Classical
noncomputable section
structure FormG (G : Gm) : Prop where
  isw : G.fns.lookup "_law_yw_is_whole" = some i_law_yw_is_whole
  isin : G.fns.lookup "_law_yw_is_in" = some i_law_yw_is_in
  lot : G.fns.lookup "_law_yw_lot_fault" = some i_law_yw_lot_fault
  web : G.fns.lookup "_law_yw_web_fault" = some i_law_yw_web_fault
section
variable {G : Gm} (g : FormG G) (n : Nat)
include g
theorem yw_isw_eq {μ : Mu} {p : PV} (hp : Lv1 μ p) : callN G (n + 1) "_law_yw_is_whole" [p] μ = .ok (.bl (tyB .int p && !tyB .bool p)) μ := by
  rw [callN_eq n g.isw rfl]
  have e := isA_lv hp
  cases p <;> simp [i_law_yw_is_whole, e, tyB]
theorem yw_isin_eq {μ : Mu} {p : PV} (hp : Lv1 μ p) (lo hi : Int) : callN G (n + 2) "_law_yw_is_in" [p, .int lo, .int hi] μ = .ok (.bl (wholeB p lo hi)) μ := by
  rw [callN_eq (n + 1) g.isin rfl]
  have e := yw_isw_eq g n hp
  cases p with
  | int i =>
    by_cases h : lo ≤ i <;> simp [i_law_yw_is_in, e, tyB, wholeB, h]
  | _ => simp [i_law_yw_is_in, e, tyB, wholeB]
theorem yw_lot_eq {μ : Mu} {p : PV} (hp : Lv2 μ p) (hl : ∀ xs, p = .tup xs → xs.length < 2 ^ 60) (top : Int) : callN G (n + 3) "_law_yw_lot_fault" [p, .int top] μ = .ok (lotF top p) μ := by
  rw [callN_eq (n + 2) g.lot rfl]
  have e := isA_lv hp.1
  cases p with
  | tup xs =>
    refine OK.toEq ?_
    have hsm : Sm (xs.length : Int) := Sm.nat (hl _ rfl)
    simp [i_law_yw_lot_fault, hsm]
    refine OK.for (fun i σ μ' => μ' = μ ∧ ∃ (last : Int) (a : Option PV), σ = [some (.tup xs), some (.int top), some (.int last), a] ∧ lotGo top (xs.drop i) (last + 1) i = lotGo top xs 0 0) (fun q μ' => μ' = μ ∧ ∃ a : Nat, q = .int a ∧ lotGo top xs 0 0 = some a) ⟨rfl, -1, none, rfl, by simp⟩ (fun _ _ _ _ => stay_nil _ _) (fun k x σ μ' Q' hx hP q1 q2 => ?_) ?_ ?_
    · obtain ⟨rfl, last, a, rfl, hL⟩ := hP
      obtain ⟨hk, rfl⟩ := rng_get _ hx
      rw [List.drop_eq_getElem_cons hk] at hL
      have hw := yw_isin_eq g n (hp.2 _ rfl _ (List.getElem_mem hk)) (last + 1) (top - 1)
      have hi : atI xs (k : Int) = some xs[k] := atI_nat hk
      cases hb : wholeB xs[k] (last + 1) (top - 1) with
      | false =>
        simp [hi, hw, hb]
        rw [lotGo_bad hb] at hL
        exact q2 _ _ ⟨rfl, k, rfl, hL.symm⟩
      | true =>
        obtain ⟨i, hi', e2⟩ := lotGo_good (xs := xs.drop (k + 1)) (a := k) hb
        rw [e2] at hL
        rw [hi'] at hw hi hb
        simp [hi, hw, hb]
        exact q1 _ _ ⟨rfl, i, _, rfl, hL⟩
    · rintro σ μ' ⟨rfl, last, a, rfl, hL⟩
      have hlen : ((List.range xs.length).map fun (k : Nat) => PV.int (k : Int)).length = xs.length := by simp
      rw [hlen, List.drop_length] at hL
      simp [lotF, ← hL, lotGo, optP]
    · rintro q μ' ⟨rfl, a, rfl, hL⟩
      simp [lotF, hL, optP]
  | _ => simp [i_law_yw_lot_fault, e, tyB, lotF]
theorem yw_web_eq {μ : Mu} {p : PV} (hp : Lv3 μ p) (hl : ∀ xs, p = .tup xs → ∀ ys, PV.tup ys ∈ xs → ys.length < 2 ^ 60) : callN G (n + 4) "_law_yw_web_fault" [p] μ = .ok (webF p) μ := by
  rw [callN_eq (n + 3) g.web rfl]
  have e := isA_lv hp.1
  cases p with
  | tup xs =>
    refine OK.toEq ?_
    by_cases h60 : 60 < xs.length
    · have h60' : (60 : Int) < (xs.length : Int) := by omega
      simp [i_law_yw_web_fault, h60', h60, webF, webE, excP]
    · have hn : ¬ (60 < xs.length) := h60
      have h60' : ¬ (60 : Int) < (xs.length : Int) := by omega
      have hsm : Sm (xs.length : Int) := Sm.nat (by omega)
      simp [i_law_yw_web_fault, h60', hsm]
      refine OK.for (fun i σ μ' => μ' = μ ∧ ∃ b, σ = [some (.tup xs), b] ∧ webGo xs.length (xs.drop i) i = webGo xs.length xs 0) (fun q μ' => μ' = μ ∧ ∃ a : Nat, q = .tup [.str "BadWeb", .int a] ∧ webGo xs.length xs 0 = some a) ⟨rfl, none, rfl, by simp⟩ (fun _ _ _ _ => stay_nil _ _) (fun k x σ μ' Q' hx hP q1 q2 => ?_) ?_ ?_
      · obtain ⟨rfl, b, rfl, hL⟩ := hP
        obtain ⟨hk, rfl⟩ := rng_get _ hx
        rw [List.drop_eq_getElem_cons hk, webGo] at hL
        have hi : atI xs (k : Int) = some xs[k] := atI_nat hk
        have hw := yw_lot_eq g n (hp.2 _ rfl _ (List.getElem_mem hk)) (fun ys hy => hl _ rfl ys (hy ▸ List.getElem_mem hk)) xs.length
        have hb : lotOk xs.length xs[k] = isNone (.v (lotF xs.length xs[k])) := rfl
        cases hb' : lotOk xs.length xs[k] with
        | false =>
          rw [hb'] at hb
          simp [hi, hw, ← hb]
          rw [hb', if_neg (by simp)] at hL
          exact q2 _ _ ⟨rfl, k, rfl, hL.symm⟩
        | true =>
          rw [hb'] at hb
          simp [hi, hw, ← hb]
          rw [hb', if_pos rfl] at hL
          exact q1 _ _ ⟨rfl, _, rfl, hL⟩
      · rintro σ μ' ⟨rfl, b, rfl, hL⟩
        have hlen : ((List.range xs.length).map fun (k : Nat) => PV.int (k : Int)).length = xs.length := by simp
        rw [hlen, List.drop_length] at hL
        simp [webF, webE, hn, ← hL, webGo, excP]
      · rintro q μ' ⟨rfl, a, rfl, hL⟩
        simp [webF, webE, hn, hL, excP]
  | _ => simp [i_law_yw_web_fault, e, tyB, webF, webE, excP]
end
/-! ### right webs -/
/-- rising numbers from lo, below top -/
def Lot (lo top : Int) (r : List Int) : Prop := r.Pairwise (· < ·) ∧ ∀ i ∈ r, lo ≤ i ∧ i < top
theorem Lot.cons {lo top i : Int} {r : List Int} : Lot lo top (i :: r) ↔ (lo ≤ i ∧ i < top) ∧ Lot (i + 1) top r := by
  unfold Lot
  rw [List.pairwise_cons]
  constructor
  · rintro ⟨⟨h1, h2⟩, h3⟩
    exact ⟨h3 i List.mem_cons_self, h2, fun x hx => ⟨h1 x hx, (h3 x (List.mem_cons_of_mem _ hx)).2⟩⟩
  · rintro ⟨h1, h2, h3⟩
    refine ⟨⟨fun x hx => by have := h3 x hx; omega, h2⟩, fun x hx => ?_⟩
    rcases List.mem_cons.mp hx with rfl | hx
    · exact h1
    · have := h3 x hx
      omega
theorem Lot.len {lo top : Int} : ∀ {r : List Int}, Lot lo top r → r.length ≤ (top - lo).toNat
  | [], _ => by simp
  | i :: r, h => by
    obtain ⟨h1, h2⟩ := Lot.cons.mp h
    have := h2.len
    simp only [List.length_cons]
    omega
theorem lotGo_none {top : Int} : ∀ {ys : List PV} {least : Int} {a : Nat}, lotGo top ys least a = none → ∃ r : List Int, ys = r.map .int ∧ Lot least top r
  | [], _, _, _ => ⟨[], rfl, List.Pairwise.nil, fun _ h => by simp at h⟩
  | y :: ys, least, a, h => by
    rw [lotGo_cons] at h
    split at h
    · rename_i i
      split at h
      · rename_i hi
        obtain ⟨r, rfl, hr⟩ := lotGo_none h
        exact ⟨i :: r, rfl, Lot.cons.mpr ⟨⟨hi.1, by omega⟩, hr⟩⟩
      · cases h
    · cases h
theorem lotGo_of {top : Int} : ∀ {r : List Int} {least : Int} {a : Nat}, Lot least top r → lotGo top (r.map .int) least a = none
  | [], _, _, _ => rfl
  | i :: r, least, a, h => by
    obtain ⟨h1, h2⟩ := Lot.cons.mp h
    rw [List.map_cons, lotGo_cons]
    simp only
    rw [if_pos ⟨h1.1, by omega⟩]
    exact lotGo_of h2
abbrev lotP (r : List Int) : PV := .tup (r.map .int)
abbrev webP (rs : List (List Int)) : PV := .tup (rs.map lotP)
theorem lotOk_iff {top : Int} {p : PV} : lotOk top p = true ↔ ∃ r, p = lotP r ∧ Lot 0 top r := by
  constructor
  · intro h
    cases p with
    | tup ys =>
      have h : isNone (.v (optP (lotGo top ys 0 0))) = true := h
      cases hg : lotGo top ys 0 0 with
      | none =>
        obtain ⟨r, rfl, hr⟩ := lotGo_none hg
        exact ⟨r, rfl, hr⟩
      | some a =>
        rw [hg] at h
        cases h
    | _ => cases h
  · rintro ⟨r, rfl, hr⟩
    unfold lotOk lotF lotP
    simp only
    rw [lotGo_of hr]
    rfl
def Web (rs : List (List Int)) : Prop := rs.length ≤ 60 ∧ ∀ r ∈ rs, Lot 0 rs.length r
theorem webGo_none {top : Int} : ∀ {xs : List PV} {a : Nat}, webGo top xs a = none ↔ ∃ rs : List (List Int), xs = rs.map lotP ∧ ∀ r ∈ rs, Lot 0 top r
  | [], a => ⟨fun _ => ⟨[], rfl, fun _ h => by simp at h⟩, fun _ => rfl⟩
  | x :: xs, a => by
    unfold webGo
    constructor
    · intro h
      split at h
      · rename_i hx
        obtain ⟨r, rfl, hr⟩ := lotOk_iff.mp hx
        obtain ⟨rs, rfl, hrs⟩ := webGo_none.mp h
        exact ⟨r :: rs, rfl, fun r' hr' => by
          rcases List.mem_cons.mp hr' with rfl | h'
          · exact hr
          · exact hrs _ h'⟩
      · cases h
    · rintro ⟨rs, e, hrs⟩
      cases rs with
      | nil => cases e
      | cons r rs =>
        rw [List.map_cons] at e
        cases e
        rw [if_pos (lotOk_iff.mpr ⟨r, rfl, hrs r List.mem_cons_self⟩)]
        exact webGo_none.mpr ⟨rs, rfl, fun r' h' => hrs _ (List.mem_cons_of_mem _ h')⟩
theorem webE_none {p : PV} : webE p = none ↔ ∃ rs, p = webP rs ∧ Web rs := by
  constructor
  · intro h
    cases p with
    | tup xs =>
      unfold webE at h
      simp only at h
      split at h
      · cases h
      · rename_i hn
        split at h
        · cases h
        rename_i h'
        obtain ⟨rs, rfl, hrs⟩ := webGo_none.mp h'
        rw [List.length_map] at hn hrs
        exact ⟨rs, rfl, by omega, hrs⟩
    | _ => cases h
  · rintro ⟨rs, rfl, h1, h2⟩
    unfold webE webP
    simp only [List.length_map]
    rw [if_neg (by omega), webGo_none.mpr ⟨rs, rfl, h2⟩]
theorem lv1_int (μ : Mu) (i : Int) : Lv1 μ (.int i) := fun _ e => nomatch e
theorem lv1_tup (μ : Mu) (xs : List PV) : Lv1 μ (.tup xs) := fun _ e => nomatch e
theorem lv2_lot (μ : Mu) (r : List Int) : Lv2 μ (lotP r) := ⟨lv1_tup _ _, fun xs e x hx => by
  cases e
  obtain ⟨i, _, rfl⟩ := List.mem_map.mp hx
  exact lv1_int _ _⟩
theorem lv3_web (μ : Mu) (rs : List (List Int)) : Lv3 μ (webP rs) := ⟨lv1_tup _ _, fun xs e x hx => by
  cases e
  obtain ⟨i, _, rfl⟩ := List.mem_map.mp hx
  exact lv2_lot _ _⟩
theorem SameL.lots (μ : Mu) {top : Nat} : ∀ {rs : List (List Int)}, (∀ r ∈ rs, Lot 0 top r) → ∃ m, SameL μ (rs.map lotP) (rs.map lotP) m ∧ m ≤ rs.length * (top + 1)
  | [], _ => ⟨0, .nil, by simp⟩
  | r :: rs, h => by
    obtain ⟨m, h1, h2⟩ := SameL.lots μ (rs := rs) fun r' h' => h _ (List.mem_cons_of_mem _ h')
    have hr := (h r List.mem_cons_self).len
    refine ⟨r.length + 1 + m, .cons (.tup (SameL.ints μ r)) h1, ?_⟩
    rw [List.length_cons, Nat.add_mul]
    omega
theorem SameR.web (μ : Mu) {rs : List (List Int)} (h : Web rs) : ∃ m, SameR μ (webP rs) (webP rs) m ∧ m ≤ 4000 := by
  obtain ⟨m, h1, h2⟩ := SameL.lots μ h.2
  refine ⟨m + 1, .tup h1, ?_⟩
  have h3 : rs.length * (rs.length + 1) ≤ 60 * 61 := Nat.mul_le_mul h.1 (by have := h.1; omega)
  omega
end
end Ev

set_option Elab.async false
set_option linter.all false
set_option maxRecDepth 100000
/-! EvX6: readers of cells. Own work. -/
namespace Ev
open PySem PySem.Spec PyProof.Rows L2
open Classical
noncomputable section
/-- objects were added, none was changed -/
def Ap (μ μ' : Mu) : Prop := μ.length ≤ μ'.length ∧ ∀ a, a < μ.length → μ'[a]? = μ[a]?
theorem Ap.refl (μ : Mu) : Ap μ μ := ⟨Nat.le_refl _, fun _ _ => rfl⟩
theorem Ap.trans {μ μ1 μ2 : Mu} (h : Ap μ μ1) (h' : Ap μ1 μ2) : Ap μ μ2 := ⟨Nat.le_trans h.1 h'.1, fun a ha => by rw [h'.2 a (Nat.lt_of_lt_of_le ha h.1), h.2 a ha]⟩
theorem Ap.app {μ μ1 : Mu} (h : Ap μ μ1) (ν : Mu) : Ap μ (μ1 ++ ν) := ⟨by have := h.1; simp; omega, fun b hb => by rw [List.getElem?_append_left (Nat.lt_of_lt_of_le hb h.1), h.2 b hb]⟩
theorem Ap.setNew {a : Nat} {μ μ1 : Mu} (h : Ap μ μ1) (ha : μ.length ≤ a) (l : MO) : Ap μ (μ1.set a l) := ⟨by simpa using h.1, fun b hb => by rw [List.getElem?_set_ne (by omega), h.2 b hb]⟩
theorem Ap.get {μ μ' : Mu} (h : Ap μ μ') {a : Nat} {o : MO} (e : μ[a]? = some o) : μ'[a]? = some o := by rw [h.2 a (get_lt e), e]
theorem Ap.fr {μ μ' : Mu} (h : Ap μ μ') (j : Nat) : Fr j μ μ' := ⟨h.1, fun a ha _ => h.2 a ha⟩
theorem Ap.jar {μ μ' : Mu} (h : Ap μ μ') {j k : Nat} (J : Jar j k μ) : Jar j k μ' := by
  obtain ⟨d, s, c, e, r⟩ := J
  exact ⟨d, s, c, h.get e, r⟩
theorem Fr.ap {j : Nat} {μ μ' : Mu} (h : Fr j μ μ') (hj : μ.length ≤ j) : Ap μ μ' := ⟨h.1, fun a ha => h.2 a ha (by omega)⟩
theorem Ap.lv1 {μ μ' : Mu} (h : Ap μ μ') {p : PV} (l : Lv1 μ p) : Lv1 μ' p := fun n e => by
  obtain ⟨xs, e'⟩ := l n e
  exact ⟨xs, h.get e'⟩
theorem Ap.lv2 {μ μ' : Mu} (h : Ap μ μ') {p : PV} (l : Lv2 μ p) : Lv2 μ' p := ⟨h.lv1 l.1, fun xs e x hx => h.lv1 (l.2 xs e x hx)⟩
theorem Ap.lv3 {μ μ' : Mu} (h : Ap μ μ') {p : PV} (l : Lv3 μ p) : Lv3 μ' p := ⟨h.lv1 l.1, fun xs e x hx => h.lv2 (l.2 xs e x hx)⟩
/-- a comprehension of empty lists -/
theorem empties_ok {W : Wd} {tg : Tg} {σ : Sg} {μ : Mu} {src : List Nat} {xs : List PV} (hsrc : ∀ n ∈ src, n < μ.length) (ht : ∀ x ∈ xs, ∃ σ', tg.put x (wipeP σ tg.slots) = some σ') (hl : xs.length ≤ 16777216)
    {Q : List PV → Mu → Prop} (q : ∀ μ', Ap μ μ' → μ'.length = μ.length + xs.length → (∀ c, c < xs.length → μ'[μ.length + c]? = some (.lst [])) → Q ((List.range xs.length).map fun c => .ref (μ.length + c)) μ') : OK (compLoop μ src (compBody W tg .nil (.lst .nil) σ) xs [] μ) Q := by
  refine OK.comp (fun i acc μ' => acc = (List.range i).map (fun c => .ref (μ.length + c)) ∧ Ap μ μ' ∧ μ'.length = μ.length + i ∧ ∀ c, c < i → μ'[μ.length + c]? = some (.lst [])) ⟨rfl, Ap.refl _, rfl, fun c h => by omega⟩ (fun i acc μ' h n hn => h.2.1.2 n (hsrc n hn)) hl (fun i acc μ' h => by rw [h.1]; simp) (fun i x acc μ' Q' hx hP q1 _ => ?_) ?_
  · obtain ⟨rfl, ap, hlen, hg⟩ := hP
    obtain ⟨σ', hσ⟩ := ht x (List.mem_of_getElem? hx)
    simp [hσ]
    refine q1 _ _ ⟨?_, ap.app _, by simp [hlen]; omega, fun c hc => ?_⟩
    · rw [List.range_succ, List.map_append, hlen]
      rfl
    · rcases Nat.lt_or_ge c i with h | h
      · rw [List.getElem?_append_left (by omega), hg c h]
      · have : μ.length + c = μ'.length := by omega
        rw [this]
        simp
  · rintro acc μ' ⟨rfl, ap, hlen, hg⟩
    exact q μ' ap hlen hg
/-- who reads c, of the first i cells -/
def rdTo (rs : List (List Int)) (i : Nat) (c : Int) : List Int := ((List.range i).filter fun x => decide (c ∈ rs[x]?.getD [])).map fun (x : Nat) => (x : Int)
theorem rdTo_succ (rs : List (List Int)) {i : Nat} (h : i < rs.length) (c : Int) : rdTo rs (i + 1) c = rdTo rs i c ++ if c ∈ rs[i] then [(i : Int)] else [] := by
  unfold rdTo
  rw [List.range_succ, List.filter_append, List.map_append]
  congr 1
  have e : rs[i]?.getD [] = rs[i] := by simp [h]
  by_cases hc : c ∈ rs[i]
  · rw [List.filter_cons_of_pos (by rw [e]; simpa using hc), if_pos hc]
    rfl
  · rw [List.filter_cons_of_neg (by rw [e]; simpa using hc), if_neg hc]
    rfl
theorem rdTo_len (rs : List (List Int)) (i : Nat) (c : Int) : (rdTo rs i c).length ≤ i := by
  unfold rdTo
  rw [List.length_map]
  exact Nat.le_trans (List.length_filter_le _ _) (by simp)
theorem reader_lists_ok {G : Gm} (h : G.fns.lookup "reader_lists" = some ireader_lists) (n : Nat) {μ : Mu} {rs : List (List Int)} (hw : Web rs)
    {Q : PV → Mu → Prop} (q : ∀ M μ', Ap μ μ' → μ'[M]? = some (.lst ((List.range rs.length).map fun c => .ref (μ.length + c))) → (∀ c : Nat, c < rs.length → μ'[μ.length + c]? = some (.lst ((rdTo rs rs.length c).map .int))) → Q (.ref M) μ') : OK (callN G (n + 1) "reader_lists" [webP rs] μ) Q := by
  have hlen := hw.1
  rw [callN_eq n h rfl]
  simp [ireader_lists]
  refine empties_ok (by simp) (fun x hx => by simp) (by simp; omega) fun μ1 ap1 l1 g1 => ?_
  simp only [List.length_map] at l1 g1
  simp
  have hG : ∀ (μ' : Mu), Ap (μ1 ++ [.lst ((List.range rs.length).map fun c => .ref (μ.length + c))]) μ' → True := fun _ _ => trivial
  refine OK.forN (fun i σ μ' => ∃ b c d e, σ = [some (webP rs), some (.ref μ1.length), b, c, d, e] ∧ i ≤ rs.length ∧ Ap μ μ' ∧ μ'[μ1.length]? = some (.lst ((List.range rs.length).map fun c => .ref (μ.length + c))) ∧ ∀ c : Nat, c < rs.length → μ'[μ.length + c]? = some (.lst ((rdTo rs i c).map .int)))
    ⟨_, _, _, _, rfl, Nat.zero_le _, ap1.app _, by simp, fun c hc => by rw [List.getElem?_append_left (by omega), g1 c hc]; rfl⟩ (fun _ _ _ _ => stay_nil _ _) (fun i x σ μ' Q' hx hP q' => ?_) ?_
  · obtain ⟨b, c, d, e, rfl, _, ap, gM, gc⟩ := hP
    obtain ⟨hi, rfl⟩ := enum_get hx
    have hi' : i < rs.length := by simpa using hi
    have er : (rs.map lotP)[i] = lotP rs[i] := by simp
    have hr := hw.2 _ (List.getElem_mem hi')
    rw [er]
    simp
    refine OK.forN (fun t σ μ' => ∃ e, σ = [some (webP rs), some (.ref μ1.length), b, some (.int i), some (lotP rs[i]), e] ∧ t ≤ rs[i].length ∧ Ap μ μ' ∧ μ'[μ1.length]? = some (.lst ((List.range rs.length).map fun c => .ref (μ.length + c))) ∧ ∀ c : Nat, c < rs.length → μ'[μ.length + c]? = some (.lst ((rdTo rs i c ++ if (c : Int) ∈ rs[i].take t then [(i : Int)] else []).map .int)))
      ⟨_, rfl, Nat.zero_le _, ap, gM, fun c hc => by simpa using gc c hc⟩ (fun _ _ _ _ => stay_nil _ _) (fun t x σ μ' Q' hx hP q' => ?_) ?_
    · obtain ⟨e, rfl, _, ap, gM, gc⟩ := hP
      have ht : t < rs[i].length := by
        rcases Nat.lt_or_ge t rs[i].length with h | h
        · exact h
        · rw [List.getElem?_eq_none (by simpa using h)] at hx; cases hx
      have hx' : x = .int (rs[i][t]) := by
        rw [List.getElem?_eq_getElem (by simpa using ht)] at hx
        simpa using hx.symm
      subst hx'
      obtain ⟨hz0, hz1⟩ := hr.2 _ (List.getElem_mem ht)
      obtain ⟨z, hz⟩ := Int.eq_ofNat_of_zero_le hz0
      have hzl : z < rs.length := by omega
      have hnot : (z : Int) ∉ rs[i].take t := fun hm => by
        obtain ⟨s, hs, es⟩ := List.mem_take_iff_getElem.mp hm
        have hs' : s < t := by omega
        have := List.pairwise_iff_getElem.mp hr.1 s t (by omega) ht hs'
        omega
      have hix : atI ((List.range rs.length).map fun c => PV.ref (μ.length + c)) (z : Int) = some (.ref (μ.length + z)) := by
        rw [atI_nat (by simpa using hzl)]
        simp
      have gz := gc z hzl
      rw [if_neg hnot, List.append_nil] at gz
      have hll := rdTo_len rs i z
      have hlt : (rdTo rs i z).length < 16777216 := by omega
      rw [hz]
      simp [gM, hix, gz, hlt]
      refine q' _ _ ⟨_, rfl, ht, ap.setNew (by omega) _, by rw [List.getElem?_set_ne (by omega), gM], fun c hc => ?_⟩
      have htk : rs[i].take (t + 1) = rs[i].take t ++ [(z : Int)] := by
        rw [← List.take_append_getElem ht, hz]
      by_cases hcz : c = z
      · subst hcz
        rw [List.getElem?_set_self (get_lt gz), if_pos (by rw [htk]; simp)]
        simp
      · rw [List.getElem?_set_ne (by omega), gc c hc]
        have : ((c : Int) ∈ rs[i].take (t + 1)) ↔ ((c : Int) ∈ rs[i].take t) := by
          rw [htk, List.mem_append, List.mem_singleton]
          constructor
          · rintro (h | h)
            · exact h
            · omega
          · exact .inl
        simp only [this]
    · rintro σ μ' ⟨e, rfl, _, ap, gM, gc⟩
      simp
      refine q' _ _ ⟨_, _, _, _, rfl, hi', ap, gM, fun c hc => ?_⟩
      rw [gc c hc, rdTo_succ rs hi', List.length_map, List.take_length]
  · rintro σ μ' ⟨b, c, d, e, rfl, _, ap, gM, gc⟩
    rw [enum_len, List.length_map] at gc
    simp
    exact q _ _ ap gM gc
end
end Ev

set_option Elab.async false
set_option linter.all false
set_option maxRecDepth 100000
/-! EvX7: k01: what its defs answer. Own work. -/
namespace Ev
open PySem PySem.Spec PyProof.Rows L2
open Classical
noncomputable section
theorem toDs_ints (μ : Mu) : ∀ r : List Int, toD.toDs (r.map .int) = some (r.map PyData.int)
  | [] => by simp
  | i :: r => by simp [toDs_ints μ r]
def inAux (r : List Int) (c : Int) : Bool := (r.map PyData.int).any fun z => PyData.eqv z (.int c)
theorem inAux_eq (r : List Int) (c : Int) : inAux r c = decide (c ∈ r) := by
  unfold inAux
  induction r with
  | nil => simp
  | cons i r ih =>
    have e : PyData.eqv (.int i) (.int c) = (i == c) := by simp [PyData.eqv]
    rw [List.map_cons, List.any_cons, e, ih]
    by_cases h1 : i = c
    · subst h1; simp
    · have h2 : ¬ c = i := fun z => h1 z.symm
      simp [h1, h2]
theorem inA_ints {μ : Mu} {a : Ag} {r : List Int} (h : sview μ a = some (r.map .int)) (c : Int) : inA μ (.v (.int c)) a = some (decide (c ∈ r)) := by
  have hf : (r.map PV.int).all flatP = true := by simp [flatP]
  have hf' : flatP (.int c) = true ∧ (r.map PV.int).all flatP = true := ⟨rfl, hf⟩
  unfold inA
  simp only [h]
  rw [if_pos hf', toDs_ints μ r, toD_int]
  simp only
  exact congrArg some (inAux_eq r c)
def cmpTo (P : Nat → Bool) (i : Nat) : List Int := ((List.range i).filter P).map fun (x : Nat) => (x : Int)
theorem cmpTo_succ (P : Nat → Bool) (i : Nat) : cmpTo P (i + 1) = cmpTo P i ++ if P i = true then [(i : Int)] else [] := by
  unfold cmpTo
  rw [List.range_succ, List.filter_append, List.map_append]
  congr 1
  cases h : P i
  · rw [List.filter_cons_of_neg (by simp [h])]
    rfl
  · rw [List.filter_cons_of_pos h]
    rfl
theorem cmpTo_len (P : Nat → Bool) (i : Nat) : (cmpTo P i).length ≤ i := by
  unfold cmpTo
  rw [List.length_map]
  exact Nat.le_trans (List.length_filter_le _ _) (by simp)
theorem rdTo_cmp (rs : List (List Int)) (i : Nat) (c : Int) : rdTo rs i c = cmpTo (fun x => decide (c ∈ rs[x]?.getD [])) i := rfl
abbrev sfTo (rs : List (List Int)) (i : Nat) : List Int := cmpTo (fun x => decide ((x : Int) ∈ rs[x]?.getD [])) i
theorem sfTo_succ (rs : List (List Int)) {i : Nat} (h : i < rs.length) : sfTo rs (i + 1) = sfTo rs i ++ if (i : Int) ∈ rs[i] then [(i : Int)] else [] := by
  have e : rs[i]?.getD [] = rs[i] := by simp [h]
  show cmpTo _ (i + 1) = _
  rw [cmpTo_succ]
  by_cases hc : (i : Int) ∈ rs[i]
  · rw [if_pos hc, if_pos (by rw [e]; simpa using hc)]
  · rw [if_neg hc, if_neg (by rw [e]; simpa using hc)]
/-- the defs that draw webs and judge -/
structure KW (G : Gm) : Prop extends WebG G, FormG G where
  take : G.fns.lookup "_law_take" = some i_law_take
  one : G.fns.lookup "_law_one" = some i_law_one
  mixed : G.fns.lookup "_law_mixed" = some i_law_mixed
  some_ : G.fns.lookup "_law_some" = some i_law_some
  pool : G.fns.lookup "_law_pool" = some i_law_pool
  same : G.fns.lookup "_law_yq_same" = some i_law_yq_same
  qwhole : G.fns.lookup "_law_yq_is_whole" = some i_law_yq_is_whole
  yw_readers : G.fns.lookup "_law_yw_readers" = some i_law_yw_readers
  yw_web : G.fns.lookup "_law_yw_web" = some i_law_yw_web
  odd_web : G.fns.lookup "_law_yw_odd_web" = some i_law_yw_odd_web
  arguments : G.fns.lookup "_law_yw_arguments" = some i_law_yw_arguments
/-- k01's own defs -/
structure K1 (G : Gm) : Prop extends KW G where
  asked_cell : G.fns.lookup "asked_cell" = some iasked_cell
  reader_lists : G.fns.lookup "reader_lists" = some ireader_lists
  made_web : G.fns.lookup "made_web" = some imade_web
  is_web : G.fns.lookup "is_web" = some iis_web
  readers : G.fns.lookup "readers" = some ireaders
  selves : G.fns.lookup "selves" = some iselves
  odd_cell : G.fns.lookup "_law_yw_odd_cell" = some i_law_yw_odd_cell
  form_right : G.fns.lookup "_law_n1_form_right" = some i_law_n1_form_right
  asked : G.fns.lookup "_law_n1_asked" = some i_law_n1_asked
  right : G.fns.lookup "_law_n1_right" = some i_law_n1_right
  refused_right : G.fns.lookup "_law_n1_refused_right" = some i_law_n1_refused_right
  hrd : G.hrd.lookup "_law_n1_heard" = some (.named ["TooMany", "BadWeb", "BadCell"] ["BadWeb", "BadCell", "TooMany"])
  cBC : "BadCell" ∈ G.cls
  fuel : 20000 < G.fuel
section
variable {G : Gm} (g : KW G) (n : Nat)
include g
theorem yw_readers_eq {μ : Mu} {rs : List (List Int)} (hw : Web rs) (c : Int) : callN G (n + 1) "_law_yw_readers" [webP rs, .int c] μ = .ok (lotP (rdTo rs rs.length c)) μ := by
  have hlen := hw.1
  rw [callN_eq n g.yw_readers rfl]
  refine OK.toEq ?_
  have hsm : Sm (rs.length : Int) := Sm.nat (by omega)
  simp [i_law_yw_readers, hsm]
  refine OK.comp (fun i acc μ' => μ' = μ ∧ acc = (rdTo rs i c).map .int) ⟨rfl, rfl⟩ (fun _ _ _ _ => stay_nil _ _) (by simp; omega) (fun i acc μ' h => by rw [h.2, List.length_map]; exact rdTo_len _ _ _) (fun i x acc μ' Q' hx hP q1 q2 => ?_) ?_
  · obtain ⟨rfl, rfl⟩ := hP
    obtain ⟨hi, rfl⟩ := rng_get _ hx
    have hix : atI (rs.map lotP) (i : Int) = some (lotP rs[i]) := by
      rw [atI_nat (by simpa using hi)]
      simp
    have hin := inA_ints (μ := μ') (a := .v (lotP rs[i])) (r := rs[i]) rfl c
    by_cases hc : c ∈ rs[i]
    · simp [hix, hin, hc]
      exact q1 _ _ ⟨rfl, by rw [rdTo_succ rs hi, if_pos hc]; simp⟩
    · simp [hix, hin, hc]
      exact q2 _ ⟨rfl, by rw [rdTo_succ rs hi, if_neg hc]; simp⟩
  · rintro acc μ' ⟨rfl, rfl⟩
    simp
end
section
variable {G : Gm} (g : K1 G) (n : Nat)
include g
theorem asked_cell_eq {μ : Mu} {p : PV} (hp : Lv1 μ p) (C : Int) : callN G (n + 2) "asked_cell" [.int C, p] μ = if wholeB p 0 (C - 1) = true then .ok .non μ else .exc "BadCell" p μ := by
  rw [callN_eq (n + 1) g.asked_cell rfl]
  have e := whole_eq g.whole n hp 0 (C - 1)
  cases h : wholeB p 0 (C - 1) <;> simp [iasked_cell, e, h, g.cBC]
theorem made_web_eq {μ : Mu} {p : PV} (hp : Lv3 μ p) : callN G (n + 6) "made_web" [p] μ = excO (webE p) p μ := by
  rw [callN_eq (n + 5) g.made_web rfl]
  have e := asked_web_eq g.toWebG n hp
  cases h : webE p <;> simp [imade_web, e, h, excO]
theorem is_web_eq {μ : Mu} {p : PV} (hp : Lv3 μ p) : callN G (n + 5) "is_web" [p] μ = .ok (.bl (webE p).isNone) μ := by
  rw [callN_eq (n + 4) g.is_web rfl]
  have e := wrong_web_eq g.toWebG n hp
  unfold webF at e
  cases h : webE p with
  | none => simp [iis_web, e, h, excP]
  | some cw => simp [iis_web, e, h, excP]
theorem selves_ok {μ : Mu} {rs : List (List Int)} (hw : Web rs) : callN G (n + 6) "selves" [webP rs] μ = .ok (lotP (sfTo rs rs.length)) μ := by
  have hlen := hw.1
  rw [callN_eq (n + 5) g.selves rfl]
  have e := asked_web_eq g.toWebG n (lv3_web μ rs)
  rw [webE_none.mpr ⟨rs, rfl, hw⟩] at e
  refine OK.toEq ?_
  simp [iselves, e, excO]
  refine OK.comp (fun i acc μ' => μ' = μ ∧ acc = (sfTo rs i).map .int) ⟨rfl, rfl⟩ (fun _ _ _ _ => stay_nil _ _) (by rw [enum_len]; simp; omega) (fun i acc μ' h => by rw [h.2, List.length_map]; exact cmpTo_len _ _) (fun i x acc μ' Q' hx hP q1 q2 => ?_) ?_
  · obtain ⟨rfl, rfl⟩ := hP
    obtain ⟨hi, rfl⟩ := enum_get hx
    have hi' : i < rs.length := by simpa using hi
    have er : (rs.map lotP)[i] = lotP rs[i] := by simp
    rw [er]
    have hin := inA_ints (μ := μ') (a := .v (lotP rs[i])) (r := rs[i]) rfl (i : Int)
    have hg : rs[i]?.getD [] = rs[i] := by simp [hi']
    by_cases hc : (i : Int) ∈ rs[i]
    · simp [hin, hc]
      exact q1 _ _ ⟨rfl, by rw [sfTo_succ rs hi', if_pos hc]; simp⟩
    · simp [hin, hc]
      exact q2 _ ⟨rfl, by rw [sfTo_succ rs hi', if_neg hc]; simp⟩
  · rintro acc μ' ⟨rfl, rfl⟩
    rw [enum_len, List.length_map]
    simp
theorem selves_exc {μ : Mu} {p : PV} (hp : Lv3 μ p) {c : String} {w : Int} (h : webE p = some (c, w)) : callN G (n + 6) "selves" [p] μ = .exc c (.int w) μ := by
  rw [callN_eq (n + 5) g.selves rfl]
  have e := asked_web_eq g.toWebG n hp
  simp [iselves, e, h, excO]
theorem readers_exc {μ : Mu} {p c : PV} (hp : Lv3 μ p) {cl : String} {w : Int} (h : webE p = some (cl, w)) : callN G (n + 6) "readers" [p, c] μ = .exc cl (.int w) μ := by
  rw [callN_eq (n + 5) g.readers rfl]
  have e := asked_web_eq g.toWebG n hp
  simp [ireaders, e, h, excO]
theorem readers_exc2 {μ : Mu} {rs : List (List Int)} {c : PV} (hw : Web rs) (hc : Lv1 μ c) (h : wholeB c 0 (rs.length - 1) = false) : callN G (n + 6) "readers" [webP rs, c] μ = .exc "BadCell" c μ := by
  rw [callN_eq (n + 5) g.readers rfl]
  have e := asked_web_eq g.toWebG n (lv3_web μ rs)
  rw [webE_none.mpr ⟨rs, rfl, hw⟩] at e
  have e2 := asked_cell_eq g (n + 3) hc rs.length
  rw [h] at e2
  simp [ireaders, e, excO, e2]
theorem readers_ok {μ : Mu} {rs : List (List Int)} (hw : Web rs) {c : Nat} (h : c < rs.length) {Q : PV → Mu → Prop} (q : ∀ μ', Ap μ μ' → Q (lotP (rdTo rs rs.length c)) μ') : OK (callN G (n + 6) "readers" [webP rs, .int c] μ) Q := by
  rw [callN_eq (n + 5) g.readers rfl]
  have e := asked_web_eq g.toWebG n (lv3_web μ rs)
  rw [webE_none.mpr ⟨rs, rfl, hw⟩] at e
  have e2 := asked_cell_eq g (n + 3) (lv1_int μ c) rs.length
  rw [if_pos (by simp [wholeB]; omega)] at e2
  simp [ireaders, e, excO, e2]
  refine reader_lists_ok g.reader_lists (n + 4) hw fun M μ' ap gM gc => ?_
  have hix : atI ((List.range rs.length).map fun c => PV.ref (μ.length + c)) (c : Int) = some (.ref (μ.length + c)) := by
    rw [atI_nat (by simpa using h)]
    simp
  simp [gM, hix, gc c h]
  exact q μ' ap
theorem asked_ok {μ : Mu} {rs : List (List Int)} (hw : Web rs) {Q : PV → Mu → Prop} (q : ∀ M N μ', Ap μ μ' → μ'[M]? = some (.lst [lotP (sfTo rs rs.length), .ref N]) → μ'[N]? = some (.lst ((List.range rs.length).map fun (c : Nat) => lotP (rdTo rs rs.length c))) → Q (.ref M) μ') : OK (callN G (n + 7) "_law_n1_asked" [webP rs] μ) Q := by
  have hlen := hw.1
  rw [callN_eq (n + 6) g.asked rfl]
  have hsm : Sm (rs.length : Int) := Sm.nat (by omega)
  simp [i_law_n1_asked, selves_ok g n hw, hsm]
  refine OK.comp (fun i acc μ' => Ap μ μ' ∧ acc = (List.range i).map fun (c : Nat) => lotP (rdTo rs rs.length c)) ⟨Ap.refl _, rfl⟩ (fun _ _ _ _ => stay_nil _ _) (by simp; omega) (fun i acc μ' h => by rw [h.2]; simp) (fun i x acc μ' Q' hx hP q1 q2 => ?_) ?_
  · obtain ⟨ap, rfl⟩ := hP
    obtain ⟨hi, rfl⟩ := rng_get _ hx
    simp
    refine readers_ok g n hw hi fun μ2 ap2 => ?_
    simp
    exact q1 _ _ ⟨ap.trans ap2, by rw [List.range_succ]; simp⟩
  · rintro acc μ' ⟨ap, rfl⟩
    simp
    exact q _ μ'.length _ (ap.app _) (by simp) (by simp)
end
end
end Ev

set_option Elab.async false
set_option linter.all false
set_option maxRecDepth 100000
/-! EvX8: k01: right webs and things of any form. Own work. -/
namespace Ev
open PySem PySem.Spec PyProof.Rows L2
open Classical
noncomputable section
theorem OK.heard {h : Hrd} {o : Out PV} {Q : Ag → Mu → Prop} (q : OK o fun p μ => Q (.v (.tup [.str "told", p])) μ) : OK (told h o) Q := by
  obtain ⟨p, μ, rfl, q⟩ := q
  simpa using q
theorem SameL.lotsLen (μ : Mu) {top : Nat} : ∀ {rs : List (List Int)}, (∀ r ∈ rs, r.length ≤ top) → ∃ m, SameL μ (rs.map lotP) (rs.map lotP) m ∧ m ≤ rs.length * (top + 1)
  | [], _ => ⟨0, .nil, by simp⟩
  | r :: rs, h => by
    obtain ⟨m, h1, h2⟩ := SameL.lotsLen μ (rs := rs) fun r' h' => h _ (List.mem_cons_of_mem _ h')
    have hr := h r List.mem_cons_self
    refine ⟨r.length + 1 + m, .cons (.tup (SameL.ints μ r)) h1, ?_⟩
    rw [List.length_cons, Nat.add_mul]
    omega
theorem ok_told : PyData.strOk ("told" : Str) = true := by decide +kernel
theorem SameR.told {μ : Mu} {p q : PV} {m : Nat} (h : SameR μ p q m) : SameR μ (.tup [.str "told", p]) (.tup [.str "told", q]) (1 + (m + 0) + 1) := .tup (.cons (.str _ ok_told) (.cons h .nil))
/-- a thing whose form can be looked at -/
def Fm (μ : Mu) (p : PV) : Prop := Lv3 μ p ∧ ∀ xs, p = .tup xs → ∀ ys, PV.tup ys ∈ xs → ys.length < 2 ^ 60
theorem Fm.ap {μ μ' : Mu} (h : Ap μ μ') {p : PV} (f : Fm μ p) : Fm μ' p := ⟨h.lv3 f.1, f.2⟩
theorem fm_web (μ : Mu) {rs : List (List Int)} (hw : Web rs) : Fm μ (webP rs) := ⟨lv3_web μ rs, fun xs e ys hy => by
  cases e
  obtain ⟨r, hr, e⟩ := List.mem_map.mp hy
  cases e
  have h1 := (hw.2 r hr).len
  have h2 := hw.1
  rw [List.length_map]
  omega⟩
section
variable {G : Gm} (g : K1 G) (n : Nat)
include g
theorem n1_right_ok {μ : Mu} {rs : List (List Int)} (hw : Web rs) {Q : PV → Mu → Prop} (q : ∀ μ', Ap μ μ' → Q (.bl true) μ') : OK (callN G (n + 8) "_law_n1_right" [webP rs] μ) Q := by
  have hlen := hw.1
  have hfuel := g.fuel
  rw [callN_eq (n + 7) g.right rfl]
  have hsm : Sm (rs.length : Int) := Sm.nat (by omega)
  simp [i_law_n1_right, hsm]
  refine OK.comp (fun i acc μ' => μ' = μ ∧ acc = (sfTo rs i).map .int) ⟨rfl, rfl⟩ (fun _ _ _ _ => stay_nil _ _) (by simp; omega) (fun i acc μ' h => by rw [h.2, List.length_map]; exact cmpTo_len _ _) (fun i x acc μ' Q' hx hP q1 q2 => ?_) ?_
  · obtain ⟨rfl, rfl⟩ := hP
    obtain ⟨hi, rfl⟩ := rng_get _ hx
    have hix : atI (rs.map lotP) (i : Int) = some (lotP rs[i]) := by
      rw [atI_nat (by simpa using hi)]
      simp
    have hin := inA_ints (μ := μ') (a := .v (lotP rs[i])) (r := rs[i]) rfl (i : Int)
    by_cases hc : (i : Int) ∈ rs[i]
    · simp [hix, hin, hc]
      exact q1 _ _ ⟨rfl, by rw [sfTo_succ rs hi, if_pos hc]; simp⟩
    · simp [hix, hin, hc]
      exact q2 _ ⟨rfl, by rw [sfTo_succ rs hi, if_neg hc]; simp⟩
  rintro acc μ' ⟨rfl, rfl⟩
  simp [hsm]
  refine OK.comp (fun i acc μ2 => μ2 = μ' ∧ acc = (List.range i).map fun (c : Nat) => lotP (rdTo rs rs.length c)) ⟨rfl, rfl⟩ (fun _ _ _ _ => stay_nil _ _) (by simp; omega) (fun i acc μ' h => by rw [h.2]; simp) (fun i x acc μ2 Q' hx hP q1 q2 => ?_) ?_
  · obtain ⟨rfl, rfl⟩ := hP
    obtain ⟨hi, rfl⟩ := rng_get _ hx
    simp [yw_readers_eq g.toKW (n + 6) hw]
    exact q1 _ _ ⟨rfl, by rw [List.range_succ]; simp⟩
  rintro acc μ2 ⟨rfl, rfl⟩
  simp [g.hrd]
  refine OK.heard ?_
  simp
  refine asked_ok g n hw fun M N μ3 ap3 gM gN => ?_
  simp
  obtain ⟨m, L, hm⟩ := SameL.lotsLen μ3 (rs := (List.range rs.length).map fun (c : Nat) => rdTo rs rs.length c) (top := 60) (fun r hr => by
    obtain ⟨c, _, rfl⟩ := List.mem_map.mp hr
    exact Nat.le_trans (rdTo_len _ _ _) hlen)
  have hsf : (sfTo rs rs.length).length ≤ rs.length := cmpTo_len _ _
  have eL : ((List.range rs.length).map fun (c : Nat) => rdTo rs rs.length c).map lotP = (List.range rs.length).map fun (c : Nat) => lotP (rdTo rs rs.length c) := by simp
  rw [eL] at L
  have hm' : m ≤ 60 * 61 := Nat.le_trans hm (by simp; omega)
  have g1 : μ3[μ2.length + 1]? = some (.lst [lotP (sfTo rs rs.length), .ref μ2.length]) := ap3.get (by simp)
  have g2 : μ3[μ2.length]? = some (.lst ((List.range rs.length).map fun (c : Nat) => lotP (rdTo rs rs.length c))) := ap3.get (by simp)
  refine same_ok g.same g.qwhole (n + 5) (SameR.told (SameR.ref gM g1 (.cons (.tup (SameL.ints μ3 (sfTo rs rs.length))) (.cons (.ref gN g2 L) .nil)))) (by omega) (by omega) ?_
  simp
  exact q _ ((((Ap.refl μ2).app _).trans ap3).app _)
theorem form_right_ok {μ : Mu} {p : PV} (hp : Fm μ p) {Q : PV → Mu → Prop} (q : ∀ μ', Ap μ μ' → Q (.bl true) μ') : OK (callN G (n + 7) "_law_n1_form_right" [p] μ) Q := by
  have hfuel := g.fuel
  rw [callN_eq (n + 6) g.form_right rfl]
  have e1 := yw_web_eq g.toFormG (n + 2) hp.1 hp.2
  have e2 := made_web_eq g n hp.1
  have ap1 : Ap μ (μ ++ [.lst [.tup [.str "told", p]]]) := (Ap.refl μ).app _
  unfold webF at e1
  cases h : webE p with
  | none =>
    rw [h] at e1 e2
    obtain ⟨rs, rfl, hw⟩ := webE_none.mp h
    have e3 := is_web_eq g (n + 1) (ap1.lv3 hp.1)
    rw [h] at e3
    simp [i_law_n1_form_right, e1, e2, excP, excO, g.hrd, e3]
    obtain ⟨m, S, hm⟩ := SameR.web (μ ++ [MO.lst [.tup [.str "told", webP rs], .tup [.str "told", .bl true]], MO.lst [.tup [.str "told", webP rs], .tup [.str "told", .bl true]]]) hw
    refine same_ok g.same g.qwhole (n + 4) (SameR.ref (by simp) (by simp) (.cons (SameR.told S) (.cons (SameR.told (.bl true)) .nil))) (by omega) (by omega) ?_
    simp
    exact q _ ((Ap.refl μ).app _)
  | some cw =>
    obtain ⟨c, w⟩ := cw
    rw [h] at e1 e2
    have hc : (if c ∈ ["BadWeb", "BadCell", "TooMany"] then Str.ofString c else Str.empty) = Str.ofString c ∧ c ∈ ["TooMany", "BadWeb", "BadCell"] ∧ PyData.strOk (Str.ofString c) = true := by
      rcases webE_cls h with rfl | rfl
      · exact ⟨by simp, by simp, ok_tm⟩
      · exact ⟨by simp, by simp, ok_bw⟩
    obtain ⟨hc1, hc2, hc3⟩ := hc
    have ap2 : Ap μ (μ ++ [.lst [.tup [.str (Str.ofString c), .int w]]]) := (Ap.refl μ).app _
    have e3 := is_web_eq g (n + 1) (ap2.lv3 hp.1)
    rw [h] at e3
    have et : told (.named ["TooMany", "BadWeb", "BadCell"] ["BadWeb", "BadCell", "TooMany"]) (.exc c (.int w) μ) = .ok (.v (.tup [.str (Str.ofString c), .int w])) μ := by
      rw [told_named, if_pos hc2, hc1]
    simp [i_law_n1_form_right, e1, e2, excP, excO, g.hrd, et, e3, -told_named]
    refine same_ok g.same g.qwhole (n + 4) (SameR.ref (by simp) (by simp) (.cons (.tup (.cons (.str _ hc3) (.cons (.int w) .nil))) (.cons (SameR.told (.bl false)) .nil))) (by omega) (by omega) ?_
    simp
    exact q _ ((Ap.refl μ).app _)
end
end
end Ev

set_option Elab.async false
set_option linter.all false
set_option maxRecDepth 100000
/-! EvX9: k01: things that are no webs. Own work. -/
namespace Ev
open PySem PySem.Spec PyProof.Rows L2
open Classical
noncomputable section
theorem cut_to {xs : List PV} {k : Nat} (h : k ≤ xs.length) : cutP xs none (some (k : Int)) = xs.take k := by
  unfold cutP
  rw [HT.sIx_none, HT.sIx_nat]
  simp [Nat.min_eq_left h]
theorem cut_from {xs : List PV} {k : Nat} (h : k ≤ xs.length) : cutP xs (some (k : Int)) none = xs.drop k := by
  unfold cutP
  rw [HT.sIx_none, HT.sIx_nat, Nat.min_eq_left h]
  rw [List.take_of_length_le]
  simp
theorem cut_from1 {xs : List PV} {k : Nat} (h : k + 1 ≤ xs.length) : cutP xs (some ((k : Int) + 1)) none = xs.drop (k + 1) := cut_from (k := k + 1) h
theorem cut_sub {xs : List PV} {lo hi : Option Int} {x : PV} (h : x ∈ cutP xs lo hi) : x ∈ xs := List.mem_of_mem_drop (List.mem_of_mem_take h)
theorem cut_len {xs : List PV} {lo hi : Option Int} : (cutP xs lo hi).length ≤ xs.length := by
  unfold cutP
  simp
  omega
theorem Fr.lv1 {j k : Nat} {μ μ' : Mu} (f : Fr j μ μ') (J : Jar j k μ') {p : PV} (h : Lv1 μ p) : Lv1 μ' p := fun n e => by
  obtain ⟨xs, e'⟩ := h n e
  by_cases hn : n = j
  · subst hn
    obtain ⟨d, s, c, e2, _⟩ := J
    exact ⟨_, e2⟩
  · exact ⟨xs, by rw [f.2 n (get_lt e') hn, e']⟩
theorem Fr.lv2 {j k : Nat} {μ μ' : Mu} (f : Fr j μ μ') (J : Jar j k μ') {p : PV} (l : Lv2 μ p) : Lv2 μ' p := ⟨f.lv1 J l.1, fun xs e x hx => f.lv1 J (l.2 xs e x hx)⟩
/-- an entry that can be looked at -/
def E2 (μ : Mu) (x : PV) : Prop := Lv2 μ x ∧ ∀ ys, x = .tup ys → ys.length < 2 ^ 60
theorem Fr.e2 {j k : Nat} {μ μ' : Mu} (f : Fr j μ μ') (J : Jar j k μ') {p : PV} (h : E2 μ p) : E2 μ' p := ⟨f.lv2 J h.1, h.2⟩
theorem Ap.e2 {μ μ' : Mu} (f : Ap μ μ') {p : PV} (h : E2 μ p) : E2 μ' p := ⟨f.lv2 h.1, h.2⟩
theorem fm_of {μ : Mu} {xs : List PV} (h : ∀ x ∈ xs, E2 μ x) : Fm μ (.tup xs) := ⟨⟨lv1_tup _ _, fun ys e x hx => by cases e; exact (h x hx).1⟩, fun ys e zs hz => by cases e; exact (h _ hz).2 _ rfl⟩
theorem Fm.e2 {μ : Mu} {xs : List PV} (h : Fm μ (.tup xs)) : ∀ x ∈ xs, E2 μ x := fun x hx => ⟨h.1.2 _ rfl x hx, fun ys e => h.2 _ rfl ys (e ▸ hx)⟩
theorem Fr.fm {j k : Nat} {μ μ' : Mu} (f : Fr j μ μ') (J : Jar j k μ') {p : PV} (h : Fm μ p) : Fm μ' p := ⟨⟨f.lv1 J h.1.1, fun xs e x hx => f.lv2 J (h.1.2 xs e x hx)⟩, h.2⟩
/-- no tuple, nothing that the world changes -/
def flat1 : PV → Bool
  | .non | .bl _ | .int _ | .str _ => true
  | _ => false
theorem lv1_flat (μ : Mu) {p : PV} (h : flat1 p = true) : Lv1 μ p := fun n e => by
  subst e
  cases h
theorem e2_flat (μ : Mu) {p : PV} (h : flat1 p = true) : E2 μ p := ⟨⟨lv1_flat μ h, fun xs e => by subst e; cases h⟩, fun xs e => by subst e; cases h⟩
theorem e2_tup (μ : Mu) {xs : List PV} (h : xs.all flat1 = true) (hl : xs.length < 2 ^ 60) : E2 μ (.tup xs) := ⟨⟨lv1_tup _ _, fun ys e x hx => by
  cases e
  exact lv1_flat μ (List.all_eq_true.mp h x hx)⟩, fun ys e => by cases e; exact hl⟩
theorem e2_ref (μ : Mu) {n : Nat} {xs : List PV} (h : μ[n]? = some (.lst xs)) : E2 μ (.ref n) := ⟨⟨fun m e => by cases e; exact ⟨xs, h⟩, fun xs e => nomatch e⟩, fun xs e => nomatch e⟩
theorem e2_lot (μ : Mu) {rs : List (List Int)} (hw : Web rs) {r : List Int} (h : r ∈ rs) : E2 μ (lotP r) := (fm_web μ hw).e2 _ (List.mem_map.mpr ⟨r, h, rfl⟩)
theorem fm_flat (μ : Mu) {p : PV} (h : flat1 p = true) : Fm μ p := ⟨⟨lv1_flat μ h, fun xs e => by subst e; cases h⟩, fun xs e => by subst e; cases h⟩
theorem fm_ref (μ : Mu) {n : Nat} {xs : List PV} (h : μ[n]? = some (.lst xs)) : Fm μ (.ref n) := ⟨⟨fun m e => by cases e; exact ⟨xs, h⟩, fun xs e => nomatch e⟩, fun xs e => nomatch e⟩
theorem webE_bad {xs : List PV} {x : PV} (hx : x ∈ xs) (h : lotOk xs.length x = false) : webE (.tup xs) ≠ none := fun z => by
  obtain ⟨rs, e, hw⟩ := webE_none.mp z
  cases e
  obtain ⟨r, hr, rfl⟩ := List.mem_map.mp hx
  rw [List.length_map, lotOk_iff.mpr ⟨r, rfl, hw.2 r hr⟩] at h
  cases h
theorem webE_long {xs : List PV} (h : 60 < xs.length) : webE (.tup xs) ≠ none := fun z => by
  obtain ⟨rs, e, hw⟩ := webE_none.mp z
  cases e
  have := hw.1
  rw [List.length_map] at h
  omega
theorem lotOk_one {top i : Int} (h : ¬ (0 ≤ i ∧ i ≤ top - 1)) : lotOk top (.tup [.int i]) = false := by
  unfold lotOk lotF
  simp only [lotGo_cons, if_neg h, optP]
  rfl
theorem lotOk_00 (top : Int) : lotOk top (.tup [.int 0, .int 0]) = false := by
  unfold lotOk lotF
  simp only [lotGo_cons]
  split
  · rw [if_neg (by omega)]
    rfl
  · rfl
def Odd (μ : Mu) (x : PV) : Prop := Fm μ x ∧ webE x ≠ none
theorem Fr.odd {j k : Nat} {μ μ' : Mu} (f : Fr j μ μ') (J : Jar j k μ') {p : PV} (h : Odd μ p) : Odd μ' p := ⟨f.fm J h.1, h.2⟩
theorem Ap.odd {μ μ' : Mu} (f : Ap μ μ') {p : PV} (h : Odd μ p) : Odd μ' p := ⟨h.1.ap f, h.2⟩
theorem odd_put {μ : Mu} {rs : List (List Int)} (hw : Web rs) {t : Nat} (ht : t < rs.length) {b : PV} (hb : E2 μ b) (hf : lotOk rs.length b = false) {ys : List PV} (hy : ∀ y ∈ ys, E2 μ y) (hl : t + 1 + ys.length = rs.length) : Odd μ (.tup ((rs.map lotP).take t ++ [b] ++ ys)) := by
  refine ⟨fm_of fun x hx => ?_, ?_⟩
  · simp only [List.mem_append, List.mem_singleton] at hx
    rcases hx with (hx | rfl) | hx
    · exact (fm_web μ hw).e2 _ (List.mem_of_mem_take hx)
    · exact hb
    · exact hy _ hx
  · have hlen : ((rs.map lotP).take t ++ [b] ++ ys).length = rs.length := by
      simp
      omega
    exact webE_bad (x := b) (by simp) (by rw [hlen]; exact hf)
theorem rep_flat (k : Nat) (x : PV) : (List.replicate k [x]).flatten = List.replicate k x := by
  induction k with
  | zero => rfl
  | succ k ih => rw [List.replicate_succ, List.flatten_cons, ih, List.replicate_succ]; rfl
theorem odd_app {μ : Mu} {rs : List (List Int)} (hw : Web rs) {b : PV} (hb : E2 μ b) (hf : lotOk ((rs.length : Int) + 1) b = false) : Odd μ (.tup (rs.map lotP ++ [b])) := by
  refine ⟨fm_of fun x hx => ?_, webE_bad (x := b) (by simp) (by simpa using hf)⟩
  simp only [List.mem_append, List.mem_singleton] at hx
  rcases hx with hx | rfl
  · exact (fm_web μ hw).e2 _ hx
  · exact hb
/-- what may stand at a drawn cell -/
def badL (C : Nat) (r : List Int) (a : Nat) : List PV := [.non, .ref a, .tup [.int C], .tup [.int (-1)], .tup [.int 0, .int 0], .tup [.bl true], .tup [.non], .tup (r.map .int ++ [.int C]), .str "0", .int 0]
end
end Ev

set_option Elab.async false
set_option linter.all false
set_option maxRecDepth 100000
/-! EvX10: k01: odd webs, drawn. Own work. -/
namespace Ev
open PySem PySem.Spec PyProof.Rows L2
open Classical
noncomputable section
theorem bin_add_l {μ : Mu} {n : Nat} {xs ys : List PV} (h : μ[n]? = some (.lst xs)) (hl : xs.length + ys.length ≤ 16777216) : addA μ (.v (.ref n)) (.l ys) = some (.l (xs ++ ys)) := by
  rw [add_lst_ μ (xs := xs) (ys := ys) (by simp [h]) rfl, if_pos (by rw [sizeLine_eq]; exact hl)]
def oddE : S := .seq (.asg (.nm 8) (.call "_law_one" (.cons (.var 0) (.cons (.var 3) .nil)))) (.seq (.ret (.tup (.cons (.var 8) (.cons (.call "_law_yw_web_fault" (.cons (.var 8) .nil)) .nil)))) .nil)
def oddB4 : S := .seq (.expr (.mt .extend (.var 3) (.cons (.comp (.nm 7) (.rng (.cons (.int 4) .nil)) .nil (.bin .add (.bin .add (.slice (.var 1) .nil (.cons (.var 4) .nil)) (.tup (.cons (.call "_law_one" (.cons (.var 0) (.cons (.var 5) .nil))) .nil))) (.bi .tuple (.cons (.bin .mul (.lst (.cons .non .nil)) (.bin .sub (.bin .sub (.var 2) (.int 1)) (.var 4))) .nil)))) .nil))) .nil
def oddB3 : S := .seq (.expr (.mt .extend (.var 3) (.cons (.comp (.nm 6) (.var 5) .nil (.bin .add (.bin .add (.slice (.var 1) .nil (.cons (.var 4) .nil)) (.tup (.cons (.var 6) .nil))) (.slice (.var 1) (.cons (.bin .add (.var 4) (.int 1)) .nil) .nil))) .nil))) oddB4
def oddB2 : S := .seq (.asg (.nm 5) (.comp (.nm 6) (.bin .add (.var 5) (.lst (.cons (.bin .add (.ix (.var 1) (.var 4)) (.slice (.ix (.var 1) (.var 4)) (.cons (.neg (.int 1)) .nil) .nil)) .nil))) (.cons (.notN (.call "_law_yw_lot_fault" (.cons (.var 6) (.cons (.var 2) .nil)))) .nil) (.var 6))) oddB3
def oddB1 : S := .seq (.asg (.nm 5) (.lst (.cons .non (.cons (.bi .list (.cons (.ix (.var 1) (.var 4)) .nil)) (.cons (.tup (.cons (.var 2) .nil)) (.cons (.tup (.cons (.neg (.int 1)) .nil)) (.cons (.tup (.cons (.int 0) (.cons (.int 0) .nil))) (.cons (.tup (.cons (.bl true) .nil)) (.cons (.tup (.cons .non .nil)) (.cons (.bin .add (.ix (.var 1) (.var 4)) (.tup (.cons (.var 2) .nil))) (.cons (.str "0") (.cons (.int 0) .nil)))))))))))) oddB2
def oddB : S := .seq (.asg (.nm 4) (.call "_law_take" (.cons (.var 0) (.cons (.var 2) .nil)))) oddB1
def oddR : S := .seq (.ife (.cmp .gt (.var 2) (.int 0)) oddB .nil) oddE
def oddA : S := .seq (.asg (.nm 2) (.bi .len (.cons (.var 1) .nil))) (.seq (.asg (.nm 3) (.lst (.cons .non (.cons (.lst .nil) (.cons (.bi .list (.cons (.var 1) .nil)) (.cons (.int 0) (.cons (.str "web") (.cons (.bl true) (.cons (.bin .add (.var 1) (.tup (.cons .non .nil))) (.cons (.bin .add (.var 1) (.tup (.cons (.tup (.cons (.bin .add (.var 2) (.int 1)) .nil)) .nil))) (.cons (.bin .add (.var 1) (.tup (.cons (.tup (.cons (.int 0) (.cons (.int 0) .nil))) .nil))) (.cons (.bin .mul (.tup (.cons (.tup (.cons (.int 0) .nil)) .nil)) (.int 61)) .nil)))))))))))) (.seq (.expr (.app (.var 3) (.bin .mul (.tup (.cons .non .nil)) (.int 61)))) oddR))
theorem odd_body : i_law_yw_odd_web.body = oddA := rfl
section
variable {G : Gm} (g : KW G) (n : Nat)
include g
theorem odd_end {j k : Nat} {μ : Mu} (J : Jar j k μ) (hk : k < 2 ^ 60) {F : Nat} (hF : F ≠ j) {xs : List PV} (gF : μ[F]? = some (.lst xs)) (ho : ∀ x ∈ xs, Odd μ x) (h0 : xs ≠ []) (hl : xs.length < 2 ^ 60) {Q : PV → Mu → Prop} (q : ∀ x μ', Odd μ' x → Fr j μ μ' → Jar j (k + 1) μ' → Q (.tup [x, webF x]) μ')
    {a1 a2 a4 a5 a6 a7 a8 : Option PV} : OK ((ex (wd G (callN G (n + 4))) oddE [some (.ref j), a1, a2, some (.ref F), a4, a5, a6, a7, a8] μ).bind outO) Q := by
  simp [oddE]
  refine one_ok g.take g.one (n + 2) J hk (p := .ref F) (xs := xs) (by simp [gF]) (by simp [hF]) h0 hl fun y l hy J' => ?_
  have f : Fr j μ (μ.set j l) := (Fr.refl j μ).set l
  have o := f.odd J' (ho y hy)
  have e := yw_web_eq g.toFormG n o.1.1 o.1.2
  simp [e]
  exact q _ _ o f J'
theorem oddB4_ok {j k : Nat} {μ : Mu} (J : Jar j k μ) (hk : k < 2 ^ 59) {F B : Nat} (hF : F ≠ j) (hB : B ≠ j) {rs : List (List Int)} (hw : Web rs) {t : Nat} (ht : t < rs.length) {xs bs : List PV} (gF : μ[F]? = some (.lst xs)) (gB : μ[B]? = some (.lst bs)) (h0 : bs ≠ []) (hb : ∀ b ∈ bs, E2 μ b ∧ lotOk rs.length b = false) (hbl : bs.length ≤ 100) (ho : ∀ x ∈ xs, Odd μ x) (hl : xs.length ≤ 1000)
    {a6 a7 a8 : Option PV} {Q : Fl → Mu → Prop} (q : ∀ xs' μ', μ'[F]? = some (.lst (xs ++ xs')) → xs'.length ≤ 4 → (∀ x ∈ xs ++ xs', Odd μ' x) → (∀ a, a < μ.length → a ≠ j → a ≠ F → μ'[a]? = μ[a]?) → μ.length ≤ μ'.length → Jar j (k + 4) μ' → Q (.nx [some (.ref j), some (webP rs), some (.int rs.length), some (.ref F), some (.int t), some (.ref B), a6, a7, a8]) μ') :
    OK (ex (wd G (callN G (n + 4))) oddB4 [some (.ref j), some (webP rs), some (.int rs.length), some (.ref F), some (.int t), some (.ref B), a6, a7, a8] μ) Q := by
  have hlen := hw.1
  simp [oddB4, -List.map_cons, -List.map_nil]
  refine OK.comp (fun i acc μ' => Fr j μ μ' ∧ Jar j (k + i) μ' ∧ acc.length ≤ i ∧ ∀ x ∈ acc, Odd μ' x) ⟨Fr.refl _ _, J, Nat.le_refl _, fun x hx => by simp at hx⟩ (fun _ _ _ _ => stay_nil _ _) (by simp) (fun i acc μ' h => h.2.2.1) (fun i x acc μ' Q' hx hP q1 q2 => ?_) ?_
  · obtain ⟨f, J', hal, hacc⟩ := hP
    have hi : i < 4 := by
      rcases Nat.lt_or_ge i 4 with h | h
      · exact h
      · rw [List.getElem?_eq_none (by simpa using h)] at hx; cases hx
    have e1 := cut_to (xs := rs.map lotP) (k := t) (by simp; omega)
    have hm : min t rs.length + 1 ≤ 16777216 := by omega
    simp [e1, hm]
    refine one_ok g.take g.one (n + 2) J' (by omega) (p := .ref B) (xs := bs) (by rw [sview_ref, mview_ref, f.2 B (get_lt gB) hB, gB]) (by simp [hB]) h0 (by omega) fun y l hy J2 => ?_
    have hsub : (rs.length : Int) - 1 - (t : Int) = ((rs.length - 1 - t : Nat) : Int) := by omega
    have hsm : Sm ((rs.length - 1 - t : Nat) : Int) := Sm.nat (by omega)
    have hz : rs.length - 1 - t ≤ 16777216 := by omega
    have hz2 : min t rs.length + 1 + (rs.length - 1 - t) ≤ 16777216 := by omega
    have hz3 : min t rs.length + (1 + (rs.length - 1 - t)) ≤ 16777216 := by omega
    have hz4 : min t rs.length + (rs.length - 1 - t + 1) ≤ 16777216 := by omega
    simp [hsub, hsm, hz, rep_flat, hm, hz2, hz3, hz4, -Int.natCast_sub]
    have f2 := f.set l
    refine q1 _ _ ⟨f2, by rw [← Nat.add_assoc]; exact J2, by simp; omega, fun z hz => ?_⟩
    simp only [List.mem_append, List.mem_singleton] at hz
    rcases hz with hz | rfl
    · exact ((Fr.refl j μ').set l).odd J2 (hacc z hz)
    · have := odd_put (μ := μ'.set j l) hw ht (f2.e2 J2 (hb y hy).1) (hb y hy).2 (ys := List.replicate (rs.length - 1 - t) .non) (fun z hz => by
        rw [List.mem_replicate] at hz
        rw [hz.2]
        exact e2_flat _ rfl) (by simp; omega)
      simpa using this
  · rintro acc μ' ⟨f, J', hal, hacc⟩
    have hal' : acc.length ≤ 4 := by simpa using hal
    have gF' : μ'[F]? = some (.lst xs) := by rw [f.2 F (get_lt gF) hF, gF]
    have e2 := ext_ok (b := .l acc) gF' rfl (by omega)
    simp [e2]
    have J'' : Jar j (k + 4) μ' := by simpa using J'
    have f3 : Fr j μ' μ' := Fr.refl _ _
    have hset : ∀ x, Odd μ' x → Odd (μ'.set F (.lst (xs ++ acc))) x := fun x hx => by
      have key : ∀ p, Lv1 μ' p → Lv1 (μ'.set F (.lst (xs ++ acc))) p := fun p h m e => by
        obtain ⟨ys, e'⟩ := h m e
        by_cases hm : m = F
        · subst hm
          exact ⟨_, List.getElem?_set_self (get_lt gF')⟩
        · exact ⟨ys, by rw [List.getElem?_set_ne (Ne.symm hm), e']⟩
      exact ⟨⟨⟨key _ hx.1.1.1, fun xs e x h => ⟨key _ (hx.1.1.2 xs e x h).1, fun ys e' z hz => key _ ((hx.1.1.2 xs e x h).2 ys e' z hz)⟩⟩, hx.1.2⟩, hx.2⟩
    refine q acc _ (List.getElem?_set_self (get_lt gF')) hal' (fun x hx => hset x ?_) (fun a ha h1 h2 => by rw [List.getElem?_set_ne (Ne.symm h2), f.2 a ha h1]) (by simpa using f.1) (J''.setNe hF _)
    rcases List.mem_append.mp hx with hx | hx
    · exact f.odd J'' (ho x hx)
    · exact hacc x hx
end
end
end Ev

set_option Elab.async false
set_option linter.all false
set_option maxRecDepth 100000
/-! EvX11: k01: odd webs, drawn, to the end. Own work. -/
namespace Ev
open PySem PySem.Spec PyProof.Rows L2
open Classical
noncomputable section
theorem lv1_set {μ : Mu} {F : Nat} {xs zs : List PV} (gF : μ[F]? = some (.lst xs)) {p : PV} (h : Lv1 μ p) : Lv1 (μ.set F (.lst zs)) p := fun m e => by
  obtain ⟨ys, e'⟩ := h m e
  by_cases hm : m = F
  · subst hm
    exact ⟨_, List.getElem?_set_self (get_lt gF)⟩
  · exact ⟨ys, by rw [List.getElem?_set_ne (Ne.symm hm), e']⟩
theorem e2_set {μ : Mu} {F : Nat} {xs zs : List PV} (gF : μ[F]? = some (.lst xs)) {p : PV} (h : E2 μ p) : E2 (μ.set F (.lst zs)) p := ⟨⟨lv1_set gF h.1.1, fun ys e z hz => lv1_set gF (h.1.2 ys e z hz)⟩, h.2⟩
theorem odd_set {μ : Mu} {F : Nat} {xs zs : List PV} (gF : μ[F]? = some (.lst xs)) {p : PV} (h : Odd μ p) : Odd (μ.set F (.lst zs)) p :=
  ⟨⟨⟨lv1_set gF h.1.1.1, fun ys e z hz => ⟨lv1_set gF (h.1.1.2 ys e z hz).1, fun ws e' w hw => lv1_set gF ((h.1.1.2 ys e z hz).2 ws e' w hw)⟩⟩, h.1.2⟩, h.2⟩
section
variable {G : Gm} (g : KW G) (n : Nat)
include g
theorem oddB3_ok {j k : Nat} {μ : Mu} (J : Jar j k μ) (hk : k < 2 ^ 59) {F B : Nat} (hF : F ≠ j) (hB : B ≠ j) (hFB : F ≠ B) {rs : List (List Int)} (hw : Web rs) {t : Nat} (ht : t < rs.length) {xs bs : List PV} (gF : μ[F]? = some (.lst xs)) (gB : μ[B]? = some (.lst bs)) (h0 : bs ≠ []) (hb : ∀ b ∈ bs, E2 μ b ∧ lotOk rs.length b = false) (hbl : bs.length ≤ 100) (ho : ∀ x ∈ xs, Odd μ x) (hl : xs.length ≤ 100)
    {a6 a7 a8 : Option PV} {Q : Fl → Mu → Prop} (q : ∀ xs' μ', μ'[F]? = some (.lst (xs ++ xs')) → xs'.length ≤ 200 → (∀ x ∈ xs ++ xs', Odd μ' x) → (∀ a, a < μ.length → a ≠ j → a ≠ F → μ'[a]? = μ[a]?) → μ.length ≤ μ'.length → Jar j (k + 4) μ' → Q (.nx [some (.ref j), some (webP rs), some (.int rs.length), some (.ref F), some (.int t), some (.ref B), a6, a7, a8]) μ') :
    OK (ex (wd G (callN G (n + 4))) oddB3 [some (.ref j), some (webP rs), some (.int rs.length), some (.ref F), some (.int t), some (.ref B), a6, a7, a8] μ) Q := by
  have hlen := hw.1
  have e1 := cut_to (xs := rs.map lotP) (k := t) (by simp; omega)
  have e2 := cut_from1 (xs := rs.map lotP) (k := t) (by simp; omega)
  have hm : min t rs.length + 1 ≤ 16777216 := by omega
  have hm2 : min t rs.length + (1 + (rs.length - (t + 1))) ≤ 16777216 := by omega
  have hm3 : min t rs.length + 1 + (rs.length - (t + 1)) ≤ 16777216 := by omega
  have hm4 : min t rs.length + (rs.length - (t + 1) + 1) ≤ 16777216 := by omega
  simp [oddB3, -List.map_cons, -List.map_nil, gB]
  refine OK.compP (fun b => some (.tup ((rs.map lotP).take t ++ [b] ++ (rs.map lotP).drop (t + 1)))) (fun b hb => ?_) (by omega) ?_
  · simp [e1, e2, hm, hm2, hm3, hm4]
  · have hfm : bs.filterMap (fun b => some (PV.tup ((rs.map lotP).take t ++ [b] ++ (rs.map lotP).drop (t + 1)))) = bs.map fun b => PV.tup ((rs.map lotP).take t ++ [b] ++ (rs.map lotP).drop (t + 1)) := by
      rw [List.filterMap_eq_map']
    rw [hfm]
    have hnew : ∀ x ∈ bs.map (fun b => PV.tup ((rs.map lotP).take t ++ [b] ++ (rs.map lotP).drop (t + 1))), Odd μ x := fun x hx => by
      obtain ⟨b, hb', rfl⟩ := List.mem_map.mp hx
      exact odd_put hw ht (hb b hb').1 (hb b hb').2 (fun y hy => (fm_web μ hw).e2 y (List.mem_of_mem_drop hy)) (by simp; omega)
    generalize hN : bs.map (fun b => PV.tup ((rs.map lotP).take t ++ [b] ++ (rs.map lotP).drop (t + 1))) = new at hnew
    have hnl : new.length = bs.length := by rw [← hN, List.length_map]
    have e3 := ext_ok (b := .l new) gF rfl (by omega)
    simp [e3]
    refine oddB4_ok g n (J.setNe hF _) hk hF hB hw ht (xs := xs ++ new) (bs := bs) (List.getElem?_set_self (get_lt gF)) (by rw [List.getElem?_set_ne hFB, gB]) h0 (fun b h => ⟨e2_set gF (hb b h).1, (hb b h).2⟩) hbl (fun x hx => odd_set gF ?_) (by simp; omega) fun xs' μ' g1 g2 g3 g4 g5 g6 => ?_
    · rcases List.mem_append.mp hx with hx | hx
      · exact ho x hx
      · exact hnew x hx
    · rw [List.append_assoc] at g1 g3
      exact q (new ++ xs') μ' g1 (by simp; omega) g3 (fun a ha h1 h2 => by rw [g4 a (by simpa using ha) h1 h2, List.getElem?_set_ne (Ne.symm h2)]) (by simpa using g5) g6
theorem oddB2_ok {j k : Nat} {μ : Mu} (J : Jar j k μ) (hk : k < 2 ^ 59) {F B : Nat} (hF : F ≠ j) {rs : List (List Int)} (hw : Web rs) {t : Nat} (ht : t < rs.length) {xs bs : List PV} (gF : μ[F]? = some (.lst xs)) (gB : μ[B]? = some (.lst (.non :: bs))) (hb : ∀ b ∈ bs, E2 μ b) (hbl : bs.length ≤ 50) (ho : ∀ x ∈ xs, Odd μ x) (hl : xs.length ≤ 100)
    {a6 a7 a8 : Option PV} {Q : Fl → Mu → Prop} (q : ∀ xs' B' μ' , μ'[F]? = some (.lst (xs ++ xs')) → xs'.length ≤ 200 → (∀ x ∈ xs ++ xs', Odd μ' x) → (∀ a, a < μ.length → a ≠ j → a ≠ F → μ'[a]? = μ[a]?) → μ.length ≤ μ'.length → Jar j (k + 4) μ' → Q (.nx [some (.ref j), some (webP rs), some (.int rs.length), some (.ref F), some (.int t), some (.ref B'), a6, a7, a8]) μ') :
    OK (ex (wd G (callN G (n + 4))) oddB2 [some (.ref j), some (webP rs), some (.int rs.length), some (.ref F), some (.int t), some (.ref B), a6, a7, a8] μ) Q := by
  have hlen := hw.1
  have hix : atI (rs.map lotP) (t : Int) = some (lotP rs[t]) := by
    rw [atI_nat (by simpa using ht)]
    simp
  have hrl := (hw.2 _ (List.getElem_mem ht)).len
  have hcl := cut_len (xs := rs[t].map PV.int) (lo := some (-1)) (hi := none)
  rw [List.length_map] at hcl
  have hm : rs[t].length + (cutP (rs[t].map PV.int) (some (-1)) none).length ≤ 16777216 := by omega
  have hadd := bin_add_l (ys := [PV.tup (rs[t].map PV.int ++ cutP (rs[t].map PV.int) (some (-1)) none)]) gB (by simp; omega)
  simp [oddB2, -List.map_cons, -List.map_nil, hix, hm, hadd]
  have hall : ∀ x ∈ (PV.non :: bs) ++ [PV.tup (rs[t].map PV.int ++ cutP (rs[t].map PV.int) (some (-1)) none)], E2 μ x := fun x hx => by
    simp only [List.mem_append, List.mem_cons, List.mem_singleton, List.not_mem_nil, or_false] at hx
    rcases hx with (rfl | hx) | rfl
    · exact e2_flat _ rfl
    · exact hb x hx
    · refine e2_tup _ (List.all_eq_true.mpr fun y hy => ?_) (by simp; omega)
      rcases List.mem_append.mp hy with hy | hy
      · obtain ⟨i, _, rfl⟩ := List.mem_map.mp hy
        rfl
      · obtain ⟨i, _, rfl⟩ := List.mem_map.mp (cut_sub hy)
        rfl
  rw [← List.cons_append]
  generalize hL : (PV.non :: bs) ++ [PV.tup (rs[t].map PV.int ++ cutP (rs[t].map PV.int) (some (-1)) none)] = L at hall
  have hLl : L.length = bs.length + 2 := by rw [← hL]; simp
  have hLn : PV.non ∈ L := by rw [← hL]; simp
  refine OK.compP (fun b => if lotOk rs.length b = true then none else some b) (fun b hb' => ?_) (by omega) ?_
  · have e := yw_lot_eq g.toFormG (n + 1) (hall b hb').1 (hall b hb').2 rs.length
    have hd : lotOk rs.length b = isNone (.v (lotF rs.length b)) := rfl
    cases hk : lotOk rs.length b with
    | true =>
      rw [hk] at hd
      simp [e, ← hd]
    | false =>
      rw [hk] at hd
      simp [e, ← hd]
  · have hmem : ∀ b, b ∈ L.filterMap (fun b => if lotOk rs.length b = true then none else some b) ↔ b ∈ L ∧ lotOk rs.length b = false := fun b => by
      rw [List.mem_filterMap]
      constructor
      · rintro ⟨c, hc, e⟩
        split at e
        · cases e
        · rename_i h
          cases e
          exact ⟨hc, by simpa using h⟩
      · rintro ⟨h1, h2⟩
        exact ⟨b, h1, by rw [h2]; simp⟩
    have hbl2 : (L.filterMap (fun b => if lotOk rs.length b = true then none else some b)).length ≤ L.length := List.length_filterMap_le _ _
    generalize L.filterMap (fun b => if lotOk rs.length b = true then none else some b) = bs2 at hmem hbl2
    simp
    have ap : Ap μ (μ ++ [.lst bs2]) := (Ap.refl μ).app _
    have hFl := get_lt gF
    refine oddB3_ok g n (xs := xs) (bs := bs2) (J.app _) hk hF (by have := J.lt; omega) (by omega) hw ht (ap.get gF) (by simp) (fun z => ?_) (fun b hb' => ?_) (by omega) (fun x hx => ap.odd (ho x hx)) hl fun xs' μ' g1 g2 g3 g4 g5 g6 => ?_
    · have := (hmem .non).mpr ⟨hLn, rfl⟩
      rw [z] at this
      simp at this
    · obtain ⟨h1, h2⟩ := (hmem b).mp hb'
      exact ⟨ap.e2 (hall b h1), h2⟩
    · exact q xs' _ μ' g1 g2 g3 (fun a ha h1 h2 => by rw [g4 a (by simp; omega) h1 h2, List.getElem?_append_left ha]) (by simp at g5; omega) g6
theorem oddB_ok {j k : Nat} {μ : Mu} (J : Jar j k μ) (hk : k < 2 ^ 58) {F : Nat} (hF : F ≠ j) {rs : List (List Int)} (hw : Web rs) (h0 : 0 < rs.length) {xs : List PV} (gF : μ[F]? = some (.lst xs)) (ho : ∀ x ∈ xs, Odd μ x) (hl : xs.length ≤ 100)
    {a4 a5 a6 a7 a8 : Option PV} {Q : Fl → Mu → Prop} (q : ∀ xs' t B' μ' , μ'[F]? = some (.lst (xs ++ xs')) → xs'.length ≤ 200 → (∀ x ∈ xs ++ xs', Odd μ' x) → (∀ a, a < μ.length → a ≠ j → a ≠ F → μ'[a]? = μ[a]?) → μ.length ≤ μ'.length → Jar j (k + 5) μ' → Q (.nx [some (.ref j), some (webP rs), some (.int rs.length), some (.ref F), some t, some (.ref B'), a6, a7, a8]) μ') :
    OK (ex (wd G (callN G (n + 4))) oddB [some (.ref j), some (webP rs), some (.int rs.length), some (.ref F), a4, a5, a6, a7, a8] μ) Q := by
  have hlen := hw.1
  simp [oddB]
  refine take_ok g.take (n + 3) J (by omega) (by omega) (by omega) fun t l ht J2 => ?_
  have ht' : t < rs.length := by omega
  have hix : atI (rs.map lotP) (t : Int) = some (lotP rs[t]) := by
    rw [atI_nat (by simpa using ht')]
    simp
  have hrl := (hw.2 _ (List.getElem_mem ht')).len
  have hm : rs[t].length + 1 ≤ 16777216 := by omega
  have hFl := get_lt gF
  have hj := J.lt
  have f : Fr j μ (μ.set j l) := (Fr.refl j μ).set l
  simp [oddB1, hix, hm]
  have ap : Ap (μ.set j l) (μ.set j l ++ [.lst (rs[t].map .int), .lst [.non, .ref μ.length, .tup [.int rs.length], .tup [.int (-1)], .tup [.int 0, .int 0], .tup [.bl true], .tup [.non], .tup (rs[t].map .int ++ [.int rs.length]), .str "0", .int 0]]) := (Ap.refl _).app _
  have gF2 : (μ.set j l)[F]? = some (.lst xs) := by rw [List.getElem?_set_ne (Ne.symm hF), gF]
  refine oddB2_ok g n (xs := xs) (bs := [.ref μ.length, .tup [.int rs.length], .tup [.int (-1)], .tup [.int 0, .int 0], .tup [.bl true], .tup [.non], .tup (rs[t].map .int ++ [.int rs.length]), .str "0", .int 0]) (ap.jar J2) (by omega) hF hw ht' (ap.get gF2) (by simp) (fun b hb => ?_) (by simp) (fun x hx => ap.odd (f.odd J2 (ho x hx))) hl fun xs' B' μ' g1 g2 g3 g4 g5 g6 => ?_
  · simp only [List.mem_cons, List.not_mem_nil, or_false] at hb
    rcases hb with rfl | rfl | rfl | rfl | rfl | rfl | rfl | rfl | rfl
    · exact e2_ref _ (xs := rs[t].map .int) (by simp)
    · exact e2_tup _ rfl (by simp)
    · exact e2_tup _ rfl (by simp)
    · exact e2_tup _ rfl (by simp)
    · exact e2_tup _ rfl (by simp)
    · exact e2_tup _ rfl (by simp)
    · refine e2_tup _ (List.all_eq_true.mpr fun y hy => ?_) (by simp; omega)
      rcases List.mem_append.mp hy with hy | hy
      · obtain ⟨i, _, rfl⟩ := List.mem_map.mp hy
        rfl
      · rw [List.mem_singleton] at hy
        subst hy
        rfl
    · exact e2_flat _ rfl
    · exact e2_flat _ rfl
  · refine q xs' _ _ μ' g1 g2 g3 (fun a ha h1 h2 => ?_) (by simp at g5; omega) g6
    rw [g4 a (by simp; omega) h1 h2, List.getElem?_append_left (by simpa using ha), List.getElem?_set_ne (Ne.symm h1)]
theorem odd_web_ok {j k : Nat} {μ : Mu} (J : Jar j k μ) (hk : k < 2 ^ 58) {rs : List (List Int)} (hw : Web rs) {Q : PV → Mu → Prop} (q : ∀ x μ', Odd μ' x → Fr j μ μ' → Jar j (k + 6) μ' → Q (.tup [x, webF x]) μ') : OK (callN G (n + 5) "_law_yw_odd_web" [.ref j, webP rs] μ) Q := by
  have hj := J.lt
  have hlen := hw.1
  have l1 : rs.length + 1 ≤ 16777216 := by omega
  have hN : i_law_yw_odd_web.N.length - i_law_yw_odd_web.ps.length = 7 := rfl
  rw [callN_eq (n + 4) g.odd_web rfl, odd_body, hN, show List.replicate 7 (none : Option PV) = [none, none, none, none, none, none, none] from rfl]
  simp [oddA, l1, rep_flat, -List.reduceReplicate]
  let xs : List PV := [.non, .ref μ.length, .ref (μ.length + 1), .int 0, .str "web", .bl true, .tup (rs.map lotP ++ [.non]), .tup (rs.map lotP ++ [.tup [.int (rs.length + 1)]]), .tup (rs.map lotP ++ [.tup [.int 0, .int 0]]), .tup (List.replicate 61 (.tup [.int 0])), .tup (List.replicate 61 .non)]
  have gF : (μ ++ [MO.lst [], MO.lst (rs.map lotP), MO.lst xs])[μ.length + 2]? = some (.lst xs) := by simp
  have hF : μ.length + 2 ≠ j := by omega
  have ap : Ap μ (μ ++ [MO.lst [], MO.lst (rs.map lotP), MO.lst xs]) := (Ap.refl μ).app _
  have ho : ∀ x ∈ xs, Odd (μ ++ [MO.lst [], MO.lst (rs.map lotP), MO.lst xs]) x := fun x hx => by
    simp only [xs, List.mem_cons, List.not_mem_nil, or_false] at hx
    rcases hx with rfl | rfl | rfl | rfl | rfl | rfl | rfl | rfl | rfl | rfl | rfl
    · exact ⟨fm_flat _ rfl, by simp [webE]⟩
    · exact ⟨fm_ref _ (xs := []) (by simp), by simp [webE]⟩
    · exact ⟨fm_ref _ (xs := rs.map lotP) (by simp), by simp [webE]⟩
    · exact ⟨fm_flat _ rfl, by simp [webE]⟩
    · exact ⟨fm_flat _ rfl, by simp [webE]⟩
    · exact ⟨fm_flat _ rfl, by simp [webE]⟩
    · exact odd_app hw (e2_flat _ rfl) rfl
    · exact odd_app hw (e2_tup _ rfl (by simp)) (lotOk_one (by omega))
    · exact odd_app hw (e2_tup _ rfl (by simp)) (lotOk_00 _)
    · exact ⟨fm_of fun y hy => by rw [(List.mem_replicate.mp hy).2]; exact e2_tup _ rfl (by simp), webE_long (by rw [List.length_replicate]; omega)⟩
    · exact ⟨fm_of fun y hy => by rw [(List.mem_replicate.mp hy).2]; exact e2_flat _ rfl, webE_long (by rw [List.length_replicate]; omega)⟩
  by_cases hC : rs.length = 0
  · have hC' : ¬ 0 < rs.length := by omega
    simp [oddR, hC', -List.reduceReplicate]
    have := odd_end g n (ap.jar J) (by omega) hF gF ho (by simp [xs]) (by simp [xs]) (Q := Q) (fun x μ' h1 h2 h3 => q x μ' h1 ((ap.fr j).trans h2) (h3.mono (by omega))) (a1 := some (webP rs)) (a2 := some (.int rs.length)) (a4 := none) (a5 := none) (a6 := none) (a7 := none) (a8 := none)
    simpa [-List.reduceReplicate] using this
  · have hC' : 0 < rs.length := by omega
    simp [oddR, hC', -List.reduceReplicate]
    refine oddB_ok g n (xs := xs) (ap.jar J) (by omega) hF hw hC' gF ho (by simp [xs]) fun xs' t B' μ' g1 g2 g3 g4 g5 g6 => ?_
    simp
    have hl : (xs ++ xs').length < 2 ^ 60 := by
      rw [List.length_append]
      have : xs.length = 11 := rfl
      omega
    have f : Fr j μ μ' := ⟨by simp at g5; omega, fun a ha h => by rw [g4 a (by simp; omega) h (by omega), List.getElem?_append_left ha]⟩
    have := odd_end g n g6 (by omega) hF g1 g3 (by simp [xs]) hl (Q := Q) (fun x μ' h1 h2 h3 => q x μ' h1 (f.trans h2) (h3.mono (by omega))) (a1 := some (webP rs)) (a2 := some (.int rs.length)) (a4 := some t) (a5 := some (.ref B')) (a6 := none) (a7 := none) (a8 := none)
    simpa using this
end
end
end Ev

set_option Elab.async false
set_option linter.all false
set_option maxRecDepth 100000
/-! EvX12: k01: odd cells, rows of arguments, refusals. Own work. -/
namespace Ev
open PySem PySem.Spec PyProof.Rows L2
open Classical
noncomputable section
def cellL (C : Int) : List PV := [.int C, .int (-1), .bl true, .non, .str "0", .tup [.int 0], .int 100000000000000000000]
theorem ok_bc : PyData.strOk (Str.ofString "BadCell") = true := by decide +kernel
theorem ok_0 : PyData.strOk ("0" : Str) = true := by decide +kernel
theorem cell_lv (μ : Mu) {C : Int} {c : PV} (h : c ∈ cellL C) : Lv1 μ c := by
  simp only [cellL, List.mem_cons, List.not_mem_nil, or_false] at h
  rcases h with rfl | rfl | rfl | rfl | rfl | rfl | rfl <;> exact fun n e => nomatch e
theorem cell_bad {C : Int} (hC : C ≤ 60) {c : PV} (h : c ∈ cellL C) : wholeB c 0 (C - 1) = false := by
  simp only [cellL, List.mem_cons, List.not_mem_nil, or_false] at h
  rcases h with rfl | rfl | rfl | rfl | rfl | rfl | rfl <;> simp [wholeB] <;> omega
theorem cell_same (μ : Mu) {C : Int} {c : PV} (h : c ∈ cellL C) : ∃ m, SameR μ c c m ∧ m ≤ 2 := by
  simp only [cellL, List.mem_cons, List.not_mem_nil, or_false] at h
  rcases h with rfl | rfl | rfl | rfl | rfl | rfl | rfl
  · exact ⟨_, .int _, by omega⟩
  · exact ⟨_, .int _, by omega⟩
  · exact ⟨_, .bl _, by omega⟩
  · exact ⟨_, .non, by omega⟩
  · exact ⟨_, .str _ ok_0, by omega⟩
  · exact ⟨_, .tup (.cons (.int _) .nil), by omega⟩
  · exact ⟨_, .int _, by omega⟩
def refE : S := .seq (.asg (.nm 5) (.lst (.cons (.heard "_law_n1_heard" (.call "readers" (.cons (.ix (.var 3) (.int 0)) (.cons (.ix (.var 3) (.int 1)) .nil)))) .nil))) (.seq (.expr (.app (.var 5) (.heard "_law_n1_heard" (.call "selves" (.cons (.ix (.ix (.var 2) (.int 0)) (.int 0)) .nil))))) (.seq (.ret (.call "_law_yq_same" (.cons (.var 5) (.cons (.lst (.cons (.var 4) (.cons (.ix (.ix (.var 2) (.int 0)) (.int 1)) .nil))) .nil)))) .nil))
section
variable {G : Gm} (g : K1 G) (n : Nat)
include g
theorem odd_cell_ok {j k : Nat} {μ : Mu} (J : Jar j k μ) (hk : k < 2 ^ 58) {rs : List (List Int)} {Q : PV → Mu → Prop} (q : ∀ c μ', c ∈ cellL rs.length → Fr j μ μ' → Jar j (k + 1) μ' → Q (.tup [c, .tup [.str "BadCell", c]]) μ') : OK (callN G (n + 3) "_law_yw_odd_cell" [.ref j, webP rs] μ) Q := by
  have hj := J.lt
  rw [callN_eq (n + 2) g.odd_cell rfl]
  have c1 : CPow 10 20 := ⟨by decide, by decide, by decide⟩
  simp [i_law_yw_odd_cell, c1]
  refine one_ok g.take g.one n (xs := cellL rs.length) (J.app _) (by omega) (by simp [cellL]) (by simp; omega) (by simp [cellL]) (by simp [cellL]) fun y l hy J2 => ?_
  simp
  exact q y _ hy (((Fr.refl j μ).app _).set l) J2
theorem arguments_ok {j k : Nat} {μ : Mu} (J : Jar j k μ) (hk : k < 2 ^ 58) {R O : Nat} (hR : R ≠ j) (hO : O ≠ j) {w0 ow of oc cf : PV} (gR : μ[R]? = some (.lst [w0, .int 0])) (gO : μ[O]? = some (.lst [.tup [ow, of], .tup [oc, cf]]))
    {Q : PV → Mu → Prop} (q : ∀ W a0 a1 due μ', ((∃ c, a0 = ow ∧ a1 = c ∧ due = of) ∨ (a0 = w0 ∧ a1 = oc ∧ due = cf)) → W ≠ j → μ'[W]? = some (.lst [a0, a1]) → Fr j μ μ' → Jar j (k + 2) μ' → Q (.tup [.ref W, due]) μ') : OK (callN G (n + 3) "_law_yw_arguments" [.ref j, .ref R, .ref O] μ) Q := by
  have hj := J.lt
  rw [callN_eq (n + 2) g.arguments rfl]
  simp [i_law_yw_arguments, gR]
  refine take_ok g.take (n + 1) J (by omega) (by omega) (by omega) fun t l ht J2 => ?_
  have gR2 : (μ.set j l)[R]? = some (.lst [w0, .int 0]) := by rw [List.getElem?_set_ne (Ne.symm hR), gR]
  have gO2 : (μ.set j l)[O]? = some (.lst [.tup [ow, of], .tup [oc, cf]]) := by rw [List.getElem?_set_ne (Ne.symm hO), gO]
  have f : Fr j μ (μ.set j l) := (Fr.refl j μ).set l
  have hlen : (μ.set j l).length = μ.length := by simp
  generalize μ.set j l = μ1 at J2 gR2 gO2 f hlen
  have ht2 : t = 0 ∨ t = 1 := by omega
  rcases ht2 with rfl | rfl
  · have e1 := cut_to (xs := [w0, .int 0]) (k := 0) (by simp)
    simp at e1
    have gR3 := get_app (ν := [MO.lst [ow]]) gR2
    have gO3 := get_app (ν := [MO.lst [ow]]) gO2
    simp [gR2, gO2, gR3, gO3, e1, ix0, compLoop]
    refine one_ok g.take g.one n (xs := [.int 0, oc]) (J2.app _) (by omega) (by simp) (by simp; omega) (by simp) (by simp) fun y l hy J3 => ?_
    have gW : ((μ1 ++ [MO.lst [ow], MO.lst [PV.int 0, oc]]).set j l)[μ1.length]? = some (.lst [ow]) := by rw [List.getElem?_set_ne (by omega)]; simp
    have gO4 : ((μ1 ++ [MO.lst [ow], MO.lst [PV.int 0, oc]]).set j l)[O]? = some (.lst [.tup [ow, of], .tup [oc, cf]]) := by rw [List.getElem?_set_ne (Ne.symm hO)]; exact get_app gO2
    have f4 : Fr j μ ((μ1 ++ [MO.lst [ow], MO.lst [PV.int 0, oc]]).set j l) := (f.app _).set l
    generalize (μ1 ++ [MO.lst [ow], MO.lst [PV.int 0, oc]]).set j l = μ2 at gW gO4 f4 J3
    have e2 := ext_ok (b := .l [y]) gW rfl (by simp)
    have gO5 : (μ2.set μ1.length (.lst [ow, y]))[O]? = some (.lst [.tup [ow, of], .tup [oc, cf]]) := by rw [List.getElem?_set_ne (by have := get_lt gO2; omega), gO4]
    simp [e2, gO5, ix0, ix1]
    exact q _ ow y of _ (.inl ⟨y, rfl, rfl, rfl⟩) (by omega) (List.getElem?_set_self (get_lt gW)) (f4.setNew (by omega) _) (J3.setNe (by omega) _)
  · have e1 := cut_to (xs := [w0, .int 0]) (k := 1) (by simp)
    simp at e1
    have gR3 := get_app (ν := [MO.lst [w0, oc]]) gR2
    have gO3 := get_app (ν := [MO.lst [w0, oc]]) gO2
    simp [gR2, gO2, gR3, gO3, e1, ix0, ix1, compLoop]
    have gW : (μ1 ++ [MO.lst [w0, oc]])[μ1.length]? = some (.lst [w0, oc]) := by simp
    have e2 := ext_ok (b := .l []) gW rfl (by simp)
    simp only [List.append_nil] at e2
    rw [set_last] at e2
    simp [e2, gO3, ix1]
    exact q _ w0 oc cf _ (.inr ⟨rfl, rfl, rfl⟩) (by omega) gW (f.app _) ((J2.app _).mono (by omega))
theorem ref_end {μ : Mu} {O W : Nat} {ow a0 a1 due w : PV} {y : PV} {m : Nat} {c : String} (hc : c ∈ ["BadWeb", "BadCell", "TooMany"]) (gO : μ[O]? = some (.lst [.tup [ow, webF ow], y])) (gW : μ[W]? = some (.lst [a0, a1])) (ho : Odd μ ow) (hr : callN G (n + 6) "readers" [a0, a1] μ = .exc c w μ) (hd : due = .tup [.str (Str.ofString c), w]) (S : ∀ μ, SameR μ w w m) (hm : m ≤ 10)
    {s0 s1 s5 : Option PV} {Q : PV → Mu → Prop} (q : ∀ μ', Ap μ μ' → Q (.bl true) μ') : OK ((ex (wd G (callN G (n + 6))) refE [s0, s1, some (.ref O), some (.ref W), some due, s5] μ).bind outO) Q := by
  have hfuel := g.fuel
  subst hd
  have hcs : (if c ∈ ["BadWeb", "BadCell", "TooMany"] then Str.ofString c else Str.empty) = Str.ofString c ∧ c ∈ ["TooMany", "BadWeb", "BadCell"] ∧ PyData.strOk (Str.ofString c) = true := by
    simp only [List.mem_cons, List.not_mem_nil, or_false] at hc
    rcases hc with rfl | rfl | rfl
    · exact ⟨by simp, by simp, ok_bw⟩
    · exact ⟨by simp, by simp, ok_bc⟩
    · exact ⟨by simp, by simp, ok_tm⟩
  obtain ⟨hc1, hc2, hc3⟩ := hcs
  have et : told (.named ["TooMany", "BadWeb", "BadCell"] ["BadWeb", "BadCell", "TooMany"]) (.exc c w μ) = .ok (.v (.tup [.str (Str.ofString c), w])) μ := by
    rw [told_named, if_pos hc2, hc1]
  have gO2 := get_app (ν := [MO.lst [.tup [.str (Str.ofString c), w]]]) gO
  have ap : Ap μ (μ ++ [.lst [.tup [.str (Str.ofString c), w]]]) := (Ap.refl μ).app _
  obtain ⟨cw, hcw⟩ := Option.ne_none_iff_exists'.mp ho.2
  obtain ⟨c', w'⟩ := cw
  have e3 := selves_exc g n (ap.lv3 ho.1.1) hcw
  have hcs' : (if c' ∈ ["BadWeb", "BadCell", "TooMany"] then Str.ofString c' else Str.empty) = Str.ofString c' ∧ c' ∈ ["TooMany", "BadWeb", "BadCell"] ∧ PyData.strOk (Str.ofString c') = true := by
    rcases webE_cls hcw with rfl | rfl
    · exact ⟨by simp, by simp, ok_tm⟩
    · exact ⟨by simp, by simp, ok_bw⟩
  obtain ⟨hd1, hd2, hd3⟩ := hcs'
  have et' : ∀ μ, told (.named ["TooMany", "BadWeb", "BadCell"] ["BadWeb", "BadCell", "TooMany"]) (.exc c' (.int w') μ) = .ok (.v (.tup [.str (Str.ofString c'), .int w'])) μ := fun μ => by
    rw [told_named, if_pos hd2, hd1]
  have hF : webF ow = .tup [.str (Str.ofString c'), .int w'] := by
    unfold webF
    rw [hcw]
    rfl
  rw [hF] at gO gO2
  have gO3 := get_app (ν := [MO.lst [.tup [.str (Str.ofString c), w], .tup [.str (Str.ofString c'), .int w']]]) gO
  simp [refE, gO, gW, ix0, ix1, hr, g.hrd, et, et', gO2, gO3, e3, -told_named]
  refine same_ok g.same g.qwhole (n + 4) (SameR.ref (by simp) (by simp) (.cons (.tup (.cons (.str _ hc3) (.cons (S _) .nil))) (.cons (.tup (.cons (.str _ hd3) (.cons (.int w') .nil))) .nil))) (by omega) (by omega) ?_
  simp
  exact q _ ((Ap.refl μ).app _)
end
end
end Ev

set_option Elab.async false
set_option linter.all false
set_option maxRecDepth 100000
/-! EvX13: k01: refusals. Own work. -/
namespace Ev
open PySem PySem.Spec PyProof.Rows L2
open Classical
noncomputable section
def refA : S := .seq (.asg (.nm 2) (.lst (.cons (.call "_law_yw_odd_web" (.cons (.var 0) (.cons (.var 1) .nil))) (.cons (.call "_law_yw_odd_cell" (.cons (.var 0) (.cons (.var 1) .nil))) .nil)))) (.seq (.asg (.tup (.cons (.nm 3) (.cons (.nm 4) .nil))) (.call "_law_yw_arguments" (.cons (.var 0) (.cons (.lst (.cons (.var 1) (.cons (.int 0) .nil))) (.cons (.var 2) .nil))))) (.seq (.ife (.cmp .eq (.var 1) (.tup .nil)) (.seq (.asg (.tup (.cons (.nm 3) (.cons (.nm 4) .nil))) (.tup (.cons (.lst (.cons (.tup .nil) (.cons (.ix (.ix (.var 2) (.int 1)) (.int 0)) .nil))) (.cons (.ix (.ix (.var 2) (.int 1)) (.int 1)) .nil)))) .nil) (.nil)) refE))
theorem ref_body : i_law_n1_refused_right.body = refA := rfl
section
variable {G : Gm} (g : K1 G) (n : Nat)
include g
theorem refused_right_ok {j k : Nat} {μ : Mu} (J : Jar j k μ) (hk : k < 2 ^ 57) {rs : List (List Int)} (hw : Web rs) {Q : PV → Mu → Prop} (q : ∀ μ', Fr j μ μ' → Jar j (k + 9) μ' → Q (.bl true) μ') : OK (callN G (n + 7) "_law_n1_refused_right" [.ref j, webP rs] μ) Q := by
  have hj := J.lt
  have hlen := hw.1
  have hN : i_law_n1_refused_right.N.length - i_law_n1_refused_right.ps.length = 4 := rfl
  rw [callN_eq (n + 6) g.refused_right rfl, ref_body, hN]
  simp [refA]
  refine odd_web_ok g.toKW (n + 1) J (by omega) hw fun ow μ1 how f1 J1 => ?_
  simp
  refine odd_cell_ok g (n + 3) J1 (by omega) (rs := rs) fun oc μ2 hoc f2 J2 => ?_
  have how2 := f2.odd J2 how
  have f12 := f1.trans f2
  have hl2 : μ.length ≤ μ2.length := f12.1
  have ap3 : Ap μ2 (μ2 ++ [MO.lst [.tup [ow, webF ow], .tup [oc, .tup [.str "BadCell", oc]]], MO.lst [webP rs, .int 0]]) := (Ap.refl μ2).app _
  have J3 := ap3.jar J2
  have gO : (μ2 ++ [MO.lst [.tup [ow, webF ow], .tup [oc, .tup [.str "BadCell", oc]]], MO.lst [webP rs, .int 0]])[μ2.length]? = some (.lst [.tup [ow, webF ow], .tup [oc, .tup [.str "BadCell", oc]]]) := by simp
  have gR : (μ2 ++ [MO.lst [.tup [ow, webF ow], .tup [oc, .tup [.str "BadCell", oc]]], MO.lst [webP rs, .int 0]])[μ2.length + 1]? = some (.lst [webP rs, .int 0]) := by simp
  have how3 := ap3.odd how2
  have f3 := f12.trans (ap3.fr j)
  simp
  generalize (μ2 ++ [MO.lst [.tup [ow, webF ow], .tup [oc, .tup [.str "BadCell", oc]]], MO.lst [webP rs, .int 0]]) = μ3 at ap3 J3 gO gR how3 f3
  refine arguments_ok g (n + 3) J3 (by omega) (R := μ2.length + 1) (O := μ2.length) (by omega) (by omega) gR gO fun W a0 a1 due μ4 hd hW gW f4 J4 => ?_
  have how4 := f4.odd J4 how3
  have gO4 : μ4[μ2.length]? = some (.lst [.tup [ow, webF ow], .tup [oc, .tup [.str "BadCell", oc]]]) := by rw [f4.2 _ (get_lt gO) (by omega), gO]
  have f04 := f3.trans f4
  have fin : ∀ μ', Ap μ4 μ' → Q (.bl true) μ' := fun μ' h => q μ' (f04.trans (h.fr j)) ((h.jar J4).mono (by omega))
  obtain ⟨m, hS, hm⟩ : ∃ m, (∀ μ, SameR μ oc oc m) ∧ m ≤ 2 := by
    simp only [cellL, List.mem_cons, List.not_mem_nil, or_false] at hoc
    rcases hoc with rfl | rfl | rfl | rfl | rfl | rfl | rfl
    · exact ⟨_, fun _ => .int _, by omega⟩
    · exact ⟨_, fun _ => .int _, by omega⟩
    · exact ⟨_, fun _ => .bl _, by omega⟩
    · exact ⟨_, fun _ => .non, by omega⟩
    · exact ⟨_, fun _ => .str _ ok_0, by omega⟩
    · exact ⟨_, fun _ => .tup (.cons (.int _) .nil), by omega⟩
    · exact ⟨_, fun _ => .int _, by omega⟩
  have hbad := cell_bad (C := rs.length) (by omega) hoc
  cases rs with
  | nil =>
    have gO5 := get_app (ν := [MO.lst [.tup [], oc]]) gO4
    have ap5 : Ap μ4 (μ4 ++ [MO.lst [.tup [], oc]]) := (Ap.refl μ4).app _
    simp [gO4, gO5, ix1, ix0]
    have := ref_end g n (y := .tup [oc, .tup [.str "BadCell", oc]]) (c := "BadCell") (a0 := .tup []) (a1 := oc) (by simp) gO5 (W := μ4.length) (by simp) (ap5.odd how4) (readers_exc2 g n (rs := []) hw (cell_lv _ hoc) hbad) rfl hS (by omega) (Q := Q) (fun μ' h => fin μ' (ap5.trans h)) (s0 := some (.ref j)) (s1 := some (webP [])) (s5 := none)
    simpa using this
  | cons r rs =>
    simp
    rcases hd with ⟨c, rfl, rfl, rfl⟩ | ⟨h1, h2, h3⟩
    · obtain ⟨cw, hcw⟩ := Option.ne_none_iff_exists'.mp how4.2
      obtain ⟨c', w'⟩ := cw
      have hF : webF a0 = .tup [.str (Str.ofString c'), .int w'] := by
        unfold webF
        rw [hcw]
        rfl
      have := ref_end g n (y := .tup [oc, .tup [.str "BadCell", oc]]) (c := c') (a0 := a0) (a1 := a1) (by rcases webE_cls hcw with rfl | rfl <;> simp) gO4 gW how4 (readers_exc g n how4.1.1 hcw) hF (fun μ => .int w') (by omega) (Q := Q) fin (s0 := some (.ref j)) (s1 := some (webP (r :: rs))) (s5 := none)
      simpa using this
    · subst h3
      rw [h1, h2] at gW
      have := ref_end g n (y := .tup [oc, .tup [.str "BadCell", oc]]) (c := "BadCell") (a0 := webP (r :: rs)) (a1 := oc) (by simp) gO4 gW how4 (readers_exc2 g n hw (cell_lv _ hoc) hbad) rfl hS (by omega) (Q := Q) fin (s0 := some (.ref j)) (s1 := some (webP (r :: rs))) (s5 := none)
      simpa using this
end
end
end Ev

set_option Elab.async false
set_option linter.all false
set_option maxRecDepth 100000
/-! EvX14: drawn webs: one turn. Own work. -/
namespace Ev
open PySem PySem.Spec PyProof.Rows L2
open Classical
noncomputable section
/-- numbers of cells -/
def In (C : Nat) (ys : List PV) : Prop := ∃ os : List Int, ys = os.map .int ∧ ∀ z ∈ os, 0 ≤ z ∧ z < C
theorem In.of {C : Nat} : ∀ {ys : List PV}, (∀ y ∈ ys, ∃ z : Int, y = .int z ∧ 0 ≤ z ∧ z < C) → In C ys
  | [], _ => ⟨[], rfl, fun _ h => by simp at h⟩
  | y :: ys, h => by
    obtain ⟨z, rfl, hz⟩ := h y List.mem_cons_self
    obtain ⟨os, rfl, ho⟩ := In.of fun y' h' => h y' (List.mem_cons_of_mem _ h')
    exact ⟨z :: os, rfl, fun z' h' => by
      rcases List.mem_cons.mp h' with rfl | h'
      · exact hz
      · exact ho _ h'⟩
theorem In.mem {C : Nat} {ys : List PV} (h : In C ys) {y : PV} (hy : y ∈ ys) : ∃ z : Int, y = .int z ∧ 0 ≤ z ∧ z < C := by
  obtain ⟨os, rfl, ho⟩ := h
  obtain ⟨z, hz, rfl⟩ := List.mem_map.mp hy
  exact ⟨z, rfl, ho z hz⟩
theorem In.sub {C : Nat} {ys zs : List PV} (h : In C ys) (hs : ∀ z ∈ zs, z ∈ ys) : In C zs := In.of fun z hz => h.mem (hs z hz)
theorem In.app {C : Nat} {ys zs : List PV} (h : In C ys) (h' : In C zs) : In C (ys ++ zs) := In.of fun z hz => by
  rcases List.mem_append.mp hz with hz | hz
  · exact h.mem hz
  · exact h'.mem hz
theorem In.nil {C : Nat} : In C [] := ⟨[], rfl, fun _ h => by simp at h⟩
def Wb (base C L : Nat) (μ : Mu) : Prop := ∀ c, c < C → ∃ ns, μ[base + c]? = some (.lst ns) ∧ In C ns ∧ ns.length ≤ L
theorem Wb.mono {base C L L' : Nat} {μ : Mu} (h : Wb base C L μ) (hl : L ≤ L') : Wb base C L' μ := fun c hc => by
  obtain ⟨ns, h1, h2, h3⟩ := h c hc
  exact ⟨ns, h1, h2, by omega⟩
/-- nothing changed but the jar and the reads that are being made -/
def Fw (j base C : Nat) (μ μ' : Mu) : Prop := μ.length ≤ μ'.length ∧ ∀ a, a < μ.length → a ≠ j → (a < base ∨ base + C ≤ a) → μ'[a]? = μ[a]?
theorem Fw.refl (j base C : Nat) (μ : Mu) : Fw j base C μ μ := ⟨Nat.le_refl _, fun _ _ _ _ => rfl⟩
theorem Fw.fr {j base C : Nat} {μ μ1 μ2 : Mu} (h : Fw j base C μ μ1) (f : Fr j μ1 μ2) : Fw j base C μ μ2 := ⟨Nat.le_trans h.1 f.1, fun a ha hj hb => by rw [f.2 a (Nat.lt_of_lt_of_le ha h.1) hj, h.2 a ha hj hb]⟩
theorem Fw.trans {j base C : Nat} {μ μ1 μ2 : Mu} (h : Fw j base C μ μ1) (f : Fw j base C μ1 μ2) : Fw j base C μ μ2 := ⟨Nat.le_trans h.1 f.1, fun a ha hj hb => by rw [f.2 a (Nat.lt_of_lt_of_le ha h.1) hj hb, h.2 a ha hj hb]⟩
theorem Wb.fr {j base C L : Nat} {μ μ' : Mu} (h : Wb base C L μ) (f : Fr j μ μ') (hj : j < base) : Wb base C L μ' := fun c hc => by
  obtain ⟨ns, h1, h2⟩ := h c hc
  exact ⟨ns, by rw [f.2 _ (get_lt h1) (by omega), h1], h2⟩
/-- the reads of c are made longer -/
theorem Wb.ext {j base C L k c : Nat} {μ : Mu} (h : Wb base C L μ) (hc : c < C) (J : Jar j k μ) (hj : j < base) {zs : List PV} {d : Nat} (hz : In C zs) (hd : zs.length ≤ d) (hL : L + d ≤ 5000) {b : Ag} (hb : mview μ b = some zs) :
    ∃ μ', mtA .extend (.v (.ref (base + c))) [b] μ = some (.v .non, μ') ∧ Wb base C (L + d) μ' ∧ Jar j k μ' ∧ Fw j base C μ μ' := by
  obtain ⟨ns, h1, h2, h3⟩ := h c hc
  refine ⟨_, ext_ok h1 hb (by omega), fun c' hc' => ?_, J.setNe (by omega) _, by simp, fun a ha hj' hab => ?_⟩
  · by_cases e : c' = c
    · subst e
      exact ⟨_, List.getElem?_set_self (get_lt h1), h2.app hz, by simp; omega⟩
    · obtain ⟨ns', g1, g2, g3⟩ := h c' hc'
      exact ⟨ns', by rw [List.getElem?_set_ne (by omega), g1], g2, by omega⟩
  · rw [List.getElem?_set_ne (by omega)]
theorem atI_mem {xs : List PV} {i : Int} (h1 : -(xs.length : Int) ≤ i) (h2 : i < xs.length) : ∃ y, atI xs i = some y ∧ y ∈ xs := by
  unfold atI ixN
  by_cases h : 0 ≤ i
  · rw [if_pos h, if_pos h2]
    have : i.toNat < xs.length := by omega
    exact ⟨xs[i.toNat], by simp [this], List.getElem_mem this⟩
  · rw [if_neg h, if_pos h1]
    have : (i + xs.length).toNat < xs.length := by omega
    exact ⟨xs[(i + xs.length).toNat], by simp [this], List.getElem_mem this⟩
def ywT : S := .seq (.asg (.nm 5) (.ix (.var 3) (.var 6))) (.seq (.expr (.mt .extend (.ix (.var 4) (.var 5)) (.cons (.ite (.and (.cmp .in_ (.var 2) (.lst (.cons (.int 0) (.cons (.int 2) .nil)))) (.or (.cmp .gt (.var 6) (.int 0)) (.cmp .eq (.var 2) (.int 2)))) (.lst (.cons (.ix (.var 3) (.bin .sub (.var 6) (.int 1))) .nil)) (.lst .nil)) .nil))) (.seq (.ife (.cmp .eq (.var 2) (.int 1)) (.seq (.expr (.mt .extend (.ix (.var 4) (.var 5)) (.cons (.bi .list (.cons (.call "_law_some" (.cons (.var 0) (.cons (.slice (.var 3) .nil (.cons (.var 6) .nil)) (.cons (.int 2) .nil)))) .nil)) .nil))) .nil) (.nil)) (.seq (.ife (.cmp .eq (.var 2) (.int 3)) (.seq (.expr (.mt .extend (.ix (.var 4) (.var 5)) (.cons (.bi .list (.cons (.call "_law_some" (.cons (.var 0) (.cons (.var 3) (.cons (.bin .add (.int 1) (.call "_law_take" (.cons (.var 0) (.cons (.int 3) .nil)))) .nil)))) .nil)) .nil))) .nil) (.nil)) (.seq (.ife (.and (.cmp .eq (.var 2) (.int 4)) (.cmp .gt (.var 6) (.int 0))) (.seq (.expr (.mt .extend (.ix (.var 4) (.var 5)) (.cons (.ite (.cmp .lt (.var 6) (.bin .sub (.var 1) (.int 1))) (.slice (.var 3) .nil (.cons (.int 1) .nil)) (.slice (.var 3) (.cons (.int 1) .nil) (.cons (.bin .sub (.var 1) (.int 1)) .nil))) .nil))) .nil) (.nil)) (.seq (.ife (.cmp .eq (.var 2) (.int 5)) (.seq (.expr (.mt .extend (.ix (.var 4) (.var 5)) (.cons (.ite (.cmp .gt (.var 6) (.int 1)) (.slice (.var 3) (.cons (.bin .sub (.bin .mul (.bin .fdiv (.var 6) (.int 2)) (.int 2)) (.int 2)) .nil) (.cons (.bin .mul (.bin .fdiv (.var 6) (.int 2)) (.int 2)) .nil)) (.lst .nil)) .nil))) .nil) (.nil)) (.seq (.ife (.cmp .eq (.var 2) (.int 6)) (.seq (.expr (.mt .extend (.ix (.var 4) (.var 5)) (.cons (.lst (.cons (.ix (.var 3) (.bin .mod (.bin .add (.var 6) (.int 1)) (.var 1))) (.cons (.ix (.var 3) (.bin .fdiv (.var 6) (.int 2))) .nil))) .nil))) .nil) (.nil)) .nil))))))
section
variable {G : Gm} (g : KW G) (n : Nat)
include g
theorem turn_ok {j k base C L OR MD i s : Nat} {μ : Mu} (J : Jar j k μ) (hk : k < 2 ^ 58) (hC : C ≤ 60) (hi : i < C) (hs : s < 7) (hj : j < base) (W : Wb base C L μ) (hL : L ≤ 4000) {os : List PV} (hos : In C os) (hol : os.length = C) (gO : μ[OR]? = some (.lst os)) (gM : μ[MD]? = some (.lst ((List.range C).map fun c => .ref (base + c)))) (hO : OR ≠ j ∧ (OR < base ∨ base + C ≤ OR)) (hM : MD ≠ j ∧ (MD < base ∨ base + C ≤ MD))
    {a5 a7 a8 : Option PV} {Q : Fl → Mu → Prop} (q : ∀ b μ', Wb base C (L + 61) μ' → Fw j base C μ μ' → Jar j (k + 62) μ' → Q (.nx [some (.ref j), some (.int C), some (.int s), some (.ref OR), some (.ref MD), b, some (.int i), a7, a8]) μ') :
    OK (ex (wd G (callN G (n + 2))) ywT [some (.ref j), some (.int C), some (.int s), some (.ref OR), some (.ref MD), a5, some (.int i), a7, a8] μ) Q := by
  have hx : atI os (i : Int) = some os[i] := atI_nat (by omega)
  obtain ⟨x, hx', x0, x1⟩ := hos.mem (List.getElem_mem (l := os) (n := i) (by omega))
  rw [hx'] at hx
  obtain ⟨c, rfl⟩ := Int.eq_ofNat_of_zero_le x0
  have hc : c < C := by omega
  have hm : atI ((List.range C).map fun c => PV.ref (base + c)) (c : Int) = some (.ref (base + c)) := by
    rw [atI_nat (by simpa using hc)]
    simp
  have hin := inA_ints (μ := μ) (a := .l [.int 0, .int 2]) (r := [0, 2]) rfl (s : Int)
  simp at hin
  have h7 : s = 0 ∨ s = 1 ∨ s = 2 ∨ s = 3 ∨ s = 4 ∨ s = 5 ∨ s = 6 := by omega
  obtain ⟨pv, hpv, pm⟩ := atI_mem (xs := os) (i := (i : Int) - 1) (by omega) (by omega)
  have hpi : In C [pv] := hos.sub fun z hz => by rw [List.mem_singleton] at hz; rw [hz]; exact pm
  have stay1 : ∀ {μ1 : Mu}, Fw j base C μ μ1 → μ1[OR]? = some (.lst os) ∧ μ1[MD]? = some (.lst ((List.range C).map fun c => .ref (base + c))) := fun {μ1} f => ⟨by rw [f.2 _ (get_lt gO) hO.1 hO.2, gO], by rw [f.2 _ (get_lt gM) hM.1 hM.2, gM]⟩
  -- nothing in the first row
  obtain ⟨μ0, e0, W0, J0, F0⟩ := W.ext hc J hj (zs := []) (d := 0) In.nil (by simp) (by omega) (b := .l []) rfl
  obtain ⟨gO0, gM0⟩ := stay1 F0
  obtain ⟨μ1, e1, W1, J1, F1⟩ := W.ext hc J hj (zs := [pv]) (d := 1) hpi (by simp) (by omega) (b := .l [pv]) rfl
  have done : ∀ {b : Option PV} {μ2 : Mu} {L2 k2 : Nat}, Wb base C L2 μ2 → L2 ≤ L + 61 → Fw j base C μ μ2 → Jar j k2 μ2 → k2 ≤ k + 62 → Q (.nx [some (.ref j), some (.int C), some (.int s), some (.ref OR), some (.ref MD), b, some (.int i), a7, a8]) μ2 := fun {b μ2 L2 k2} w hl f jj hk2 => q b μ2 (w.mono hl) f (jj.mono hk2)
  rcases h7 with rfl | rfl | rfl | rfl | rfl | rfl | rfl
  · simp at hin
    by_cases h0 : i = 0
    · subst h0
      simp at hx
      simp [ywT, gO, hx, gM, hm, hin, e0]
      exact done W0 (by omega) F0 J0 (by omega)
    · have h0' : 0 < i := by omega
      simp [ywT, gO, hx, gM, hm, hin, h0', hpv, e1]
      exact done W1 (by omega) F1 J1 (by omega)
  · simp at hin
    simp [ywT, gO, hx, gM, hm, hin, e0, gO0, gM0]
    have hcl := cut_len (xs := os) (lo := none) (hi := some (i : Int))
    refine some_ok g.take g.some_ n (xs := cutP os none (some (i : Int))) (J0.app _) (by omega) (by simp) (by simp; have := J0.lt; omega) (by omega) (by decide) (by decide) fun ys μ2 m1 l1 f2 J2 => ?_
    have F2 : Fr j μ0 μ2 := ((Fr.refl j μ0).app _).trans f2
    obtain ⟨μ3, e3, W3, J3, F3⟩ := (W0.fr F2 hj).ext hc J2 hj (zs := ys) (d := 60) (hos.sub fun z hz => cut_sub (m1 z hz)) (by omega) (by omega) (b := .l ys) rfl
    simp [e3]
    exact done W3 (by omega) ((F0.fr F2).trans F3) J3 (by omega)
  · simp at hin
    simp [ywT, gO, hx, gM, hm, hin, hpv, e1]
    exact done W1 (by omega) F1 J1 (by omega)
  · simp at hin
    simp [ywT, gO, hx, gM, hm, hin, e0, gO0, gM0]
    refine take_ok g.take (n + 1) J0 (by omega) (by decide) (by decide) fun t l ht J1 => ?_
    have f1 : Fr j μ0 (μ0.set j l) := (Fr.refl j μ0).set l
    have gO1 : (μ0.set j l)[OR]? = some (.lst os) := by rw [List.getElem?_set_ne (Ne.symm hO.1), gO0]
    simp
    refine some_ok g.take g.some_ n (xs := os) J1 (by omega) (by rw [sview_ref, mview_ref, gO1]) (by simp [hO.1]) (by omega) (by omega) (by omega) fun ys μ2 m1 l1 f2 J2 => ?_
    have F2 : Fr j μ0 μ2 := f1.trans f2
    obtain ⟨μ3, e3, W3, J3, F3⟩ := (W0.fr F2 hj).ext hc J2 hj (zs := ys) (d := 60) (hos.sub m1) (by omega) (by omega) (b := .l ys) rfl
    simp [e3]
    exact done W3 (by omega) ((F0.fr F2).trans F3) J3 (by omega)
  · simp at hin
    by_cases h0 : i = 0
    · subst h0
      simp at hx
      simp [ywT, gO, hx, gM, hm, hin, e0, gO0, gM0]
      exact done W0 (by omega) F0 J0 (by omega)
    · have h0' : 0 < i := by omega
      by_cases h1 : (i : Int) < (C : Int) - 1
      · have hcl := cut_len (xs := os) (lo := none) (hi := some 1)
        obtain ⟨μ3, e3, W3, J3, F3⟩ := W0.ext hc J0 hj (zs := cutP os none (some 1)) (d := 60) (hos.sub fun z hz => cut_sub hz) (by omega) (by omega) (b := .l _) rfl
        simp [ywT, gO, hx, gM, hm, hin, e0, gO0, gM0, h0', h1, e3]
        exact done W3 (by omega) (F0.trans F3) J3 (by omega)
      · have hcl := cut_len (xs := os) (lo := some 1) (hi := some ((C : Int) - 1))
        obtain ⟨μ3, e3, W3, J3, F3⟩ := W0.ext hc J0 hj (zs := cutP os (some 1) (some ((C : Int) - 1))) (d := 60) (hos.sub fun z hz => cut_sub hz) (by omega) (by omega) (b := .l _) rfl
        simp [ywT, gO, hx, gM, hm, hin, e0, gO0, gM0, h0', h1, e3]
        exact done W3 (by omega) (F0.trans F3) J3 (by omega)
  · simp at hin
    have hd : CDivW (i : Int) 2 := ⟨by decide, by decide⟩
    have hmu : CMulX ((i : Int) / 2) 2 := mulok (a := 10) (b := 3) (by omega) (by decide) (by decide)
    by_cases h1 : 1 < i
    · have h1' : (1 : Int) < (i : Int) := by omega
      have hcl := cut_len (xs := os) (lo := some ((i : Int) / 2 * 2 - 2)) (hi := some ((i : Int) / 2 * 2))
      obtain ⟨μ3, e3, W3, J3, F3⟩ := W0.ext hc J0 hj (zs := cutP os (some ((i : Int) / 2 * 2 - 2)) (some ((i : Int) / 2 * 2))) (d := 60) (hos.sub fun z hz => cut_sub hz) (by omega) (by omega) (b := .l _) rfl
      simp [ywT, gO, hx, gM, hm, hin, e0, gO0, gM0, h1', hd, hmu, e3]
      exact done W3 (by omega) (F0.trans F3) J3 (by omega)
    · have h1' : ¬ (1 : Int) < (i : Int) := by omega
      obtain ⟨μ3, e3, W3, J3, F3⟩ := W0.ext hc J0 hj (zs := []) (d := 0) In.nil (by simp) (by omega) (b := .l []) rfl
      simp [ywT, gO, hx, gM, hm, hin, e0, gO0, gM0, h1', e3]
      exact done W3 (by omega) (F0.trans F3) J3 (by omega)
  · simp at hin
    have hd : CDivW (i : Int) 2 := ⟨by decide, by decide⟩
    have hC0 : (0 : Int) < C := by omega
    have q1 := Int.emod_nonneg ((i : Int) + 1) (b := C) (by omega)
    have q2 := Int.emod_lt_of_pos ((i : Int) + 1) hC0
    have hC1 : 0 < C := by omega
    obtain ⟨y1, hy1, m1⟩ := atI_mem (xs := os) (i := ((i : Int) + 1) % C) (by omega) (by omega)
    obtain ⟨y2, hy2, m2⟩ := atI_mem (xs := os) (i := (i : Int) / 2) (by omega) (by omega)
    obtain ⟨μ3, e3, W3, J3, F3⟩ := W0.ext hc J0 hj (zs := [y1, y2]) (d := 60) (hos.sub fun z hz => by
      simp only [List.mem_cons, List.not_mem_nil, or_false] at hz
      rcases hz with rfl | rfl
      · exact m1
      · exact m2) (by simp) (by omega) (b := .l [y1, y2]) rfl
    simp [ywT, gO, hx, gM, hm, hin, e0, gO0, gM0, hd, hC1, hy1, hy2, e3]
    exact done W3 (by omega) (F0.trans F3) J3 (by omega)
end
end
end Ev

set_option Elab.async false
set_option linter.all false
set_option maxRecDepth 100000
/-! EvX15: drawn webs. Own work. -/
namespace Ev
open PySem PySem.Spec PyProof.Rows L2
open Classical
noncomputable section
theorem insI_mem (x z : Int) : ∀ ys : List Int, z ∈ insI x ys ↔ z = x ∨ z ∈ ys
  | [] => by simp [insI]
  | y :: ys => by
    unfold insI
    split
    · simp
    · split
      · rename_i h
        subst h
        simp
      · rw [List.mem_cons, insI_mem x z ys, List.mem_cons]
        constructor
        · rintro (h | h | h)
          · exact .inr (.inl h)
          · exact .inl h
          · exact .inr (.inr h)
        · rintro (h | h | h)
          · exact .inr (.inl h)
          · exact .inl h
          · exact .inr (.inr h)
theorem insI_sorted (x : Int) : ∀ ys : List Int, ys.Pairwise (· < ·) → (insI x ys).Pairwise (· < ·)
  | [], _ => by simp [insI]
  | y :: ys, h => by
    unfold insI
    rw [List.pairwise_cons] at h
    split
    · rename_i hx
      rw [List.pairwise_cons, List.pairwise_cons]
      refine ⟨fun z hz => ?_, h⟩
      rcases List.mem_cons.mp hz with rfl | hz
      · exact hx
      · have := h.1 z hz
        omega
    · split
      · rw [List.pairwise_cons]; exact h
      · rename_i h1 h2
        rw [List.pairwise_cons]
        refine ⟨fun z hz => ?_, insI_sorted x ys h.2⟩
        rcases (insI_mem x z ys).mp hz with rfl | hz
        · omega
        · exact h.1 z hz
theorem sortD_mem (z : Int) : ∀ ys : List Int, z ∈ sortD ys ↔ z ∈ ys
  | [] => by simp [sortD]
  | y :: ys => by
    show z ∈ insI y (sortD ys) ↔ _
    rw [insI_mem, sortD_mem z ys, List.mem_cons]
theorem sortD_sorted : ∀ ys : List Int, (sortD ys).Pairwise (· < ·)
  | [] => by simp [sortD]
  | y :: ys => insI_sorted y _ (sortD_sorted ys)
theorem sortD_lot {C : Nat} {ns : List Int} (h : ∀ z ∈ ns, 0 ≤ z ∧ z < C) : Lot 0 C (sortD ns) := ⟨sortD_sorted ns, fun z hz => h z ((sortD_mem z ns).mp hz)⟩
def ywE : S := .seq (.asg (.nm 7) (.call "_law_one" (.cons (.var 0) (.cons (.lst (.cons (.int 3) (.cons (.int 9) (.cons (.bin .pow (.int 10) (.int 9)) .nil)))) .nil)))) (.seq (.forr (.nm 5) (.rng (.cons (.var 1) .nil)) (.seq (.expr (.mt .extend (.ix (.var 4) (.var 5)) (.cons (.ite (.cmp .eq (.call "_law_take" (.cons (.var 0) (.cons (.var 7) .nil))) (.int 0)) (.lst (.cons (.var 5) .nil)) (.lst .nil)) .nil))) .nil)) (.seq (.ret (.bi .tuple (.cons (.comp (.nm 8) (.var 4) .nil (.bi .tuple (.cons (.sortSet (.var 8)) .nil))) .nil))) .nil))
def ywB : S := .seq (.par2 2 3 (.call "_law_take" (.cons (.var 0) (.cons (.int 7) .nil))) (.call "_law_mixed" (.cons (.var 0) (.cons (.conv false (.rng (.cons (.var 1) .nil))) .nil)))) (.seq (.asg (.nm 4) (.comp (.nm 5) (.rng (.cons (.var 1) .nil)) .nil (.lst .nil))) (.seq (.forr (.nm 6) (.rng (.cons (.var 1) .nil)) ywT) ywE))
def ywA : S := .seq (.asg (.nm 1) (.call "_law_one" (.cons (.var 0) (.cons (.lst (.cons (.int 0) (.cons (.int 1) (.cons (.int 2) (.cons (.int 3) (.cons (.int 3) (.cons (.int 4) (.cons (.int 4) (.cons (.int 5) (.cons (.int 5) (.cons (.int 6) (.cons (.int 7) .nil)))))))))))) .nil)))) (.seq (.asg (.nm 1) (.ite (.cmp .eq (.call "_law_take" (.cons (.var 0) (.cons (.int 40) .nil))) (.int 0)) (.int 60) (.var 1))) ywB)
theorem yw_body : i_law_yw_web.body = ywA := rfl
section
variable {G : Gm} (g : KW G) (n : Nat)
include g
theorem ywE_ok {j k base C L MD : Nat} {μ : Mu} (J : Jar j k μ) (hk : k < 2 ^ 58) (hC : C ≤ 60) (hj : j < base) (W : Wb base C L μ) (hL : L ≤ 3700) (gM : μ[MD]? = some (.lst ((List.range C).map fun c => .ref (base + c)))) (hM : MD ≠ j ∧ (MD < base ∨ base + C ≤ MD)) (hb : base + C ≤ μ.length)
    {a2 a3 a5 a6 a7 : Option PV} {Q : PV → Mu → Prop} (q : ∀ rs μ', Web rs → Fw j base C μ μ' → Jar j (k + 61) μ' → Q (webP rs) μ') :
    OK ((ex (wd G (callN G (n + 2))) ywE [some (.ref j), some (.int C), a2, a3, some (.ref MD), a5, a6, a7, none] μ).bind outO) Q := by
  have c1 : CPow 10 9 := ⟨by decide, by decide, by decide⟩
  have hsm : Sm (C : Int) := Sm.nat (by omega)
  simp [ywE, c1]
  refine one_ok g.take g.one n (xs := [.int 3, .int 9, .int 1000000000]) (J.app _) (by omega) (by simp) (by simp; have := J.lt; omega) (by simp) (by simp) fun y l hy J1 => ?_
  obtain ⟨od, rfl, ho1, ho2⟩ : ∃ od : Int, y = .int od ∧ 0 < od ∧ od < 2 ^ 60 := by
    simp only [List.mem_cons, List.not_mem_nil, or_false] at hy
    rcases hy with rfl | rfl | rfl
    · exact ⟨_, rfl, by decide, by decide⟩
    · exact ⟨_, rfl, by decide, by decide⟩
    · exact ⟨_, rfl, by decide, by decide⟩
  have f1 : Fr j μ ((μ ++ [MO.lst [.int 3, .int 9, .int 1000000000]]).set j l) := ((Fr.refl j μ).app _).set l
  have W1 := W.fr f1 hj
  have F1 : Fw j base C μ ((μ ++ [MO.lst [.int 3, .int 9, .int 1000000000]]).set j l) := (Fw.refl j base C μ).fr f1
  generalize (μ ++ [MO.lst [.int 3, .int 9, .int 1000000000]]).set j l = μ1 at J1 f1 W1 F1
  simp [hsm]
  refine OK.forN (fun i σ μ' => ∃ b, σ = [some (.ref j), some (.int C), a2, a3, some (.ref MD), b, a6, some (.int od), none] ∧ i ≤ C ∧ Wb base C (L + i) μ' ∧ Fw j base C μ μ' ∧ Jar j (k + 1 + i) μ') ⟨_, rfl, Nat.zero_le _, W1, F1, J1⟩ (fun _ _ _ _ => stay_nil _ _) (fun i x σ μ2 Q' hx hP q1 => ?_) ?_
  · obtain ⟨b, rfl, _, W2, F2, J2⟩ := hP
    obtain ⟨hi, rfl⟩ := rng_get _ hx
    have hm : atI ((List.range C).map fun c => PV.ref (base + c)) (i : Int) = some (.ref (base + i)) := by
      rw [atI_nat (by simpa using hi)]
      simp
    have gM2 : μ2[MD]? = some (.lst ((List.range C).map fun c => .ref (base + c))) := by rw [F2.2 _ (get_lt gM) hM.1 hM.2, gM]
    simp [gM2, hm]
    refine take_ok g.take (n + 1) J2 (by omega) (by omega) (by omega) fun t l ht J3 => ?_
    have f3 : Fr j μ2 (μ2.set j l) := (Fr.refl j μ2).set l
    by_cases h0 : t = 0
    · subst h0
      obtain ⟨μ3, e3, W3, J4, F3⟩ := (W2.fr f3 hj).ext hi J3 hj (zs := [.int i]) (d := 1) ⟨[i], rfl, fun z hz => by simp at hz; omega⟩ (by simp) (by omega) (b := .l _) rfl
      simp [e3]
      exact q1 _ _ ⟨_, rfl, hi, W3, (F2.fr f3).trans F3, by rw [← Nat.add_assoc]; exact J4⟩
    · obtain ⟨μ3, e3, W3, J4, F3⟩ := (W2.fr f3 hj).ext hi J3 hj (zs := []) (d := 1) In.nil (by simp) (by omega) (b := .l []) rfl
      simp [h0, e3]
      exact q1 _ _ ⟨_, rfl, hi, W3, (F2.fr f3).trans F3, by rw [← Nat.add_assoc]; exact J4⟩
  · rintro σ μ2 ⟨b, rfl, _, W2, F2, J2⟩
    have gM2 : μ2[MD]? = some (.lst ((List.range C).map fun c => .ref (base + c))) := by rw [F2.2 _ (get_lt gM) hM.1 hM.2, gM]
    rw [List.length_map, List.length_range] at W2 J2
    simp [gM2]
    -- the reads of each cell
    have hch : ∃ nsf : Nat → List Int, ∀ c, c < C → μ2[base + c]? = some (.lst ((nsf c).map .int)) ∧ (∀ z ∈ nsf c, 0 ≤ z ∧ z < C) ∧ (nsf c).length ≤ L + C := by
      have hex : ∀ c, ∃ os : List Int, c < C → μ2[base + c]? = some (.lst (os.map .int)) ∧ (∀ z ∈ os, 0 ≤ z ∧ z < C) ∧ os.length ≤ L + C := fun c => by
        by_cases hc : c < C
        · obtain ⟨ns, g1, ⟨os, rfl, g2⟩, g3⟩ := W2 c hc
          exact ⟨os, fun _ => ⟨g1, g2, by simpa using g3⟩⟩
        · exact ⟨[], fun h => absurd h hc⟩
      exact ⟨fun c => Classical.choose (hex c), fun c => Classical.choose_spec (hex c)⟩
    obtain ⟨nsf, hns⟩ := hch
    let rs : List (List Int) := (List.range C).map fun c => sortD (nsf c)
    have hrl : rs.length = C := by simp [rs]
    have hweb : Web rs := ⟨by omega, fun r hr => by
      obtain ⟨c, hc, rfl⟩ := List.mem_map.mp hr
      rw [hrl]
      exact sortD_lot (hns c (by simpa using hc)).2.1⟩
    refine OK.comp (fun i acc μ' => μ' = μ2 ∧ acc = (List.range i).map fun c => lotP (sortD (nsf c))) ⟨rfl, rfl⟩ (fun i acc μ' h => by rw [h.1]; exact stay_self _ _) (by simp; omega) (fun i acc μ' h => by rw [h.2]; simp) (fun i x acc μ' Q' hx hP q1 q2 => ?_) ?_
    · obtain ⟨rfl, rfl⟩ := hP
      obtain ⟨hi, rfl⟩ := rng_get _ hx
      obtain ⟨g1, g2, g3⟩ := hns i hi
      have hl := (sortD_lot g2).len
      have hs1 : (sortD (nsf i)).length < 64 := by omega
      have hs2 : (nsf i).length < 4000 := by omega
      have es : sortSetA μ' (.v (.ref (base + i))) = some (.l ((sortD (nsf i)).map .int)) := by
        unfold sortSetA
        rw [sview_ref, mview_ref, g1]
        simp only [Option.bind_some, intsOf_map]
        rw [if_pos ⟨hs1, hs2⟩]
      simp [es]
      exact q1 _ _ ⟨rfl, by rw [List.range_succ]; simp⟩
    · rintro acc μ' ⟨rfl, rfl⟩
      have e : ((List.range C).map fun c => PV.ref (base + c)).length = C := by simp
      rw [e]
      have := q rs μ' hweb F2 (J2.mono (by omega))
      have e2 : webP rs = .tup ((List.range C).map fun c => lotP (sortD (nsf c))) := by simp [webP, rs]
      rw [e2] at this
      simpa using this
theorem ywB_ok {j k C : Nat} {μ : Mu} (J : Jar j k μ) (hk : k < 2 ^ 57) (hC : C ≤ 60) {Q : PV → Mu → Prop} (q : ∀ rs μ', Web rs → Fr j μ μ' → Jar j (k + 3990) μ' → Q (webP rs) μ') :
    OK ((ex (wd G (callN G (n + 2))) ywB [some (.ref j), some (.int C), none, none, none, none, none, none, none] μ).bind outO) Q := by
  have hj := J.lt
  have hsm : Sm (C : Int) := Sm.nat (by omega)
  have hC2 : C ≤ 16777216 := by omega
  simp [ywB]
  refine take_ok g.take (n + 1) J (by omega) (by decide) (by decide) fun s l hs J1 => ?_
  have f1 : Fr j μ (μ.set j l) := (Fr.refl j μ).set l
  have hl1 : (μ.set j l).length = μ.length := by simp
  generalize μ.set j l = μ1 at J1 f1 hl1
  simp [hsm, hC2]
  refine mixed_ok g.take g.mixed n (xs := (List.range C).map fun (k : Nat) => .int (k : Int)) (J1.app _) (by simp; omega) (by simp) (by simp; omega) (by simp; omega) fun M os μ2 gM lM lO hO f2 J2 => ?_
  have f2' : Fr j μ1 μ2 := ((Fr.refl j μ1).app _).trans f2
  have hos : In C os := In.of fun y hy => by
    obtain ⟨c, hc, rfl⟩ := List.mem_map.mp (hO y hy)
    have : c < C := by simpa using hc
    exact ⟨c, rfl, by omega, by omega⟩
  simp only [List.length_map, List.length_range, List.length_append, List.length_cons, List.length_nil] at lO J2 lM
  have hlM : M < μ2.length := get_lt gM
  have hMj : M ≠ j := by omega
  simp [hsm]
  refine empties_ok (by simp) (fun x hx => by simp) (by simp; omega) fun μ3 ap3 l3 g3 => ?_
  simp only [List.length_map, List.length_range] at l3 g3
  have hj2 : j < μ2.length := J2.lt
  simp [hsm]
  have gMD : (μ3 ++ [MO.lst ((List.range C).map fun c => .ref (μ2.length + c))])[μ3.length]? = some (.lst ((List.range C).map fun c => .ref (μ2.length + c))) := by simp
  have ap4 : Ap μ2 (μ3 ++ [MO.lst ((List.range C).map fun c => .ref (μ2.length + c))]) := ap3.app _
  have W4 : Wb μ2.length C 0 (μ3 ++ [MO.lst ((List.range C).map fun c => .ref (μ2.length + c))]) := fun c hc => ⟨[], get_app (g3 c hc), In.nil, by simp⟩
  have f04 := (f1.trans f2').trans (ap4.fr j)
  have hl4 : (μ3 ++ [MO.lst ((List.range C).map fun c => PV.ref (μ2.length + c))]).length = μ2.length + C + 1 := by simp [l3]
  have gO4 := ap4.get gM
  have J4 := ap4.jar J2
  have e3 : μ3.length = μ2.length + C := l3
  generalize (μ3 ++ [MO.lst ((List.range C).map fun c => PV.ref (μ2.length + c))]) = μ4 at gMD ap4 W4 f04 hl4 gO4 J4
  refine OK.forN (fun i σ μ' => ∃ b a6, σ = [some (.ref j), some (.int C), some (.int s), some (.ref M), some (.ref μ3.length), b, a6, none, none] ∧ i ≤ C ∧ Wb μ2.length C (61 * i) μ' ∧ Fw j μ2.length C μ4 μ' ∧ Jar j (k + 1 + C + 62 * i) μ') ⟨_, _, rfl, Nat.zero_le _, W4, Fw.refl _ _ _ _, J4⟩ (fun _ _ _ _ => stay_nil _ _) (fun i x σ μ' Q' hx hP q1 => ?_) ?_
  · obtain ⟨b, a6, rfl, _, W5, F5, J5⟩ := hP
    obtain ⟨hi, rfl⟩ := rng_get _ hx
    simp
    refine turn_ok g n J5 (by omega) hC hi (by omega) (by omega) W5 (by omega) hos (by omega) (OR := M) (MD := μ3.length) (by rw [F5.2 M (by omega) hMj (.inl hlM), gO4]) (by rw [F5.2 _ (by omega) (by omega) (.inr (by omega)), gMD]) ⟨hMj, .inl hlM⟩ ⟨by omega, .inr (by omega)⟩ fun b μ6 W6 F6 J6 => ?_
    refine q1 _ _ ⟨_, _, rfl, hi, ?_, F5.trans F6, ?_⟩
    · have e : 61 * (i + 1) = 61 * i + 61 := by omega
      rw [e]
      exact W6
    · have e : k + 1 + C + 62 * (i + 1) = k + 1 + C + 62 * i + 62 := by omega
      rw [e]
      exact J6
  · rintro σ μ5 ⟨b, a6, rfl, _, W5, F5, J5⟩
    rw [List.length_map, List.length_range] at W5 J5
    have gM5 : μ5[μ3.length]? = some (.lst ((List.range C).map fun c => .ref (μ2.length + c))) := by rw [F5.2 _ (by omega) (by omega) (.inr (by omega)), gMD]
    have hl5 := F5.1
    have := ywE_ok g n (base := μ2.length) (MD := μ3.length) J5 (by omega) hC (by omega) W5 (by omega) gM5 ⟨by omega, .inr (by omega)⟩ (by omega) (a2 := some (.int s)) (a3 := some (.ref M)) (a5 := b) (a6 := a6) (a7 := none) (Q := Q) fun rs μ6 hw F6 J6 => q rs μ6 hw ?_ (J6.mono (by omega))
    · simpa using this
    · have hle : μ.length ≤ μ2.length := by
        have := (f1.trans f2').1
        omega
      refine ⟨Nat.le_trans f04.1 (Nat.le_trans F5.1 F6.1), fun a ha hja => ?_⟩
      rw [F6.2 a (by omega) hja (.inl (by omega)), F5.2 a (by omega) hja (.inl (by omega)), f04.2 a ha hja]
theorem yw_web_ok {j k : Nat} {μ : Mu} (J : Jar j k μ) (hk : k < 2 ^ 56) {Q : PV → Mu → Prop} (q : ∀ rs μ', Web rs → Fr j μ μ' → Jar j (k + 4000) μ' → Q (webP rs) μ') : OK (callN G (n + 3) "_law_yw_web" [.ref j] μ) Q := by
  have hj := J.lt
  have hN : i_law_yw_web.N.length - i_law_yw_web.ps.length = 8 := rfl
  rw [callN_eq (n + 2) g.yw_web rfl, yw_body, hN]
  simp [ywA]
  refine one_ok g.take g.one n (xs := [.int 0, .int 1, .int 2, .int 3, .int 3, .int 4, .int 4, .int 5, .int 5, .int 6, .int 7]) (J.app _) (by omega) (by simp) (by simp; omega) (by simp) (by simp) fun y l hy J1 => ?_
  obtain ⟨C, rfl, hC⟩ : ∃ C : Nat, y = .int C ∧ C ≤ 60 := by
    simp only [List.mem_cons, List.not_mem_nil, or_false] at hy
    rcases hy with rfl | rfl | rfl | rfl | rfl | rfl | rfl | rfl | rfl | rfl | rfl
    · exact ⟨0, rfl, by omega⟩
    · exact ⟨1, rfl, by omega⟩
    · exact ⟨2, rfl, by omega⟩
    · exact ⟨3, rfl, by omega⟩
    · exact ⟨3, rfl, by omega⟩
    · exact ⟨4, rfl, by omega⟩
    · exact ⟨4, rfl, by omega⟩
    · exact ⟨5, rfl, by omega⟩
    · exact ⟨5, rfl, by omega⟩
    · exact ⟨6, rfl, by omega⟩
    · exact ⟨7, rfl, by omega⟩
  have f1 : Fr j μ ((μ ++ [MO.lst [.int 0, .int 1, .int 2, .int 3, .int 3, .int 4, .int 4, .int 5, .int 5, .int 6, .int 7]]).set j l) := ((Fr.refl j μ).app _).set l
  generalize (μ ++ [MO.lst [.int 0, .int 1, .int 2, .int 3, .int 3, .int 4, .int 4, .int 5, .int 5, .int 6, .int 7]]).set j l = μ1 at J1 f1
  simp
  refine take_ok g.take (n + 1) J1 (by omega) (by decide) (by decide) fun t l ht J2 => ?_
  have f2 : Fr j μ (μ1.set j l) := f1.set l
  generalize μ1.set j l = μ2 at J2 f2
  by_cases h0 : t = 0
  · subst h0
    simp
    have := ywB_ok g n (C := 60) J2 (by omega) (by omega) (Q := Q) fun rs μ3 hw f3 J3 => q rs μ3 hw (f2.trans f3) (J3.mono (by omega))
    simpa using this
  · simp [h0]
    have := ywB_ok g n (C := C) J2 (by omega) hC (Q := Q) fun rs μ3 hw f3 J3 => q rs μ3 hw (f2.trans f3) (J3.mono (by omega))
    simpa using this
end
end
end Ev

set_option Elab.async false
set_option linter.all false
set_option maxRecDepth 100000
/-! EvZ0: the terms of k05's defs, printed by genz0.py. Own work. -/
namespace Ev
open PySem PySem.Spec PyProof.Rows L2
def iwrong_path : Fd := ⟨["web", "thing"], ["web", "thing", "at", "cell"],
  .seq (.ife (.or (.not (.isi (.var 1) .tuple)) (.cmp .eq (.var 1) (.tup .nil))) (.seq (.ret (.tup (.cons (.str "BadPath") (.cons (.neg (.int 1)) .nil)))) .nil) (.nil)) (.seq (.ife (.cmp .gt (.bi .len (.cons (.var 1) .nil)) (.glo "MOST_LONG")) (.seq (.ret (.tup (.cons (.str "TooMany") (.cons (.bi .len (.cons (.var 1) .nil)) .nil)))) .nil) (.nil)) (.seq (.forr (.tup (.cons (.nm 2) (.cons (.nm 3) .nil))) (.enum (.var 1)) (.seq (.ife (.or (.not (.call "whole" (.cons (.var 3) (.cons (.int 0) (.cons (.bin .sub (.bi .len (.cons (.var 0) .nil)) (.int 1)) .nil))))) (.and (.cmp .gt (.var 2) (.int 0)) (.cmp .nin (.ix (.var 1) (.bin .sub (.var 2) (.int 1))) (.ix (.var 0) (.var 3))))) (.seq (.ret (.tup (.cons (.str "BadPath") (.cons (.var 2) .nil)))) .nil) (.nil)) .nil)) (.seq (.ret .non) .nil)))⟩
def iasked_path : Fd := ⟨["web", "path"], ["web", "path", "wrong"],
  .seq (.asg (.nm 2) (.call "wrong_path" (.cons (.var 0) (.cons (.var 1) .nil)))) (.seq (.ife (.isN (.var 2)) (.seq .retN .nil) (.nil)) (.seq (.ife (.cmp .eq (.ix (.var 2) (.int 0)) (.str "TooMany")) (.seq (.raise "TooMany" (.ix (.var 2) (.int 1))) .nil) (.nil)) (.seq (.raise "BadPath" (.ix (.var 2) (.int 1))) .nil)))⟩
def iwrong_row : Fd := ⟨["C", "thing"], ["C", "thing", "at", "cell"],
  .seq (.ife (.not (.isi (.var 1) .tuple)) (.seq (.ret (.tup (.cons (.str "BadRow") (.cons (.neg (.int 1)) .nil)))) .nil) (.nil)) (.seq (.ife (.cmp .gt (.bi .len (.cons (.var 1) .nil)) (.glo "MOST_LONG")) (.seq (.ret (.tup (.cons (.str "TooMany") (.cons (.bi .len (.cons (.var 1) .nil)) .nil)))) .nil) (.nil)) (.seq (.forr (.tup (.cons (.nm 2) (.cons (.nm 3) .nil))) (.enum (.var 1)) (.seq (.ife (.not (.call "whole" (.cons (.var 3) (.cons (.int 0) (.cons (.bin .sub (.var 0) (.int 1)) .nil))))) (.seq (.ret (.tup (.cons (.str "BadRow") (.cons (.var 2) .nil)))) .nil) (.nil)) .nil)) (.seq (.ret .non) .nil)))⟩
def iasked_row : Fd := ⟨["web", "row"], ["web", "row", "wrong"],
  .seq (.asg (.nm 2) (.call "wrong_row" (.cons (.bi .len (.cons (.var 0) .nil)) (.cons (.var 1) .nil)))) (.seq (.ife (.isN (.var 2)) (.seq .retN .nil) (.nil)) (.seq (.ife (.cmp .eq (.ix (.var 2) (.int 0)) (.str "TooMany")) (.seq (.raise "TooMany" (.ix (.var 2) (.int 1))) .nil) (.nil)) (.seq (.raise "BadRow" (.ix (.var 2) (.int 1))) .nil)))⟩
def iplaces_in : Fd := ⟨["row", "path"], ["row", "path", "found", "at", "cell"],
  .seq (.asg (.nm 2) (.lst .nil)) (.seq (.forr (.tup (.cons (.nm 3) (.cons (.nm 4) .nil))) (.enum (.var 0)) (.seq (.ife (.and (.cmp .lt (.bi .len (.cons (.var 2) .nil)) (.bi .len (.cons (.var 1) .nil))) (.cmp .eq (.var 4) (.ix (.var 1) (.bi .len (.cons (.var 2) .nil))))) (.seq (.expr (.app (.var 2) (.var 3))) .nil) (.nil)) .nil)) (.seq (.ret (.var 2)) .nil))⟩
def iasked_built : Fd := ⟨["web", "row", "path"], ["web", "row", "path"],
  .seq (.expr (.call "asked_web" (.cons (.var 0) .nil))) (.seq (.expr (.call "asked_row" (.cons (.var 0) (.cons (.var 1) .nil)))) (.seq (.expr (.call "asked_path" (.cons (.var 0) (.cons (.var 2) .nil)))) .nil))⟩
def imade_row : Fd := ⟨["web", "thing"], ["web", "thing"],
  .seq (.expr (.call "asked_web" (.cons (.var 0) .nil))) (.seq (.expr (.call "asked_row" (.cons (.var 0) (.cons (.var 1) .nil)))) (.seq (.ret (.var 1)) .nil))⟩
def iis_row : Fd := ⟨["web", "thing"], ["web", "thing"],
  .seq (.expr (.call "asked_web" (.cons (.var 0) .nil))) (.seq (.ret (.isN (.call "wrong_row" (.cons (.bi .len (.cons (.var 0) .nil)) (.cons (.var 1) .nil))))) .nil)⟩
def ibuilt_length : Fd := ⟨["web", "row", "path"], ["web", "row", "path"],
  .seq (.expr (.call "asked_built" (.cons (.var 0) (.cons (.var 1) (.cons (.var 2) .nil))))) (.seq (.ret (.bi .len (.cons (.call "places_in" (.cons (.var 1) (.cons (.var 2) .nil))) .nil))) .nil)⟩
def ibuilt : Fd := ⟨["web", "row", "path"], ["web", "row", "path"],
  .seq (.expr (.call "asked_built" (.cons (.var 0) (.cons (.var 1) (.cons (.var 2) .nil))))) (.seq (.ret (.cmp .eq (.bi .len (.cons (.call "places_in" (.cons (.var 1) (.cons (.var 2) .nil))) .nil)) (.bi .len (.cons (.var 2) .nil)))) .nil)⟩
def ifirst_places : Fd := ⟨["web", "row", "path"], ["web", "row", "path"],
  .seq (.expr (.call "asked_built" (.cons (.var 0) (.cons (.var 1) (.cons (.var 2) .nil))))) (.seq (.ret (.bi .tuple (.cons (.call "places_in" (.cons (.var 1) (.cons (.var 2) .nil))) .nil))) .nil)⟩
def i_law_yw_path_fault : Fd := ⟨["web", "thing"], ["web", "thing", "at"],
  .seq (.ife (.or (.not (.isi (.var 1) .tuple)) (.cmp .eq (.var 1) (.tup .nil))) (.seq (.ret (.tup (.cons (.str "BadPath") (.cons (.neg (.int 1)) .nil)))) .nil) (.nil)) (.seq (.ife (.cmp .gt (.bi .len (.cons (.var 1) .nil)) (.int 200)) (.seq (.ret (.tup (.cons (.str "TooMany") (.cons (.bi .len (.cons (.var 1) .nil)) .nil)))) .nil) (.nil)) (.seq (.forr (.nm 2) (.rng (.cons (.bi .len (.cons (.var 1) .nil)) .nil)) (.seq (.ife (.or (.not (.call "_law_yw_is_in" (.cons (.ix (.var 1) (.var 2)) (.cons (.int 0) (.cons (.bin .sub (.bi .len (.cons (.var 0) .nil)) (.int 1)) .nil))))) (.and (.cmp .gt (.var 2) (.int 0)) (.cmp .nin (.ix (.var 1) (.bin .sub (.var 2) (.int 1))) (.ix (.var 0) (.ix (.var 1) (.var 2)))))) (.seq (.ret (.tup (.cons (.str "BadPath") (.cons (.var 2) .nil)))) .nil) (.nil)) .nil)) (.seq (.ret .non) .nil)))⟩
def i_law_yw_row_fault : Fd := ⟨["web", "thing"], ["web", "thing", "at"],
  .seq (.ife (.not (.isi (.var 1) .tuple)) (.seq (.ret (.tup (.cons (.str "BadRow") (.cons (.neg (.int 1)) .nil)))) .nil) (.nil)) (.seq (.ife (.cmp .gt (.bi .len (.cons (.var 1) .nil)) (.int 200)) (.seq (.ret (.tup (.cons (.str "TooMany") (.cons (.bi .len (.cons (.var 1) .nil)) .nil)))) .nil) (.nil)) (.seq (.forr (.nm 2) (.rng (.cons (.bi .len (.cons (.var 1) .nil)) .nil)) (.seq (.ife (.not (.call "_law_yw_is_in" (.cons (.ix (.var 1) (.var 2)) (.cons (.int 0) (.cons (.bin .sub (.bi .len (.cons (.var 0) .nil)) (.int 1)) .nil))))) (.seq (.ret (.tup (.cons (.str "BadRow") (.cons (.var 2) .nil)))) .nil) (.nil)) .nil)) (.seq (.ret .non) .nil)))⟩
def i_law_yw_web_of : Fd := ⟨["jar"], ["jar", "web"],
  .seq (.asg (.nm 1) (.call "_law_yw_web" (.cons (.var 0) .nil))) (.seq (.ret (.ite (.cmp .ne (.var 1) (.tup .nil)) (.var 1) (.tup (.cons (.tup (.cons (.int 0) .nil)) .nil)))) .nil)⟩
def i_law_yw_path : Fd := ⟨["jar", "web", "most"], ["jar", "web", "most", "best", "go", "made", "step", "after"],
  .seq (.asg (.nm 3) (.tup (.cons (.call "_law_take" (.cons (.var 0) (.cons (.bi .len (.cons (.var 1) .nil)) .nil))) .nil))) (.seq (.forr (.nm 4) (.rng (.cons (.int 3) .nil)) (.seq (.asg (.nm 5) (.lst (.cons (.call "_law_take" (.cons (.var 0) (.cons (.bi .len (.cons (.var 1) .nil)) .nil))) .nil))) (.seq (.forr (.nm 6) (.rng (.cons (.call "_law_take" (.cons (.var 0) (.cons (.var 2) .nil))) .nil)) (.seq (.asg (.nm 7) (.call "_law_yw_readers" (.cons (.var 1) (.cons (.ix (.var 5) (.neg (.int 1))) .nil)))) (.seq (.ife (.cmp .eq (.var 7) (.tup .nil)) (.seq .brk .nil) (.nil)) (.seq (.expr (.app (.var 5) (.call "_law_one" (.cons (.var 0) (.cons (.var 7) .nil))))) .nil)))) (.seq (.asg (.nm 3) (.ite (.cmp .gt (.bi .len (.cons (.var 5) .nil)) (.bi .len (.cons (.var 3) .nil))) (.bi .tuple (.cons (.var 5) .nil)) (.var 3))) .nil)))) (.seq (.ret (.var 3)) .nil))⟩
def i_law_yw_row : Fd := ⟨["jar", "web", "most"], ["jar", "web", "most", "size", "sort_now", "made", "at", "few", "x"],
  .seq (.par2 3 4 (.call "_law_take" (.cons (.var 0) (.cons (.bin .add (.var 2) (.int 1)) .nil))) (.call "_law_take" (.cons (.var 0) (.cons (.int 4) .nil)))) (.seq (.ife (.cmp .eq (.var 1) (.tup .nil)) (.seq (.ret (.tup .nil)) .nil) (.nil)) (.seq (.asg (.nm 5) (.comp (.nm 6) (.rng (.cons (.var 3) .nil)) .nil (.call "_law_take" (.cons (.var 0) (.cons (.bi .len (.cons (.var 1) .nil)) .nil))))) (.seq (.ife (.cmp .eq (.var 4) (.int 0)) (.seq (.asg (.nm 7) (.lst (.cons (.call "_law_take" (.cons (.var 0) (.cons (.bi .len (.cons (.var 1) .nil)) .nil))) (.cons (.call "_law_take" (.cons (.var 0) (.cons (.bi .len (.cons (.var 1) .nil)) .nil))) .nil)))) (.seq (.asg (.nm 5) (.comp (.nm 6) (.rng (.cons (.var 3) .nil)) .nil (.call "_law_one" (.cons (.var 0) (.cons (.var 7) .nil))))) .nil)) (.nil)) (.seq (.ife (.cmp .eq (.var 4) (.int 1)) (.seq (.asg (.nm 5) (.lst .nil)) (.seq (.forr (.nm 8) (.call "_law_yw_path" (.cons (.var 0) (.cons (.var 1) (.cons (.bi .max2 (.cons (.int 1) (.cons (.var 2) .nil))) .nil)))) (.seq (.expr (.mt .extend (.var 5) (.cons (.bin .add (.bin .mul (.lst (.cons (.call "_law_take" (.cons (.var 0) (.cons (.bi .len (.cons (.var 1) .nil)) .nil))) .nil)) (.call "_law_take" (.cons (.var 0) (.cons (.int 2) .nil)))) (.bin .mul (.lst (.cons (.var 8) .nil)) (.bin .add (.int 1) (.bi .int (.cons (.cmp .eq (.call "_law_take" (.cons (.var 0) (.cons (.int 4) .nil))) (.int 0)) .nil))))) .nil))) .nil)) .nil)) (.nil)) (.seq (.ret (.bi .tuple (.cons (.slice (.var 5) .nil (.cons (.var 2) .nil)) .nil))) .nil)))))⟩
def i_law_yw_firsts : Fd := ⟨["row", "path"], ["row", "path", "made", "at", "x", "found", "k"],
  .seq (.par2 2 3 (.lst .nil) (.int 0)) (.seq (.forr (.nm 4) (.var 1) (.seq (.asg (.nm 5) (.comp (.nm 6) (.rng (.cons (.var 3) (.cons (.bi .len (.cons (.var 0) .nil)) .nil))) (.cons (.cmp .eq (.ix (.var 0) (.var 6)) (.var 4)) .nil) (.var 6))) (.seq (.ife (.cmp .eq (.var 5) (.lst .nil)) (.seq (.ret (.bi .tuple (.cons (.var 2) .nil))) .nil) (.nil)) (.seq (.expr (.app (.var 2) (.ix (.var 5) (.int 0)))) (.seq (.asg (.nm 3) (.bin .add (.ix (.var 5) (.int 0)) (.int 1))) .nil))))) (.seq (.ret (.bi .tuple (.cons (.var 2) .nil))) .nil))⟩
def i_law_yw_odd_path : Fd := ⟨["jar", "web"], ["jar", "web", "path", "at", "found", "odd", "lone", "x", "thing"],
  .seq (.asg (.nm 2) (.call "_law_yw_path" (.cons (.var 0) (.cons (.var 1) (.cons (.int 6) .nil))))) (.seq (.asg (.nm 3) (.call "_law_take" (.cons (.var 0) (.cons (.bi .len (.cons (.var 2) .nil)) .nil)))) (.seq (.asg (.nm 4) (.lst (.cons .non (.cons (.tup .nil) (.cons (.lst .nil) (.cons (.bi .list (.cons (.var 2) .nil)) (.cons (.int 0) (.cons (.str "path") (.cons (.bin .mul (.tup (.cons (.ix (.var 2) (.int 0)) .nil)) (.int 201)) (.cons (.bin .mul (.tup (.cons .non .nil)) (.int 201)) (.cons (.bin .add (.var 2) (.tup (.cons (.bi .len (.cons (.var 1) .nil)) .nil))) (.cons (.bin .add (.var 2) (.tup (.cons (.neg (.int 1)) .nil))) .nil)))))))))))) (.seq (.expr (.mt .extend (.var 4) (.cons (.lst (.cons (.tup (.cons (.bl true) .nil)) (.cons (.tup (.cons .non .nil)) .nil))) .nil))) (.seq (.expr (.mt .extend (.var 4) (.cons (.comp (.nm 5) (.lst (.cons (.bi .len (.cons (.var 1) .nil)) (.cons (.neg (.int 1)) (.cons .non (.cons (.bl true) (.cons (.str "0") (.cons (.tup (.cons (.int 0) .nil)) .nil))))))) .nil (.bin .add (.bin .add (.slice (.var 2) .nil (.cons (.var 3) .nil)) (.tup (.cons (.var 5) .nil))) (.slice (.var 2) (.cons (.bin .add (.var 3) (.int 1)) .nil) .nil))) .nil))) (.seq (.asg (.nm 6) (.comp (.nm 7) (.rng (.cons (.bi .len (.cons (.var 1) .nil)) .nil)) (.cons (.cmp .nin (.ix (.var 2) (.neg (.int 1))) (.ix (.var 1) (.var 7))) .nil) (.var 7))) (.seq (.expr (.mt .extend (.var 4) (.cons (.bin .add (.comp (.nm 7) (.var 6) .nil (.bin .add (.var 2) (.tup (.cons (.var 7) .nil)))) (.comp (.nm 7) (.var 6) .nil (.bin .add (.var 2) (.tup (.cons (.var 7) (.cons .non .nil)))))) .nil))) (.seq (.asg (.nm 8) (.call "_law_one" (.cons (.var 0) (.cons (.var 4) .nil)))) (.seq (.ret (.tup (.cons (.var 8) (.cons (.call "_law_yw_path_fault" (.cons (.var 1) (.cons (.var 8) .nil))) .nil)))) .nil))))))))⟩
def i_law_yw_odd_row : Fd := ⟨["jar", "web"], ["jar", "web", "row", "at", "found", "odd", "thing"],
  .seq (.asg (.nm 2) (.call "_law_yw_row" (.cons (.var 0) (.cons (.var 1) (.cons (.int 6) .nil))))) (.seq (.asg (.nm 3) (.call "_law_take" (.cons (.var 0) (.cons (.bin .add (.bi .len (.cons (.var 2) .nil)) (.int 1)) .nil)))) (.seq (.asg (.nm 4) (.lst (.cons .non (.cons (.lst .nil) (.cons (.bi .list (.cons (.var 2) .nil)) (.cons (.int 0) (.cons (.str "row") (.cons (.tup (.cons (.bi .len (.cons (.var 1) .nil)) .nil)) (.cons (.bin .mul (.tup (.cons .non .nil)) (.int 201)) (.cons (.bin .mul (.tup (.cons (.int 0) .nil)) (.int 201)) (.cons (.bin .add (.var 2) (.tup (.cons (.bl true) .nil))) (.cons (.bin .add (.var 2) (.tup (.cons (.neg (.int 1)) .nil))) .nil)))))))))))) (.seq (.expr (.mt .extend (.var 4) (.cons (.comp (.nm 5) (.lst (.cons (.bi .len (.cons (.var 1) .nil)) (.cons (.neg (.int 1)) (.cons .non (.cons (.bl true) (.cons (.str "0") (.cons (.tup (.cons (.int 0) .nil)) (.cons (.bin .pow (.int 10) (.int 20)) .nil)))))))) .nil (.bin .add (.bin .add (.slice (.var 2) .nil (.cons (.var 3) .nil)) (.tup (.cons (.var 5) .nil))) (.slice (.var 2) (.cons (.var 3) .nil) .nil))) .nil))) (.seq (.asg (.nm 6) (.call "_law_one" (.cons (.var 0) (.cons (.var 4) .nil)))) (.seq (.ret (.tup (.cons (.var 6) (.cons (.call "_law_yw_row_fault" (.cons (.var 1) (.cons (.var 6) .nil))) .nil)))) .nil)))))⟩
def i_law_n5_asked : Fd := ⟨["web", "row", "path"], ["web", "row", "path"],
  .seq (.ret (.lst (.cons (.call "first_places" (.cons (.var 0) (.cons (.var 1) (.cons (.var 2) .nil)))) (.cons (.call "built_length" (.cons (.var 0) (.cons (.var 1) (.cons (.var 2) .nil)))) (.cons (.call "built" (.cons (.var 0) (.cons (.var 1) (.cons (.var 2) .nil)))) .nil))))) .nil⟩
def i_law_n5_right : Fd := ⟨["web", "row", "path"], ["web", "row", "path", "owed", "told_now"],
  .seq (.asg (.nm 3) (.call "_law_yw_firsts" (.cons (.var 1) (.cons (.var 2) .nil)))) (.seq (.asg (.nm 4) (.heard "_law_n5_heard" (.call "_law_n5_asked" (.cons (.var 0) (.cons (.var 1) (.cons (.var 2) .nil)))))) (.seq (.ret (.call "_law_yq_same" (.cons (.var 4) (.cons (.tup (.cons (.str "told") (.cons (.lst (.cons (.var 3) (.cons (.bi .len (.cons (.var 3) .nil)) (.cons (.cmp .eq (.bi .len (.cons (.var 3) .nil)) (.bi .len (.cons (.var 2) .nil))) .nil)))) .nil))) .nil)))) .nil))⟩
def i_law_n5_form_right : Fd := ⟨["web", "thing"], ["web", "thing", "owed", "told_now"],
  .seq (.asg (.nm 2) (.call "_law_yw_row_fault" (.cons (.var 0) (.cons (.var 1) .nil)))) (.seq (.asg (.nm 3) (.lst (.cons (.heard "_law_n5_heard" (.call "made_row" (.cons (.var 0) (.cons (.var 1) .nil)))) .nil))) (.seq (.expr (.app (.var 3) (.heard "_law_n5_heard" (.call "is_row" (.cons (.var 0) (.cons (.var 1) .nil)))))) (.seq (.ret (.call "_law_yq_same" (.cons (.var 3) (.cons (.lst (.cons (.ite (.isN (.var 2)) (.tup (.cons (.str "told") (.cons (.var 1) .nil))) (.var 2)) (.cons (.tup (.cons (.str "told") (.cons (.isN (.var 2)) .nil))) .nil))) .nil)))) .nil)))⟩
def i_law_n5_refused_right : Fd := ⟨["jar", "web"], ["jar", "web", "odd_now", "args_now", "due", "told_now", "few", "other"],
  .seq (.asg (.nm 2) (.lst (.cons (.call "_law_yw_odd_web" (.cons (.var 0) (.cons (.var 1) .nil))) (.cons (.call "_law_yw_odd_row" (.cons (.var 0) (.cons (.var 1) .nil))) (.cons (.call "_law_yw_odd_path" (.cons (.var 0) (.cons (.var 1) .nil))) .nil))))) (.seq (.asg (.tup (.cons (.nm 3) (.cons (.nm 4) .nil))) (.call "_law_yw_arguments" (.cons (.var 0) (.cons (.lst (.cons (.var 1) (.cons (.tup .nil) (.cons (.tup (.cons (.int 0) .nil)) .nil)))) (.cons (.var 2) .nil))))) (.seq (.asg (.nm 5) (.lst (.cons (.heard "_law_n5_heard" (.call "first_places" (.cons (.ix (.var 3) (.int 0)) (.cons (.ix (.var 3) (.int 1)) (.cons (.ix (.var 3) (.int 2)) .nil))))) .nil))) (.seq (.expr (.app (.var 5) (.heard "_law_n5_heard" (.call "built_length" (.cons (.ix (.var 3) (.int 0)) (.cons (.ix (.var 3) (.int 1)) (.cons (.ix (.var 3) (.int 2)) .nil))))))) (.seq (.expr (.app (.var 5) (.heard "_law_n5_heard" (.call "built" (.cons (.ix (.var 3) (.int 0)) (.cons (.ix (.var 3) (.int 1)) (.cons (.ix (.var 3) (.int 2)) .nil))))))) (.seq (.asg (.tup (.cons (.nm 6) (.cons (.nm 7) .nil))) (.call "_law_yw_arguments" (.cons (.var 0) (.cons (.lst (.cons (.var 1) (.cons (.tup .nil) .nil))) (.cons (.slice (.var 2) .nil (.cons (.int 2) .nil)) .nil))))) (.seq (.expr (.app (.var 5) (.heard "_law_n5_heard" (.call "made_row" (.cons (.ix (.var 6) (.int 0)) (.cons (.ix (.var 6) (.int 1)) .nil)))))) (.seq (.expr (.app (.var 5) (.heard "_law_n5_heard" (.call "is_row" (.cons (.ix (.ix (.var 2) (.int 0)) (.int 0)) (.cons (.tup .nil) .nil)))))) (.seq (.ret (.call "_law_yq_same" (.cons (.var 5) (.cons (.lst (.cons (.var 4) (.cons (.var 4) (.cons (.var 4) (.cons (.var 7) (.cons (.ix (.ix (.var 2) (.int 0)) (.int 1)) .nil)))))) .nil)))) .nil))))))))⟩
end Ev

set_option Elab.async false
set_option linter.all false
set_option maxRecDepth 100000
/-! EvZ1: rows and paths: forms. Own work. -/
namespace Ev
open PySem PySem.Spec PyProof.Rows L2
open Classical
noncomputable section
/-- the first entry that is no number from 0 to C - 1 -/
def rowGo (C : Int) : List PV → Nat → Option Nat
  | [], _ => none
  | x :: xs, a => if wholeB x 0 (C - 1) = true then rowGo C xs (a + 1) else some a
def rowE (C : Int) : PV → Option (String × Int)
  | .tup xs => if 200 < xs.length then some ("TooMany", xs.length) else match rowGo C xs 0 with
    | some a => some ("BadRow", (a : Int))
    | none => none
  | _ => some ("BadRow", -1)
/-- entry p may be followed by x -/
def stepB (rs : List (List Int)) (p : Option PV) (x : PV) : Bool := match x with
  | .int i => decide (0 ≤ i) && decide (i ≤ (rs.length : Int) - 1) && (match p with
    | none => true
    | some (.int j) => decide (j ∈ rs[i.toNat]?.getD [])
    | some _ => false)
  | _ => false
def pathGo (rs : List (List Int)) : List PV → Option PV → Nat → Option Nat
  | [], _, _ => none
  | x :: xs, p, a => if stepB rs p x = true then pathGo rs xs (some x) (a + 1) else some a
def pathE (rs : List (List Int)) : PV → Option (String × Int)
  | .tup xs => if xs = [] then some ("BadPath", -1) else if 200 < xs.length then some ("TooMany", xs.length) else match pathGo rs xs none 0 with
    | some a => some ("BadPath", (a : Int))
    | none => none
  | _ => some ("BadPath", -1)
structure RowG (G : Gm) : Prop where
  wrong_row : G.fns.lookup "wrong_row" = some iwrong_row
  asked_row : G.fns.lookup "asked_row" = some iasked_row
  wrong_path : G.fns.lookup "wrong_path" = some iwrong_path
  asked_path : G.fns.lookup "asked_path" = some iasked_path
  long : G.con.lookup "MOST_LONG" = some (.int 200)
  row_fault : G.fns.lookup "_law_yw_row_fault" = some i_law_yw_row_fault
  path_fault : G.fns.lookup "_law_yw_path_fault" = some i_law_yw_path_fault
  cBR : "BadRow" ∈ G.cls
  cBP : "BadPath" ∈ G.cls
theorem rowGo_cons (C : Int) (x : PV) (xs : List PV) (a : Nat) : rowGo C (x :: xs) a = if wholeB x 0 (C - 1) = true then rowGo C xs (a + 1) else some a := rfl
theorem pathGo_cons (rs : List (List Int)) (x : PV) (xs : List PV) (p : Option PV) (a : Nat) : pathGo rs (x :: xs) p a = if stepB rs p x = true then pathGo rs xs (some x) (a + 1) else some a := rfl
section
variable {G : Gm} (gw : WebG G) (gf : FormG G) (g : RowG G) (n : Nat)
include gw g in
theorem wrong_row_eq {μ : Mu} {p : PV} (hp : Lv2 μ p) (C : Int) : callN G (n + 2) "wrong_row" [.int C, p] μ = .ok (excP (rowE C p)) μ := by
  rw [callN_eq (n + 1) g.wrong_row rfl]
  have e := isA_lv hp.1
  cases p with
  | tup xs =>
    refine OK.toEq ?_
    by_cases h : 200 < xs.length
    · have h' : (200 : Int) < (xs.length : Int) := by omega
      simp [iwrong_row, g.long, h', h, rowE, excP]
    · have h' : ¬ (200 : Int) < (xs.length : Int) := by omega
      simp [iwrong_row, g.long, h']
      refine OK.for (fun i σ μ' => μ' = μ ∧ ∃ a b, σ = [some (.int C), some (.tup xs), a, b] ∧ rowGo C (xs.drop i) i = rowGo C xs 0) (fun q μ' => μ' = μ ∧ ∃ a : Nat, q = .tup [.str "BadRow", .int a] ∧ rowGo C xs 0 = some a) ⟨rfl, none, none, rfl, by simp⟩ (fun _ _ _ _ => stay_nil _ _) (fun k x σ μ' Q' hx hP q1 q2 => ?_) ?_ ?_
      · obtain ⟨rfl, a, b, rfl, hL⟩ := hP
        obtain ⟨hk, rfl⟩ := enum_get hx
        rw [List.drop_eq_getElem_cons hk, rowGo_cons] at hL
        have hw := whole_eq gw.whole n (hp.2 _ rfl _ (List.getElem_mem hk)) 0 (C - 1)
        cases hb : wholeB xs[k] 0 (C - 1) with
        | false =>
          simp [hw, hb]
          rw [hb, if_neg (by simp)] at hL
          exact q2 _ _ ⟨rfl, k, rfl, hL.symm⟩
        | true =>
          simp [hw, hb]
          rw [hb, if_pos rfl] at hL
          exact q1 _ _ ⟨rfl, _, _, rfl, hL⟩
      · rintro σ μ' ⟨rfl, a, b, rfl, hL⟩
        rw [enum_len, List.drop_length] at hL
        simp [rowE, h, ← hL, rowGo, excP]
      · rintro q μ' ⟨rfl, a, rfl, hL⟩
        simp [rowE, h, hL, excP]
  | _ => simp [iwrong_row, e, tyB, rowE, excP]
include gf g in
theorem row_fault_eq {μ : Mu} {p : PV} (hp : Lv2 μ p) (rs : List (List Int)) : callN G (n + 3) "_law_yw_row_fault" [webP rs, p] μ = .ok (excP (rowE rs.length p)) μ := by
  rw [callN_eq (n + 2) g.row_fault rfl]
  have e := isA_lv hp.1
  cases p with
  | tup xs =>
    refine OK.toEq ?_
    by_cases h : 200 < xs.length
    · have h' : (200 : Int) < (xs.length : Int) := by omega
      simp [i_law_yw_row_fault, h', h, rowE, excP]
    · have h' : ¬ (200 : Int) < (xs.length : Int) := by omega
      have hsm : Sm (xs.length : Int) := Sm.nat (by omega)
      simp [i_law_yw_row_fault, h', hsm]
      refine OK.for (fun i σ μ' => μ' = μ ∧ ∃ b, σ = [some (webP rs), some (.tup xs), b] ∧ rowGo rs.length (xs.drop i) i = rowGo rs.length xs 0) (fun q μ' => μ' = μ ∧ ∃ a : Nat, q = .tup [.str "BadRow", .int a] ∧ rowGo rs.length xs 0 = some a) ⟨rfl, none, rfl, by simp⟩ (fun _ _ _ _ => stay_nil _ _) (fun k x σ μ' Q' hx hP q1 q2 => ?_) ?_ ?_
      · obtain ⟨rfl, b, rfl, hL⟩ := hP
        obtain ⟨hk, rfl⟩ := rng_get _ hx
        rw [List.drop_eq_getElem_cons hk, rowGo_cons] at hL
        have hi : atI xs (k : Int) = some xs[k] := atI_nat hk
        have hw := yw_isin_eq gf n (hp.2 _ rfl _ (List.getElem_mem hk)) 0 ((rs.length : Int) - 1)
        cases hb : wholeB xs[k] 0 ((rs.length : Int) - 1) with
        | false =>
          simp [hi, hw, hb]
          rw [hb, if_neg (by simp)] at hL
          exact q2 _ _ ⟨rfl, k, rfl, hL.symm⟩
        | true =>
          simp [hi, hw, hb]
          rw [hb, if_pos rfl] at hL
          exact q1 _ _ ⟨rfl, _, rfl, hL⟩
      · rintro σ μ' ⟨rfl, b, rfl, hL⟩
        have hlen : ((List.range xs.length).map fun (k : Nat) => PV.int (k : Int)).length = xs.length := by simp
        rw [hlen, List.drop_length] at hL
        simp [rowE, h, ← hL, rowGo, excP]
      · rintro q μ' ⟨rfl, a, rfl, hL⟩
        simp [rowE, h, hL, excP]
  | _ => simp [i_law_yw_row_fault, e, tyB, rowE, excP]
end
end
end Ev

set_option Elab.async false
set_option linter.all false
set_option maxRecDepth 100000
/-! EvZ2: paths: forms. Own work. -/
namespace Ev
open PySem PySem.Spec PyProof.Rows L2
open Classical
noncomputable section
theorem stepB_no {rs : List (List Int)} {p : Option PV} {x : PV} (h : wholeB x 0 ((rs.length : Int) - 1) = false) : stepB rs p x = false := by
  cases x with
  | int i =>
    simp only [wholeB] at h
    simp only [stepB, h, Bool.false_and]
  | _ => rfl
theorem stepB_yes {rs : List (List Int)} {x : PV} (h : wholeB x 0 ((rs.length : Int) - 1) = true) : ∃ c : Nat, x = .int c ∧ ∃ hc : c < rs.length, stepB rs none x = true ∧ ∀ j : Int, stepB rs (some (.int j)) x = decide (j ∈ rs[c]) := by
  cases x with
  | int i =>
    simp only [wholeB, Bool.and_eq_true, decide_eq_true_eq] at h
    obtain ⟨c, rfl⟩ := Int.eq_ofNat_of_zero_le h.1
    have hc : c < rs.length := by omega
    have h1 : (0 : Int) ≤ c := by omega
    refine ⟨c, rfl, hc, by simp [stepB, h.2], fun j => by simp [stepB, h.2, hc]⟩
  | _ => cases h
def prevO (xs : List PV) (i : Nat) : Option PV := if i = 0 then none else xs[i - 1]?
section
variable {G : Gm} (gw : WebG G) (gf : FormG G) (g : RowG G) (n : Nat)
include gw g in
theorem wrong_path_eq {μ : Mu} {p : PV} {rs : List (List Int)} (hp : Lv2 μ p) : callN G (n + 2) "wrong_path" [webP rs, p] μ = .ok (excP (pathE rs p)) μ := by
  rw [callN_eq (n + 1) g.wrong_path rfl]
  have e := isA_lv hp.1
  cases p with
  | tup xs =>
    refine OK.toEq ?_
    by_cases h0 : xs = []
    · subst h0
      simp [iwrong_path, pathE, excP]
    have h0' : xs.isEmpty = false := by simpa using h0
    by_cases h : 200 < xs.length
    · have h' : (200 : Int) < (xs.length : Int) := by omega
      simp [iwrong_path, g.long, h', h, h0, h0', pathE, excP]
    · have h' : ¬ (200 : Int) < (xs.length : Int) := by omega
      simp [iwrong_path, g.long, h', h0, h0']
      refine OK.for (fun i σ μ' => μ' = μ ∧ (∃ a b, σ = [some (webP rs), some (.tup xs), a, b]) ∧ pathGo rs (xs.drop i) (prevO xs i) i = pathGo rs xs none 0 ∧ (0 < i → ∃ j : Int, xs[i - 1]? = some (.int j))) (fun q μ' => μ' = μ ∧ ∃ a : Nat, q = .tup [.str "BadPath", .int a] ∧ pathGo rs xs none 0 = some a) ⟨rfl, ⟨none, none, rfl⟩, by simp [prevO], fun h => by omega⟩ (fun _ _ _ _ => stay_nil _ _) (fun k x σ μ' Q' hx hP q1 q2 => ?_) ?_ ?_
      · obtain ⟨rfl, ⟨a, b, rfl⟩, hL, hj⟩ := hP
        obtain ⟨hk, rfl⟩ := enum_get hx
        rw [List.drop_eq_getElem_cons hk, pathGo_cons] at hL
        have hw := whole_eq gw.whole n (hp.2 _ rfl _ (List.getElem_mem hk)) 0 ((rs.length : Int) - 1)
        have next : stepB rs (prevO xs k) xs[k] = true → (∃ c : Nat, xs[k] = .int c) → ∀ a b, Q' (.nx [some (webP rs), some (.tup xs), a, b]) μ' := fun hs hc a b => by
          rw [hs, if_pos rfl] at hL
          refine q1 _ _ ⟨rfl, ⟨_, _, rfl⟩, ?_, fun _ => ?_⟩
          · have : prevO xs (k + 1) = some xs[k] := by simp [prevO, hk]
            rw [this]
            exact hL
          · obtain ⟨c, hc⟩ := hc
            exact ⟨c, by simp [hk, hc]⟩
        have stop : stepB rs (prevO xs k) xs[k] = false → Q' (.rt (.tup [.str "BadPath", .int k])) μ' := fun hs => by
          rw [hs, if_neg (by simp)] at hL
          exact q2 _ _ ⟨rfl, k, rfl, hL.symm⟩
        cases hb : wholeB xs[k] 0 ((rs.length : Int) - 1) with
        | false =>
          simp [hw, hb]
          exact stop (stepB_no hb)
        | true =>
          obtain ⟨c, hc, hcl, s0, s1⟩ := stepB_yes hb
          by_cases hk0 : k = 0
          · subst hk0
            simp [hw, hb]
            exact next (by simpa [prevO] using s0) ⟨c, hc⟩ _ _
          · have hk0' : 0 < k := by omega
            obtain ⟨j, hj⟩ := hj hk0'
            have hk1 : (k : Int) - 1 = ((k - 1 : Nat) : Int) := by omega
            have hpj : atI xs ((k : Int) - 1) = some (.int j) := by
              rw [hk1, atI_nat (by omega)]
              rw [List.getElem?_eq_getElem (by omega)] at hj
              exact hj
            have hix : atI (rs.map lotP) (c : Int) = some (lotP rs[c]) := by
              rw [atI_nat (by simpa using hcl)]
              simp
            have hin := inA_ints (μ := μ') (a := .v (lotP rs[c])) (r := rs[c]) rfl j
            have hs1 := s1 j
            have hpo : prevO xs k = some (.int j) := by simp [prevO, hk0, hj]
            rw [← hpo] at hs1
            rw [hc] at hw hb
            by_cases hm : j ∈ rs[c]
            · simp [hc, hw, hb, hk0', hpj, hix, hin, hm]
              exact next (by rw [hs1]; simpa using hm) ⟨c, hc⟩ _ _
            · simp [hc, hw, hb, hk0', hpj, hix, hin, hm]
              exact stop (by rw [hs1]; simpa using hm)
      · rintro σ μ' ⟨rfl, ⟨a, b, rfl⟩, hL, _⟩
        rw [enum_len, List.drop_length] at hL
        simp [pathE, h, h0, ← hL, pathGo, excP]
      · rintro q μ' ⟨rfl, a, rfl, hL⟩
        simp [pathE, h, h0, hL, excP]
  | _ => simp [iwrong_path, e, tyB, pathE, excP]
include gf g in
theorem path_fault_eq {μ : Mu} {p : PV} {rs : List (List Int)} (hp : Lv2 μ p) : callN G (n + 3) "_law_yw_path_fault" [webP rs, p] μ = .ok (excP (pathE rs p)) μ := by
  rw [callN_eq (n + 2) g.path_fault rfl]
  have e := isA_lv hp.1
  cases p with
  | tup xs =>
    refine OK.toEq ?_
    by_cases h0 : xs = []
    · subst h0
      simp [i_law_yw_path_fault, pathE, excP]
    have h0' : xs.isEmpty = false := by simpa using h0
    by_cases h : 200 < xs.length
    · have h' : (200 : Int) < (xs.length : Int) := by omega
      simp [i_law_yw_path_fault, h', h, h0, h0', pathE, excP]
    · have h' : ¬ (200 : Int) < (xs.length : Int) := by omega
      have hsm : Sm (xs.length : Int) := Sm.nat (by omega)
      simp [i_law_yw_path_fault, h', h0, h0', hsm]
      refine OK.for (fun i σ μ' => μ' = μ ∧ (∃ a, σ = [some (webP rs), some (.tup xs), a]) ∧ pathGo rs (xs.drop i) (prevO xs i) i = pathGo rs xs none 0 ∧ (0 < i → ∃ j : Int, xs[i - 1]? = some (.int j))) (fun q μ' => μ' = μ ∧ ∃ a : Nat, q = .tup [.str "BadPath", .int a] ∧ pathGo rs xs none 0 = some a) ⟨rfl, ⟨none, rfl⟩, by simp [prevO], fun h => by omega⟩ (fun _ _ _ _ => stay_nil _ _) (fun k x σ μ' Q' hx hP q1 q2 => ?_) ?_ ?_
      · obtain ⟨rfl, ⟨a, rfl⟩, hL, hj⟩ := hP
        obtain ⟨hk, rfl⟩ := rng_get _ hx
        rw [List.drop_eq_getElem_cons hk, pathGo_cons] at hL
        have hi : atI xs (k : Int) = some xs[k] := atI_nat hk
        have hw := yw_isin_eq gf n (hp.2 _ rfl _ (List.getElem_mem hk)) 0 ((rs.length : Int) - 1)
        have next : stepB rs (prevO xs k) xs[k] = true → (∃ c : Nat, xs[k] = .int c) → ∀ a, Q' (.nx [some (webP rs), some (.tup xs), a]) μ' := fun hs hc a => by
          rw [hs, if_pos rfl] at hL
          refine q1 _ _ ⟨rfl, ⟨_, rfl⟩, ?_, fun _ => ?_⟩
          · have : prevO xs (k + 1) = some xs[k] := by simp [prevO, hk]
            rw [this]
            exact hL
          · obtain ⟨c, hc⟩ := hc
            exact ⟨c, by simp [hk, hc]⟩
        have stop : stepB rs (prevO xs k) xs[k] = false → Q' (.rt (.tup [.str "BadPath", .int k])) μ' := fun hs => by
          rw [hs, if_neg (by simp)] at hL
          exact q2 _ _ ⟨rfl, k, rfl, hL.symm⟩
        cases hb : wholeB xs[k] 0 ((rs.length : Int) - 1) with
        | false =>
          simp [hi, hw, hb]
          exact stop (stepB_no hb)
        | true =>
          obtain ⟨c, hc, hcl, s0, s1⟩ := stepB_yes hb
          by_cases hk0 : k = 0
          · subst hk0
            have hi0 : atI xs 0 = some xs[0] := by simpa using hi
            simp [hi0, hw, hb]
            exact next (by simpa [prevO] using s0) ⟨c, hc⟩ _
          · have hk0' : 0 < k := by omega
            obtain ⟨j, hj⟩ := hj hk0'
            have hk1 : (k : Int) - 1 = ((k - 1 : Nat) : Int) := by omega
            have hpj : atI xs ((k : Int) - 1) = some (.int j) := by
              rw [hk1, atI_nat (by omega)]
              rw [List.getElem?_eq_getElem (by omega)] at hj
              exact hj
            have hix : atI (rs.map lotP) (c : Int) = some (lotP rs[c]) := by
              rw [atI_nat (by simpa using hcl)]
              simp
            have hin := inA_ints (μ := μ') (a := .v (lotP rs[c])) (r := rs[c]) rfl j
            have hs1 := s1 j
            have hpo : prevO xs k = some (.int j) := by simp [prevO, hk0, hj]
            rw [← hpo] at hs1
            rw [hc] at hw hb hi
            by_cases hm : j ∈ rs[c]
            · simp [hi, hw, hb, hk0', hpj, hix, hin, hm]
              exact next (by rw [hs1]; simpa using hm) ⟨c, hc⟩ _
            · simp [hi, hw, hb, hk0', hpj, hix, hin, hm]
              exact stop (by rw [hs1]; simpa using hm)
      · rintro σ μ' ⟨rfl, ⟨a, rfl⟩, hL, _⟩
        have hlen : ((List.range xs.length).map fun (k : Nat) => PV.int (k : Int)).length = xs.length := by simp
        rw [hlen, List.drop_length] at hL
        simp [pathE, h, h0, ← hL, pathGo, excP]
      · rintro q μ' ⟨rfl, a, rfl, hL⟩
        simp [pathE, h, h0, hL, excP]
  | _ => simp [i_law_yw_path_fault, e, tyB, pathE, excP]
end
theorem ok_br : PyData.strOk (Str.ofString "BadRow") = true := by decide +kernel
theorem ok_bp : PyData.strOk (Str.ofString "BadPath") = true := by decide +kernel
theorem s_rt : ((Str.ofString "BadRow") == (Str.ofString "TooMany")) = false := by decide
theorem s_pt : ((Str.ofString "BadPath") == (Str.ofString "TooMany")) = false := by decide
theorem rowE_cls {C : Int} {p : PV} {c : String} {w : Int} (h : rowE C p = some (c, w)) : c = "TooMany" ∨ c = "BadRow" := by
  unfold rowE at h
  split at h
  · split at h
    · cases h; exact .inl rfl
    · split at h
      · cases h; exact .inr rfl
      · cases h
  · cases h; exact .inr rfl
theorem pathE_cls {rs : List (List Int)} {p : PV} {c : String} {w : Int} (h : pathE rs p = some (c, w)) : c = "TooMany" ∨ c = "BadPath" := by
  unfold pathE at h
  split at h
  · split at h
    · cases h; exact .inr rfl
    · split at h
      · cases h; exact .inl rfl
      · split at h
        · cases h; exact .inr rfl
        · cases h
  · cases h; exact .inr rfl
section
variable {G : Gm} (gw : WebG G) (g : RowG G) (n : Nat)
include gw g
theorem asked_row_eq {μ : Mu} {p : PV} {rs : List (List Int)} (hp : Lv2 μ p) : callN G (n + 3) "asked_row" [webP rs, p] μ = excO (rowE rs.length p) .non μ := by
  rw [callN_eq (n + 2) g.asked_row rfl]
  have e := wrong_row_eq gw g n hp rs.length
  cases h : rowE rs.length p with
  | none =>
    rw [h] at e
    simp [iasked_row, e, excP, excO]
  | some cw =>
    obtain ⟨c, w⟩ := cw
    rw [h] at e
    rcases rowE_cls h with rfl | rfl
    · simp [iasked_row, e, excP, excO, ix0, ix1, gw.cTM, ok_tm]
    · simp [iasked_row, e, excP, excO, ix0, ix1, g.cBR, ok_tm, ok_br, s_rt]
theorem asked_path_eq {μ : Mu} {p : PV} {rs : List (List Int)} (hp : Lv2 μ p) : callN G (n + 3) "asked_path" [webP rs, p] μ = excO (pathE rs p) .non μ := by
  rw [callN_eq (n + 2) g.asked_path rfl]
  have e := wrong_path_eq gw g n (rs := rs) hp
  cases h : pathE rs p with
  | none =>
    rw [h] at e
    simp [iasked_path, e, excP, excO]
  | some cw =>
    obtain ⟨c, w⟩ := cw
    rw [h] at e
    rcases pathE_cls h with rfl | rfl
    · simp [iasked_path, e, excP, excO, ix0, ix1, gw.cTM, ok_tm]
    · simp [iasked_path, e, excP, excO, ix0, ix1, g.cBP, ok_tm, ok_bp, s_pt]
end
end
end Ev

set_option Elab.async false
set_option linter.all false
set_option maxRecDepth 100000
/-! EvZ3: what a row builds of a path: the program's way and the law's. Own work. -/
namespace Ev
open PySem PySem.Spec PyProof.Rows L2
open Classical
noncomputable section
/-! ### right rows, right paths -/
def RowOk (C : Nat) (r : List Int) : Prop := r.length ≤ 200 ∧ ∀ i ∈ r, 0 ≤ i ∧ i < C
def Chain (rs : List (List Int)) : Option Int → List Int → Prop
  | _, [] => True
  | p, x :: xs => (0 ≤ x ∧ x < rs.length) ∧ (∀ j, p = some j → j ∈ rs[x.toNat]?.getD []) ∧ Chain rs (some x) xs
def PathOk (rs : List (List Int)) (p : List Int) : Prop := p ≠ [] ∧ p.length ≤ 200 ∧ Chain rs none p
theorem rowGo_of {C : Nat} : ∀ {r : List Int} {a : Nat}, (∀ i ∈ r, 0 ≤ i ∧ i < (C : Int)) → rowGo C (r.map .int) a = none
  | [], _, _ => rfl
  | x :: r, a, h => by
    obtain ⟨h1, h2⟩ := h x List.mem_cons_self
    rw [List.map_cons, rowGo_cons, if_pos (by simp [wholeB]; omega)]
    exact rowGo_of fun i hi => h i (List.mem_cons_of_mem _ hi)
theorem rowGo_none {C : Nat} : ∀ {xs : List PV} {a : Nat}, rowGo C xs a = none → ∃ r : List Int, xs = r.map .int ∧ ∀ i ∈ r, 0 ≤ i ∧ i < (C : Int)
  | [], _, _ => ⟨[], rfl, fun _ h => by simp at h⟩
  | x :: xs, a, h => by
    rw [rowGo_cons] at h
    split at h
    · rename_i hb
      obtain ⟨r, rfl, hr⟩ := rowGo_none h
      cases x with
      | int i =>
        simp only [wholeB, Bool.and_eq_true, decide_eq_true_eq] at hb
        refine ⟨i :: r, rfl, fun j hj => ?_⟩
        rcases List.mem_cons.mp hj with rfl | hj
        · omega
        · exact hr j hj
      | _ => cases hb
    · cases h
theorem rowE_none {C : Nat} {p : PV} : rowE C p = none ↔ ∃ r, p = lotP r ∧ RowOk C r := by
  constructor
  · intro h
    cases p with
    | tup xs =>
      unfold rowE at h
      simp only at h
      split at h
      · cases h
      · rename_i hn
        split at h
        · cases h
        · rename_i h'
          obtain ⟨r, rfl, hr⟩ := rowGo_none h'
          rw [List.length_map] at hn
          exact ⟨r, rfl, by omega, hr⟩
    | _ => cases h
  · rintro ⟨r, rfl, h1, h2⟩
    unfold rowE lotP
    simp only [List.length_map]
    rw [if_neg (by omega), rowGo_of h2]
theorem stepB_int (rs : List (List Int)) (q : Option Int) (x : Int) : stepB rs (q.map .int) (.int x) = true ↔ (0 ≤ x ∧ x < rs.length) ∧ ∀ j, q = some j → j ∈ rs[x.toNat]?.getD [] := by
  cases q with
  | none => simp [stepB]; omega
  | some j =>
    simp only [stepB, Option.map_some, Bool.and_eq_true, decide_eq_true_eq]
    constructor
    · rintro ⟨⟨h1, h2⟩, h3⟩
      exact ⟨⟨h1, by omega⟩, fun k e => by cases e; exact h3⟩
    · rintro ⟨⟨h1, h2⟩, h3⟩
      exact ⟨⟨h1, by omega⟩, h3 j rfl⟩
theorem pathGo_of {rs : List (List Int)} : ∀ {p : List Int} {q : Option Int} {a : Nat}, Chain rs q p → pathGo rs (p.map .int) (q.map .int) a = none
  | [], _, _, _ => rfl
  | x :: p, q, a, h => by
    rw [List.map_cons, pathGo_cons, if_pos ((stepB_int rs q x).mpr ⟨h.1, h.2.1⟩)]
    exact pathGo_of (q := some x) h.2.2
theorem pathGo_none {rs : List (List Int)} : ∀ {xs : List PV} {q : Option Int} {a : Nat}, pathGo rs xs (q.map .int) a = none → ∃ p : List Int, xs = p.map .int ∧ Chain rs q p
  | [], _, _, _ => ⟨[], rfl, trivial⟩
  | x :: xs, q, a, h => by
    rw [pathGo_cons] at h
    split at h
    · rename_i hb
      cases x with
      | int i =>
        obtain ⟨p, rfl, hp⟩ := pathGo_none (q := some i) h
        obtain ⟨h1, h2⟩ := (stepB_int rs q i).mp hb
        exact ⟨i :: p, rfl, h1, h2, hp⟩
      | _ => cases hb
    · cases h
theorem pathE_of {rs : List (List Int)} {p : List Int} (h : PathOk rs p) : pathE rs (lotP p) = none := by
  obtain ⟨h0, h1, h2⟩ := h
  unfold pathE lotP
  simp only [List.length_map]
  rw [if_neg (by simpa using h0), if_neg (by omega), show pathGo rs (p.map PV.int) none 0 = none from pathGo_of (q := none) h2]
theorem pathE_none {rs : List (List Int)} {xs : List PV} (h : pathE rs (.tup xs) = none) : ∃ p : List Int, xs = p.map .int ∧ PathOk rs p := by
  unfold pathE at h
  simp only at h
  split at h
  · cases h
  · rename_i h0
    split at h
    · cases h
    · rename_i h1
      split at h
      · cases h
      · rename_i h'
        obtain ⟨p, rfl, hp⟩ := pathGo_none (q := none) h'
        exact ⟨p, rfl, by simpa using h0, by simpa using h1, hp⟩
def lastO : Option Int → List Int → Option Int
  | p, [] => p
  | _, x :: xs => lastO (some x) xs
theorem Chain_cons (rs : List (List Int)) (p : Option Int) (x : Int) (xs : List Int) : Chain rs p (x :: xs) = ((0 ≤ x ∧ x < rs.length) ∧ (∀ j, p = some j → j ∈ rs[x.toNat]?.getD []) ∧ Chain rs (some x) xs) := rfl
theorem Chain.app {rs : List (List Int)} : ∀ {xs ys : List Int} {p : Option Int}, Chain rs p (xs ++ ys) ↔ Chain rs p xs ∧ Chain rs (lastO p xs) ys
  | [], ys, p => by simp [Chain, lastO]
  | x :: xs, ys, p => by
    rw [List.cons_append, Chain_cons, Chain_cons, Chain.app (xs := xs)]
    simp only [lastO]
    constructor
    · rintro ⟨h1, h2, h3, h4⟩
      exact ⟨⟨h1, h2, h3⟩, h4⟩
    · rintro ⟨⟨h1, h2, h3⟩, h4⟩
      exact ⟨h1, h2, h3, h4⟩
theorem lastO_app (p : Option Int) : ∀ (xs : List Int) (x : Int), lastO p (xs ++ [x]) = some x
  | [], x => rfl
  | y :: xs, x => lastO_app (some y) xs x
theorem Chain.rng {rs : List (List Int)} : ∀ {xs : List Int} {p : Option Int}, Chain rs p xs → ∀ i ∈ xs, 0 ≤ i ∧ i < rs.length
  | [], _, _, i, h => by simp at h
  | x :: xs, p, h, i, hi => by
    rcases List.mem_cons.mp hi with rfl | hi
    · exact h.1
    · exact Chain.rng h.2.2 i hi
theorem PathOk.take {rs : List (List Int)} {p : List Int} (h : PathOk rs p) {k : Nat} (hk : 0 < k) : PathOk rs (p.take k) := by
  obtain ⟨h0, h1, h2⟩ := h
  refine ⟨fun z => ?_, by rw [List.length_take]; omega, ?_⟩
  · rw [List.take_eq_nil_iff] at z
    rcases z with z | z
    · omega
    · exact h0 z
  · have := (Chain.app (xs := p.take k) (ys := p.drop k) (rs := rs) (p := none)).mp (by rw [List.take_append_drop]; exact h2)
    exact this.1
/-! ### the first places -/
def gp : List Int → List Int → Nat → List Int
  | [], _, _ => []
  | _ :: _, [], _ => []
  | r :: row, p :: path, a => if r = p then (a : Int) :: gp row path (a + 1) else gp row (p :: path) (a + 1)
theorem gp_nil (row : List Int) (a : Nat) : gp row [] a = [] := by cases row <;> rfl
def ixs : List Int → Int → Nat → List Nat
  | [], _, _ => []
  | r :: l, x, a => if r = x then a :: ixs l x (a + 1) else ixs l x (a + 1)
theorem gp_cons (r p : Int) (row path : List Int) (a : Nat) : gp (r :: row) (p :: path) a = if r = p then (a : Int) :: gp row path (a + 1) else gp row (p :: path) (a + 1) := rfl
theorem ixs_cons (r x : Int) (l : List Int) (a : Nat) : ixs (r :: l) x a = if r = x then a :: ixs l x (a + 1) else ixs l x (a + 1) := rfl
theorem gp_none : ∀ {l : List Int} {x : Int} {ps : List Int} {a : Nat}, ixs l x a = [] → gp l (x :: ps) a = []
  | [], _, _, _, _ => rfl
  | r :: l, x, ps, a, h => by
    unfold ixs at h
    unfold gp
    split at h
    · cases h
    · rename_i hr
      rw [if_neg hr]
      exact gp_none h
theorem gp_some : ∀ {l : List Int} {x : Int} {ps : List Int} {a k : Nat} {t : List Nat}, ixs l x a = k :: t → ∃ d, k = a + d ∧ d < l.length ∧ gp l (x :: ps) a = (k : Int) :: gp (l.drop (d + 1)) ps (k + 1)
  | [], _, _, _, _, _, h => by cases h
  | r :: l, x, ps, a, k, t, h => by
    rw [ixs_cons] at h
    rw [gp_cons]
    split at h
    · rename_i hr
      cases h
      exact ⟨0, rfl, by simp, by rw [if_pos hr]; rfl⟩
    · rename_i hr
      obtain ⟨d, e, hd, hg⟩ := gp_some (ps := ps) h
      exact ⟨d + 1, by omega, by simp; omega, by rw [if_neg hr, hg, List.drop_succ_cons]⟩
theorem places_in_ok {G : Gm} (h : G.fns.lookup "places_in" = some iplaces_in) (n : Nat) {μ : Mu} {row path : List Int} (hl : row.length ≤ 1000) {Q : PV → Mu → Prop} (q : Q (.ref μ.length) (μ ++ [.lst ((gp row path 0).map .int)])) : OK (callN G (n + 1) "places_in" [lotP row, lotP path] μ) Q := by
  rw [callN_eq n h rfl]
  simp [iplaces_in]
  refine OK.forN (fun i σ μ' => ∃ (fnd : List Int) (a b : Option PV), σ = [some (lotP row), some (lotP path), some (.ref μ.length), a, b] ∧ μ' = μ ++ [.lst (fnd.map .int)] ∧ gp row path 0 = fnd ++ gp (row.drop i) (path.drop fnd.length) i ∧ fnd.length ≤ i) ⟨[], none, none, rfl, rfl, by simp, by simp⟩ (fun _ _ _ _ => stay_nil _ _) (fun i x σ μ' Q' hx hP q' => ?_) ?_
  · obtain ⟨fnd, a, b, rfl, rfl, hg, hfl⟩ := hP
    obtain ⟨hi, rfl⟩ := enum_get hx
    have hi' : i < row.length := by simpa using hi
    have er : (row.map PV.int)[i] = .int row[i] := by simp
    rw [er]
    rw [List.drop_eq_getElem_cons hi'] at hg
    by_cases hlt : fnd.length < path.length
    · have hp : atI (path.map PV.int) (fnd.length : Int) = some (.int path[fnd.length]) := by
        rw [atI_nat (by simpa using hlt)]
        simp
      rw [List.drop_eq_getElem_cons hlt] at hg
      rw [gp_cons] at hg
      by_cases he : row[i] = path[fnd.length]
      · rw [if_pos he] at hg
        have hs : fnd.length < 16777216 := by omega
        simp [hlt, hp, he, hs]
        refine q' _ _ ⟨fnd ++ [(i : Int)], _, _, rfl, by simp, ?_, by simp; omega⟩
        rw [hg]
        simp
      · rw [if_neg he] at hg
        simp [hlt, hp, he]
        refine q' _ _ ⟨fnd, _, _, rfl, rfl, ?_, by omega⟩
        rw [hg, List.drop_eq_getElem_cons hlt]
    · simp [hlt]
      refine q' _ _ ⟨fnd, _, _, rfl, rfl, ?_, by omega⟩
      have e : path.drop fnd.length = [] := List.drop_of_length_le (by omega)
      rw [e] at hg ⊢
      rw [hg, gp_nil, gp_nil]
  · rintro σ μ' ⟨fnd, a, b, rfl, rfl, hg, _⟩
    rw [enum_len, List.length_map, List.drop_length] at hg
    simp [gp] at hg
    simp
    rw [hg] at q
    exact q
theorem firsts_ok {G : Gm} (h : G.fns.lookup "_law_yw_firsts" = some i_law_yw_firsts) (n : Nat) {μ : Mu} {row path : List Int} (hl : row.length ≤ 1000) (hl2 : path.length ≤ 1000) {Q : PV → Mu → Prop} (q : ∀ μ', Ap μ μ' → Q (lotP (gp row path 0)) μ') : OK (callN G (n + 1) "_law_yw_firsts" [lotP row, lotP path] μ) Q := by
  rw [callN_eq n h rfl]
  simp [i_law_yw_firsts]
  have hsl : Sm (row.length : Int) := Sm.nat (by omega)
  refine OK.for (fun i σ μ' => ∃ (made : List Int) (at_ : Nat) (b c d : Option PV), σ = [some (lotP row), some (lotP path), some (.ref μ.length), some (.int at_), b, c, d] ∧ Ap μ μ' ∧ μ'[μ.length]? = some (.lst (made.map .int)) ∧ made.length = i ∧ i ≤ path.length ∧ at_ ≤ row.length ∧ gp row path 0 = made ++ gp (row.drop at_) (path.drop i) at_) (fun p μ' => Ap μ μ' ∧ p = lotP (gp row path 0))
    ⟨[], 0, none, none, none, rfl, (Ap.refl μ).app _, by simp, rfl, by omega, by omega, by simp⟩ (fun _ _ _ _ => stay_nil _ _) (fun i x σ μ' Q' hx hP q1 q2 => ?_) ?_ ?_
  · obtain ⟨made, at_, b, c, d, rfl, ap, gM, hml, _, hat, hg⟩ := hP
    have hi : i < path.length := by
      rcases Nat.lt_or_ge i path.length with h | h
      · exact h
      · rw [List.getElem?_eq_none (by simpa using h)] at hx; cases hx
    have hx' : x = .int path[i] := by
      rw [List.getElem?_eq_getElem (by simpa using hi)] at hx
      simpa using hx.symm
    subst hx'
    have hsa : Sm (at_ : Int) := Sm.nat (by omega)
    have hsub : ((row.length : Int) - (at_ : Int)).toNat = row.length - at_ := by omega
    simp [hsl, hsa, hsub]
    refine OK.comp (fun t acc μ2 => μ2 = μ' ∧ ∃ as : List Nat, acc = as.map (fun (k : Nat) => .int (k : Int)) ∧ as.length ≤ t ∧ ixs (row.drop at_) path[i] at_ = as ++ ixs (row.drop (at_ + t)) path[i] (at_ + t)) ⟨rfl, [], rfl, by simp, by simp⟩ (fun _ _ _ _ => stay_nil _ _) (by simp; omega) (fun t acc μ2 h => by obtain ⟨_, as, rfl, h, _⟩ := h; simpa using h) (fun t y acc μ2 Q'' hy hP2 r1 r2 => ?_) ?_
    · obtain ⟨rfl, as, rfl, hal, hix⟩ := hP2
      obtain ⟨ht, rfl⟩ := rng_get _ hy
      have hat2 : at_ + t < row.length := by omega
      have hr : atI (row.map PV.int) ((at_ : Int) + (t : Int)) = some (.int row[at_ + t]) := by
        rw [← Int.natCast_add, atI_nat (by simpa using hat2)]
        simp
      rw [List.drop_eq_getElem_cons hat2] at hix
      rw [ixs_cons] at hix
      by_cases he : row[at_ + t] = path[i]
      · rw [if_pos he] at hix
        simp [hr, he]
        exact r1 _ _ ⟨rfl, as ++ [at_ + t], by simp, by simp; omega, by rw [hix]; simp [Nat.add_assoc]⟩
      · rw [if_neg he] at hix
        simp [hr, he]
        exact r2 _ ⟨rfl, as, rfl, by omega, by rw [hix]; simp [Nat.add_assoc]⟩
    · rintro acc μ2 ⟨rfl, as, rfl, _, hix⟩
      rw [List.length_map, List.length_range] at hix
      have e1 : at_ + (row.length - at_) = row.length := by omega
      rw [e1, List.drop_length] at hix
      have hix' : ixs (row.drop at_) path[i] at_ = as := by simpa [ixs] using hix
      have hM : μ.length < μ2.length := get_lt gM
      have ap2 : Ap μ (μ2 ++ [.lst (as.map fun (k : Nat) => .int (k : Int))]) := ap.app _
      have gM2 := get_app (ν := [MO.lst (as.map fun (k : Nat) => .int (k : Int))]) gM
      have he := eqA_nil (μ2 ++ [MO.lst (as.map fun (k : Nat) => PV.int (k : Int))]) (a := .v (.ref μ2.length)) (xs := as.map fun (k : Nat) => PV.int (k : Int)) (by simp)
      rw [List.drop_eq_getElem_cons hi] at hg
      cases as with
      | nil =>
        simp at he gM2 ap2
        simp [he, gM2]
        refine q2 _ _ ⟨ap2, ?_⟩
        rw [hg, gp_none hix']
        simp
      | cons k t =>
        obtain ⟨dd, hk, hd, hgp⟩ := gp_some (ps := path.drop (i + 1)) hix'
        rw [List.length_drop] at hd
        rw [List.drop_drop] at hgp
        simp at he gM2 ap2
        have hs : made.length < 16777216 := by omega
        have hne : ¬ μ.length = μ2.length := by omega
        have gF2 : (((μ2 ++ [MO.lst (PV.int (k : Int) :: t.map fun (k : Nat) => PV.int (k : Int))]).set μ.length (.lst (made.map .int ++ [PV.int (k : Int)]))))[μ2.length]? = some (.lst (PV.int (k : Int) :: t.map fun (k : Nat) => PV.int (k : Int))) := by
          rw [List.getElem?_set_ne (by omega)]
          simp
        have ea : appA (.v (.ref μ.length)) (.int (k : Int)) (μ2 ++ [MO.lst (PV.int (k : Int) :: t.map fun (k : Nat) => PV.int (k : Int))]) = some (.v .non, (μ2 ++ [MO.lst (PV.int (k : Int) :: t.map fun (k : Nat) => PV.int (k : Int))]).set μ.length (.lst (made.map .int ++ [PV.int (k : Int)]))) := by
          simp [gM2, hs]
        have gM4 : ((μ2 ++ [MO.lst (PV.int (k : Int) :: t.map fun (k : Nat) => PV.int (k : Int))]).set μ.length (.lst (made.map .int ++ [PV.int (k : Int)])))[μ.length]? = some (.lst ((made ++ [(k : Int)]).map .int)) := by
          rw [List.getElem?_set_self (get_lt gM2)]
          simp
        have ap4 : Ap μ ((μ2 ++ [MO.lst (PV.int (k : Int) :: t.map fun (k : Nat) => PV.int (k : Int))]).set μ.length (.lst (made.map .int ++ [PV.int (k : Int)]))) := ap2.setNew (Nat.le_refl _) _
        generalize (μ2 ++ [MO.lst (PV.int (k : Int) :: t.map fun (k : Nat) => PV.int (k : Int))]).set μ.length (.lst (made.map .int ++ [PV.int (k : Int)])) = μ4 at ea gM4 ap4 gF2
        have h9 : ∀ b c d, Q' (.nx [some (lotP row), some (lotP path), some (.ref μ.length), some (.int ((k + 1 : Nat) : Int)), b, c, d]) μ4 := fun b c d => q1 _ _ ⟨made ++ [(k : Int)], k + 1, b, c, d, rfl, ap4, gM4, by simp; omega, hi, by omega, by
          have e9 : at_ + (dd + 1) = k + 1 := by omega
          rw [hg, hgp, e9]
          simp⟩
        simp [he, ix0, ea, gF2, -appA_ref]
        have := h9 (some (.int path[i])) (some (.ref μ2.length)) d
        simpa using this
  · rintro σ μ' ⟨made, at_, b, c, d, rfl, ap, gM, hml, _, hat, hg⟩
    rw [List.length_map, List.drop_length, gp_nil, List.append_nil] at hg
    simp [gM]
    rw [← hg]
    exact q μ' ap
  · rintro p μ' ⟨ap, rfl⟩
    simpa using q μ' ap
end
end Ev

set_option Elab.async false
set_option linter.all false
set_option maxRecDepth 100000
/-! EvZ4: k05: what its defs answer of right things. Own work. -/
namespace Ev
open PySem PySem.Spec PyProof.Rows L2
open Classical
noncomputable section
def h5 : Hrd := .named ["TooMany", "BadWeb", "BadPath", "BadRow"] ["BadWeb", "BadRow", "BadPath", "TooMany"]
/-- k05's own defs -/
structure K5 (G : Gm) : Prop extends KW G, RowG G where
  places_in : G.fns.lookup "places_in" = some iplaces_in
  asked_built : G.fns.lookup "asked_built" = some iasked_built
  made_row : G.fns.lookup "made_row" = some imade_row
  is_row : G.fns.lookup "is_row" = some iis_row
  built_length : G.fns.lookup "built_length" = some ibuilt_length
  built : G.fns.lookup "built" = some ibuilt
  first_places : G.fns.lookup "first_places" = some ifirst_places
  web_of : G.fns.lookup "_law_yw_web_of" = some i_law_yw_web_of
  yw_path : G.fns.lookup "_law_yw_path" = some i_law_yw_path
  yw_row : G.fns.lookup "_law_yw_row" = some i_law_yw_row
  firsts : G.fns.lookup "_law_yw_firsts" = some i_law_yw_firsts
  odd_path : G.fns.lookup "_law_yw_odd_path" = some i_law_yw_odd_path
  odd_row : G.fns.lookup "_law_yw_odd_row" = some i_law_yw_odd_row
  asked : G.fns.lookup "_law_n5_asked" = some i_law_n5_asked
  right : G.fns.lookup "_law_n5_right" = some i_law_n5_right
  form_right : G.fns.lookup "_law_n5_form_right" = some i_law_n5_form_right
  refused_right : G.fns.lookup "_law_n5_refused_right" = some i_law_n5_refused_right
  hrd : G.hrd.lookup "_law_n5_heard" = some h5
  fuel : 20000 < G.fuel
theorem lv2_int (μ : Mu) (r : List Int) : Lv2 μ (lotP r) := lv2_lot μ r
/-- what n5_asked tells, at M -/
def Told5 (row path : List Int) : List PV := [lotP (gp row path 0), .int (gp row path 0).length, .bl (decide ((gp row path 0).length = path.length))]
theorem gp_len : ∀ (row path : List Int) (a : Nat), (gp row path a).length ≤ row.length
  | [], _, _ => by simp [gp]
  | _ :: row, [], _ => by simp [gp]
  | r :: row, p :: path, a => by
    rw [gp_cons]
    split
    · have := gp_len row path (a + 1)
      simp; omega
    · have := gp_len row (p :: path) (a + 1)
      simp; omega
theorem same5 {μ : Mu} {row path : List Int} (hl : row.length ≤ 200) {a b : Nat} (ha : μ[a]? = some (.lst (Told5 row path))) (hb : μ[b]? = some (.lst (Told5 row path))) : ∃ m, SameR μ (.ref a) (.ref b) m ∧ m ≤ 300 := by
  have := gp_len row path 0
  exact ⟨_, .ref ha hb (.cons (.tup (SameL.ints μ _)) (.cons (.int _) (.cons (.bl _) .nil))), by omega⟩
section
variable {G : Gm} (g : K5 G) (n : Nat)
include g
theorem ab_ok {μ : Mu} {rs : List (List Int)} {pr pp : PV} (hw : Web rs) (hr : Lv2 μ pr) (hp : Lv2 μ pp) (er : rowE rs.length pr = none) (ep : pathE rs pp = none) : callN G (n + 6) "asked_built" [webP rs, pr, pp] μ = .ok .non μ := by
  rw [callN_eq (n + 5) g.asked_built rfl]
  have e1 := asked_web_eq g.toKW.toWebG n (lv3_web μ rs)
  rw [webE_none.mpr ⟨rs, rfl, hw⟩] at e1
  have e2 := asked_row_eq g.toKW.toWebG g.toRowG (n + 2) (rs := rs) hr
  have e3 := asked_path_eq g.toKW.toWebG g.toRowG (n + 2) (rs := rs) hp
  rw [er] at e2
  rw [ep] at e3
  simp [iasked_built, e1, e2, e3, excO]
theorem ab_web {μ : Mu} {pw pr pp : PV} (hw : Lv3 μ pw) {c : String} {w : Int} (h : webE pw = some (c, w)) : callN G (n + 6) "asked_built" [pw, pr, pp] μ = .exc c (.int w) μ := by
  rw [callN_eq (n + 5) g.asked_built rfl]
  have e1 := asked_web_eq g.toKW.toWebG n hw
  simp [iasked_built, e1, h, excO]
theorem ab_row {μ : Mu} {rs : List (List Int)} {pr pp : PV} (hw : Web rs) (hr : Lv2 μ pr) {c : String} {w : Int} (h : rowE rs.length pr = some (c, w)) : callN G (n + 6) "asked_built" [webP rs, pr, pp] μ = .exc c (.int w) μ := by
  rw [callN_eq (n + 5) g.asked_built rfl]
  have e1 := asked_web_eq g.toKW.toWebG n (lv3_web μ rs)
  rw [webE_none.mpr ⟨rs, rfl, hw⟩] at e1
  have e2 := asked_row_eq g.toKW.toWebG g.toRowG (n + 2) (rs := rs) hr
  rw [h] at e2
  simp [iasked_built, e1, e2, excO]
theorem ab_path {μ : Mu} {rs : List (List Int)} {pr pp : PV} (hw : Web rs) (hr : Lv2 μ pr) (hp : Lv2 μ pp) (er : rowE rs.length pr = none) {c : String} {w : Int} (h : pathE rs pp = some (c, w)) : callN G (n + 6) "asked_built" [webP rs, pr, pp] μ = .exc c (.int w) μ := by
  rw [callN_eq (n + 5) g.asked_built rfl]
  have e1 := asked_web_eq g.toKW.toWebG n (lv3_web μ rs)
  rw [webE_none.mpr ⟨rs, rfl, hw⟩] at e1
  have e2 := asked_row_eq g.toKW.toWebG g.toRowG (n + 2) (rs := rs) hr
  have e3 := asked_path_eq g.toKW.toWebG g.toRowG (n + 2) (rs := rs) hp
  rw [er] at e2
  rw [h] at e3
  simp [iasked_built, e1, e2, e3, excO]
theorem fp_exc {μ : Mu} {pw pr pp : PV} {c : String} {w : PV} (h : ∀ n, callN G (n + 6) "asked_built" [pw, pr, pp] μ = .exc c w μ) : callN G (n + 7) "first_places" [pw, pr, pp] μ = .exc c w μ := by
  rw [callN_eq (n + 6) g.first_places rfl]
  simp [ifirst_places, h n]
theorem bl_exc {μ : Mu} {pw pr pp : PV} {c : String} {w : PV} (h : ∀ n, callN G (n + 6) "asked_built" [pw, pr, pp] μ = .exc c w μ) : callN G (n + 7) "built_length" [pw, pr, pp] μ = .exc c w μ := by
  rw [callN_eq (n + 6) g.built_length rfl]
  simp [ibuilt_length, h n]
theorem bu_exc {μ : Mu} {pw pr pp : PV} {c : String} {w : PV} (h : ∀ n, callN G (n + 6) "asked_built" [pw, pr, pp] μ = .exc c w μ) : callN G (n + 7) "built" [pw, pr, pp] μ = .exc c w μ := by
  rw [callN_eq (n + 6) g.built rfl]
  simp [ibuilt, h n]
theorem fp_ok {μ : Mu} {rs : List (List Int)} {row path : List Int} (hw : Web rs) (hr : RowOk rs.length row) (hp : PathOk rs path) {Q : PV → Mu → Prop} (q : ∀ μ', Ap μ μ' → Q (lotP (gp row path 0)) μ') : OK (callN G (n + 7) "first_places" [webP rs, lotP row, lotP path] μ) Q := by
  rw [callN_eq (n + 6) g.first_places rfl]
  have e := ab_ok g n hw (lv2_lot μ row) (lv2_lot μ path) (rowE_none.mpr ⟨row, rfl, hr⟩) (pathE_of hp)
  simp [ifirst_places, e]
  refine places_in_ok g.places_in (n + 5) (by have := hr.1; omega) ?_
  simp
  exact q _ ((Ap.refl μ).app _)
theorem bl_ok {μ : Mu} {rs : List (List Int)} {row path : List Int} (hw : Web rs) (hr : RowOk rs.length row) (hp : PathOk rs path) {Q : PV → Mu → Prop} (q : ∀ μ', Ap μ μ' → Q (.int (gp row path 0).length) μ') : OK (callN G (n + 7) "built_length" [webP rs, lotP row, lotP path] μ) Q := by
  rw [callN_eq (n + 6) g.built_length rfl]
  have e := ab_ok g n hw (lv2_lot μ row) (lv2_lot μ path) (rowE_none.mpr ⟨row, rfl, hr⟩) (pathE_of hp)
  simp [ibuilt_length, e]
  refine places_in_ok g.places_in (n + 5) (by have := hr.1; omega) ?_
  simp
  exact q _ ((Ap.refl μ).app _)
theorem bu_ok {μ : Mu} {rs : List (List Int)} {row path : List Int} (hw : Web rs) (hr : RowOk rs.length row) (hp : PathOk rs path) {Q : PV → Mu → Prop} (q : ∀ μ', Ap μ μ' → Q (.bl (decide ((gp row path 0).length = path.length))) μ') : OK (callN G (n + 7) "built" [webP rs, lotP row, lotP path] μ) Q := by
  rw [callN_eq (n + 6) g.built rfl]
  have e := ab_ok g n hw (lv2_lot μ row) (lv2_lot μ path) (rowE_none.mpr ⟨row, rfl, hr⟩) (pathE_of hp)
  simp [ibuilt, e]
  refine places_in_ok g.places_in (n + 5) (by have := hr.1; omega) ?_
  have hd : decide (((gp row path 0).length : Int) = (path.length : Int)) = decide ((gp row path 0).length = path.length) := by
    congr 1
    exact propext ⟨fun h => by omega, fun h => by omega⟩
  simp [hd]
  exact q _ ((Ap.refl μ).app _)
theorem asked5_ok {μ : Mu} {rs : List (List Int)} {row path : List Int} (hw : Web rs) (hr : RowOk rs.length row) (hp : PathOk rs path) {Q : PV → Mu → Prop} (q : ∀ M μ', Ap μ μ' → μ'[M]? = some (.lst (Told5 row path)) → Q (.ref M) μ') : OK (callN G (n + 8) "_law_n5_asked" [webP rs, lotP row, lotP path] μ) Q := by
  rw [callN_eq (n + 7) g.asked rfl]
  simp [i_law_n5_asked]
  refine fp_ok g n hw hr hp fun μ1 ap1 => ?_
  simp
  refine bl_ok g n hw hr hp fun μ2 ap2 => ?_
  simp
  refine bu_ok g n hw hr hp fun μ3 ap3 => ?_
  simp
  exact q _ _ (((ap1.trans ap2).trans ap3).app _) (by simp [Told5])
theorem right5_ok {μ : Mu} {rs : List (List Int)} {row path : List Int} (hw : Web rs) (hr : RowOk rs.length row) (hp : PathOk rs path) {Q : PV → Mu → Prop} (q : ∀ μ', Ap μ μ' → Q (.bl true) μ') : OK (callN G (n + 9) "_law_n5_right" [webP rs, lotP row, lotP path] μ) Q := by
  have hfuel := g.fuel
  have hl1 := hr.1
  have hl2 := hp.2.1
  rw [callN_eq (n + 8) g.right rfl]
  simp [i_law_n5_right]
  refine firsts_ok g.firsts (n + 7) (by omega) (by omega) fun μ1 ap1 => ?_
  simp [g.hrd]
  refine OK.heard ?_
  simp
  refine asked5_ok g n hw hr hp fun M μ2 ap2 gM => ?_
  have hd : decide (((gp row path 0).length : Int) = (path.length : Int)) = decide ((gp row path 0).length = path.length) := by
    congr 1
    exact propext ⟨fun h => by omega, fun h => by omega⟩
  simp [hd]
  obtain ⟨m, S, hm⟩ := same5 (μ := μ2 ++ [MO.lst (Told5 row path)]) hl1 (get_app gM) (b := μ2.length) (by simp)
  have := same_ok g.same g.qwhole (n + 6) (SameR.told S) (by omega) (by omega) (Q := OKk k_call_a' (OKk force (OKk kx_ret (OKk (kx_seq (wd G (callN G (n + 8))) .nil) (OKk outO Q))))) (by simp; exact q _ ((ap1.trans ap2).app _))
  simpa [Told5] using this
theorem made_row_eq {μ : Mu} {rs : List (List Int)} {p : PV} (hw : Web rs) (hp : Lv2 μ p) : callN G (n + 6) "made_row" [webP rs, p] μ = excO (rowE rs.length p) p μ := by
  rw [callN_eq (n + 5) g.made_row rfl]
  have e1 := asked_web_eq g.toKW.toWebG n (lv3_web μ rs)
  rw [webE_none.mpr ⟨rs, rfl, hw⟩] at e1
  have e2 := asked_row_eq g.toKW.toWebG g.toRowG (n + 2) (rs := rs) hp
  cases h : rowE rs.length p <;> simp [imade_row, e1, e2, h, excO]
theorem is_row_eq {μ : Mu} {rs : List (List Int)} {p : PV} (hw : Web rs) (hp : Lv2 μ p) : callN G (n + 6) "is_row" [webP rs, p] μ = .ok (.bl (rowE rs.length p).isNone) μ := by
  rw [callN_eq (n + 5) g.is_row rfl]
  have e1 := asked_web_eq g.toKW.toWebG n (lv3_web μ rs)
  rw [webE_none.mpr ⟨rs, rfl, hw⟩] at e1
  have e2 := wrong_row_eq g.toKW.toWebG g.toRowG (n + 3) hp rs.length
  cases h : rowE rs.length p <;> simp [iis_row, e1, e2, h, excO, excP]
theorem told5 {c : String} (hc : c ∈ ["BadWeb", "BadRow", "BadPath", "TooMany"]) (w : PV) (μ : Mu) : told h5 (.exc c w μ) = .ok (.v (.tup [.str (Str.ofString c), w])) μ ∧ PyData.strOk (Str.ofString c) = true := by
  unfold h5
  rw [told_named, if_pos hc]
  simp only [List.mem_cons, List.not_mem_nil, or_false] at hc
  rcases hc with rfl | rfl | rfl | rfl
  · exact ⟨by simp, ok_bw⟩
  · exact ⟨by simp, ok_br⟩
  · exact ⟨by simp, ok_bp⟩
  · exact ⟨by simp, ok_tm⟩
theorem form5_ok {μ : Mu} {rs : List (List Int)} {p : PV} (hw : Web rs) (hp : Lv2 μ p) {Q : PV → Mu → Prop} (q : ∀ μ', Ap μ μ' → Q (.bl true) μ') : OK (callN G (n + 7) "_law_n5_form_right" [webP rs, p] μ) Q := by
  have hfuel := g.fuel
  rw [callN_eq (n + 6) g.form_right rfl]
  have e1 := row_fault_eq g.toKW.toFormG g.toRowG (n + 3) hp rs
  have e2 := made_row_eq g n hw hp
  have ap1 : Ap μ (μ ++ [.lst [.tup [.str "told", p]]]) := (Ap.refl μ).app _
  cases h : rowE rs.length p with
  | none =>
    rw [h] at e1 e2
    obtain ⟨r, rfl, hr⟩ := rowE_none.mp h
    have e3 := is_row_eq g n hw (ap1.lv2 hp)
    rw [h] at e3
    have hth : ∀ (x : PV) (μ : Mu), told h5 (.ok x μ) = .ok (.v (.tup [.str "told", x])) μ := fun _ _ => rfl
    simp [i_law_n5_form_right, e1, e2, excP, excO, g.hrd, e3]
    refine same_ok g.same g.qwhole (n + 4) (SameR.ref (by simp) (by simp) (.cons (SameR.told (.tup (SameL.ints _ r))) (.cons (SameR.told (.bl true)) .nil))) (by have := hr.1; omega) (by have := hr.1; omega) ?_
    simp
    exact q _ ((Ap.refl μ).app _)
  | some cw =>
    obtain ⟨c, w⟩ := cw
    rw [h] at e1 e2
    have hc : c ∈ ["BadWeb", "BadRow", "BadPath", "TooMany"] := by rcases rowE_cls h with rfl | rfl <;> simp
    obtain ⟨_, hc3⟩ := told5 g hc (.int w) μ
    have ap2 : Ap μ (μ ++ [.lst [.tup [.str (Str.ofString c), .int w]]]) := (Ap.refl μ).app _
    have e3 := is_row_eq g n hw (ap2.lv2 hp)
    rw [h] at e3
    have et := (told5 g hc (.int w) μ).1
    simp [i_law_n5_form_right, e1, e2, excP, excO, g.hrd, et, e3]
    refine same_ok g.same g.qwhole (n + 4) (SameR.ref (by simp) (by simp) (.cons (.tup (.cons (.str _ hc3) (.cons (.int w) .nil))) (.cons (SameR.told (.bl false)) .nil))) (by omega) (by omega) ?_
    simp
    exact q _ ((Ap.refl μ).app _)
end
end
end Ev

set_option Elab.async false
set_option linter.all false
set_option maxRecDepth 100000
/-! EvZ5: drawn paths and rows. Own work. -/
namespace Ev
open PySem PySem.Spec PyProof.Rows L2
open Classical
noncomputable section
/-- a loop that may be broken off with B -/
theorem OK.forB {μ0 : Mu} {src : List Nat} {body : PV → Sg → Mu → Out Fl} {Q : Fl → Mu → Prop} (P : Nat → Sg → Mu → Prop) (B : Sg → Mu → Prop) (hs : ∀ i σ μ, P i σ μ → stay μ0 μ src) (h2 : ∀ σ μ, B σ μ → Q (.nx σ) μ) : ∀ (xs : List PV) (i : Nat) (σ : Sg) (μ : Mu), P i σ μ →
    (∀ (k : Nat) x σ μ (Q' : Fl → Mu → Prop), xs[k]? = some x → P (i + k) σ μ → (∀ σ' μ', P (i + k + 1) σ' μ' → Q' (.nx σ') μ') → (∀ σ' μ', B σ' μ' → Q' (.bk σ') μ') → OK (body x σ μ) Q') → (∀ σ μ, P (i + xs.length) σ μ → Q (.nx σ) μ) → OK (forLoop μ0 src body xs σ μ) Q
  | [], i, σ, μ, h, _, h1 => by
    simp only [forLoop, hs _ _ _ h, if_true]
    exact (OK_ok _ _ _).mpr (h1 _ _ h)
  | x :: xs, i, σ, μ, h, hb, h1 => by
    simp only [forLoop, hs _ _ _ h, if_true]
    rw [OK_bind]
    refine hb 0 x σ μ _ rfl h (fun σ' μ' h' => ?_) (fun σ' μ' h' => ?_)
    · rw [OKk_eq, turn_nx]
      refine OK.forB P B hs h2 xs (i + 1) σ' μ' h' (fun k x' σ'' μ'' Q' hx hp q1 q2 => ?_) (fun σ'' μ'' hp => h1 _ _ ?_)
      · have e : i + 1 + k = i + (k + 1) := by omega
        rw [e] at hp q1
        exact hb (k + 1) x' σ'' μ'' Q' (by simpa using hx) hp q1 q2
      · have e : i + (x :: xs).length = i + 1 + xs.length := by simp only [List.length_cons]; omega
        rw [e]
        exact hp
    · rw [OKk_eq, turn_bk]
      exact (OK_ok _ _ _).mpr (h2 _ _ h')
theorem atI_last (xs : List PV) (y : PV) : atI (xs ++ [y]) (-1) = some y := by
  unfold atI ixN
  have e : ((-1 : Int) + ((xs ++ [y]).length : Int)).toNat = xs.length := by simp; omega
  rw [if_neg (by decide), if_pos (by simp; omega)]
  simp only [Option.bind_some]
  rw [e]
  simp
theorem rdTo_mem {rs : List (List Int)} {x z : Int} (h : z ∈ rdTo rs rs.length x) : (0 ≤ z ∧ z < rs.length) ∧ x ∈ rs[z.toNat]?.getD [] := by
  unfold rdTo at h
  obtain ⟨c, hc, rfl⟩ := List.mem_map.mp h
  rw [List.mem_filter, List.mem_range] at hc
  exact ⟨⟨by omega, by omega⟩, by simpa using hc.2⟩
theorem web_one : Web [[0]] := ⟨by simp, fun r hr => by
  rw [List.mem_singleton] at hr
  subst hr
  exact ⟨by simp, fun i hi => by rw [List.mem_singleton] at hi; subst hi; simp⟩⟩
section
variable {G : Gm} (g : K5 G) (n : Nat)
include g
theorem web_of_ok {j k : Nat} {μ : Mu} (J : Jar j k μ) (hk : k < 2 ^ 56) {Q : PV → Mu → Prop} (q : ∀ rs μ', Web rs → rs ≠ [] → Fr j μ μ' → Jar j (k + 4000) μ' → Q (webP rs) μ') : OK (callN G (n + 4) "_law_yw_web_of" [.ref j] μ) Q := by
  rw [callN_eq (n + 3) g.web_of rfl]
  simp [i_law_yw_web_of]
  refine yw_web_ok g.toKW n J hk fun rs μ' hw f J' => ?_
  cases rs with
  | nil =>
    simp
    exact q [[0]] μ' web_one (by simp) f J'
  | cons r rs =>
    simp
    have := q (r :: rs) μ' hw (by simp) f J'
    simpa using this
theorem yw_path_ok {j k : Nat} {μ : Mu} (J : Jar j k μ) (hk : k < 2 ^ 56) {rs : List (List Int)} (hw : Web rs) (h0 : rs ≠ []) {most : Nat} (hm : 1 ≤ most) (hm2 : most ≤ 30) {Q : PV → Mu → Prop} (q : ∀ p μ', PathOk rs p → p.length ≤ most → Fr j μ μ' → Jar j (k + 100) μ' → Q (lotP p) μ') : OK (callN G (n + 3) "_law_yw_path" [.ref j, webP rs, .int most] μ) Q := by
  have hj := J.lt
  have hlen := hw.1
  have hpos : 0 < rs.length := List.length_pos_iff.mpr h0
  rw [callN_eq (n + 2) g.yw_path rfl]
  simp [i_law_yw_path]
  refine take_ok g.take (n + 1) J (by omega) (by omega) (by omega) fun t l ht J1 => ?_
  have f1 : Fr j μ (μ.set j l) := (Fr.refl j μ).set l
  generalize μ.set j l = μ1 at J1 f1
  simp
  have one : ∀ t : Nat, (t : Int) < rs.length → PathOk rs [(t : Int)] := fun t ht => ⟨by simp, by simp, ⟨by omega, ht⟩, fun j h => (nomatch h), trivial⟩
  refine OK.forN (fun i σ μ' => ∃ best a b c d, σ = [some (.ref j), some (webP rs), some (.int most), some (lotP best), a, b, c, d] ∧ i ≤ 3 ∧ PathOk rs best ∧ best.length ≤ most ∧ Fr j μ μ' ∧ Jar j (k + 1 + i * 32) μ') ⟨[(t : Int)], _, _, _, _, rfl, by omega, one t ht, by simp; omega, f1, by simpa using J1⟩ (fun _ _ _ _ => stay_nil _ _) (fun i x σ μ2 Q' hx hP q' => ?_) ?_
  · obtain ⟨best, a, b, c, d, rfl, _, hbp, hbl, f2, J2⟩ := hP
    have hi : i < 3 := by
      rcases Nat.lt_or_ge i 3 with h | h
      · exact h
      · rw [List.getElem?_eq_none (by simpa using h)] at hx; cases hx
    simp
    refine take_ok g.take (n + 1) J2 (by omega) (by omega) (by omega) fun t l ht J3 => ?_
    have f3 : Fr j μ (μ2.set j l) := f2.set l
    generalize μ2.set j l = μ3 at J3 f3
    simp
    refine take_ok g.take (n + 1) (J3.app _) (by omega) (by omega) (by omega) fun T l hT J4 => ?_
    have hj3 := J3.lt
    have gM : ((μ3 ++ [MO.lst [.int (t : Int)]]).set j l)[μ3.length]? = some (.lst [.int (t : Int)]) := by
      rw [List.getElem?_set_ne (by omega)]
      simp
    have f4 : Fr j μ ((μ3 ++ [MO.lst [.int (t : Int)]]).set j l) := (f3.app _).set l
    generalize hM : μ3.length = M at gM
    have hMμ : μ.length ≤ M := by rw [← hM]; exact f3.1
    have hMj : M ≠ j := by omega
    generalize (μ3 ++ [MO.lst [.int (t : Int)]]).set j l = μ4 at J4 gM f4
    have hsm : Sm (T : Int) := Sm.nat (by omega)
    simp [hsm]
    let PI : Nat → Sg → Mu → Prop := fun s σ μ' => ∃ (pre : List Int) (x : Int) (a c d : Option PV), σ = [some (.ref j), some (webP rs), some (.int most), some (lotP best), a, some (.ref M), c, d] ∧ μ'[M]? = some (.lst ((pre ++ [x]).map .int)) ∧ s ≤ T ∧ pre.length ≤ s ∧ Chain rs none (pre ++ [x]) ∧ Fr j μ μ' ∧ Jar j (k + 1 + i * 32 + 2 + s) μ'
    have fin : ∀ s σ μ', s ≤ T → PI s σ μ' → OK (ex (wd G (callN G (n + 2))) (.seq (.asg (.nm 3) (.ite (.cmp .gt (.bi .len (.cons (.var 5) .nil)) (.bi .len (.cons (.var 3) .nil))) (.bi .tuple (.cons (.var 5) .nil)) (.var 3))) .nil) σ μ') Q' := fun s σ μ' hsT hP => by
      obtain ⟨pre, x, a, c, d, rfl, gM', _, hpl, hch, f', J'⟩ := hP
      by_cases hlt : best.length < (pre ++ [x]).length
      · have hlt' : (best.length : Int) < (pre.length : Int) + 1 := by simp at hlt; omega
        simp [gM', hlt']
        have := q' [some (.ref j), some (webP rs), some (.int most), some (lotP (pre ++ [x])), a, some (.ref M), c, d] μ' ⟨pre ++ [x], _, _, _, _, rfl, hi, ⟨by simp, by simp; omega, hch⟩, by simp; omega, f', J'.mono (by omega)⟩
        simpa [lotP] using this
      · have hlt' : ¬ (best.length : Int) < (pre.length : Int) + 1 := by simp at hlt; omega
        simp [gM', hlt']
        have := q' [some (.ref j), some (webP rs), some (.int most), some (lotP best), a, some (.ref M), c, d] μ' ⟨best, _, _, _, _, rfl, hi, hbp, hbl, f', J'.mono (by omega)⟩
        simpa using this
    refine OK.forB PI (fun σ μ' => ∃ s, s ≤ T ∧ PI s σ μ') (fun _ _ _ _ => stay_nil _ _) (fun σ μ' h => ?_) _ 0 _ _ ⟨[], t, _, _, _, rfl, by simpa using gM, by omega, by simp, (one t ht).2.2, f4, J4⟩ (fun s x σ μ5 Q'' hx hP r1 r2 => ?_) (fun σ μ' h => ?_)
    · obtain ⟨s, hs, h⟩ := h
      simpa using fin s σ μ' hs h
    · rw [Nat.zero_add] at hP r1
      obtain ⟨pre, x, a, c, d, rfl, gM', _, hpl, hch, f', J'⟩ := hP
      obtain ⟨hs, rfl⟩ := rng_get _ hx
      have hlast : atI (pre.map PV.int ++ [PV.int x]) (-1) = some (.int x) := atI_last _ _
      simp only [List.map_append, List.map_cons, List.map_nil] at gM'
      have er := yw_readers_eq g.toKW (n + 1) (μ := μ5) hw x
      by_cases he : rdTo rs rs.length x = []
      · have he' : ((rdTo rs rs.length x).map PV.int).isEmpty = true := by rw [he]; rfl
        simp [gM', hlast, er, he]
        refine r2 _ _ ⟨s, by omega, pre, x, _, _, _, rfl, by simpa using gM', by omega, hpl, hch, f', J'⟩
      · have he' : ¬ (rdTo rs rs.length x).map PV.int = [] := by simpa using he
        have hne : ((rdTo rs rs.length x).map PV.int).isEmpty = false := by simpa using he
        have hrl := rdTo_len rs rs.length x
        simp [gM', hlast, er, he]
        refine one_ok g.take g.one n (xs := (rdTo rs rs.length x).map .int) J' (by omega) rfl (by simp) he' (by simp; omega) fun y l hy J6 => ?_
        obtain ⟨z, hz, rfl⟩ := List.mem_map.mp hy
        obtain ⟨hz1, hz2⟩ := rdTo_mem hz
        have gM6 : (μ5.set j l)[M]? = some (.lst (pre.map PV.int ++ [PV.int x])) := by rw [List.getElem?_set_ne (by omega), gM']
        have hs2 : pre.length + 1 < 16777216 := by omega
        have f6 := f'.set l
        generalize μ5.set j l = μ6 at J6 gM6 f6
        simp [gM6, hs2]
        refine r1 _ _ ⟨pre ++ [x], z, _, _, _, rfl, ?_, hs, by simp; omega, ?_, f6.setNew hMμ _, (J6.setNe hMj _).mono (by omega)⟩
        · rw [List.getElem?_set_self (get_lt gM6)]
          simp
        · refine Chain.app.mpr ⟨hch, hz1, fun j' hj' => ?_, trivial⟩
          rw [lastO_app] at hj'
          cases hj'
          exact hz2
    · rw [List.length_map, List.length_range, Nat.zero_add] at h
      simpa using fin T σ μ' (Nat.le_refl _) h
  · rintro σ μ' ⟨best, a, b, c, d, rfl, _, hbp, hbl, f', J'⟩
    simp at J'
    simp
    have := q best μ' hbp hbl f' (J'.mono (by omega))
    simpa using this
theorem yw_row_ok {j k : Nat} {μ : Mu} (J : Jar j k μ) (hk : k < 2 ^ 55) {rs : List (List Int)} (hw : Web rs) (h0 : rs ≠ []) {most : Nat} (hm : 1 ≤ most) (hm2 : most ≤ 30) {Q : PV → Mu → Prop} (q : ∀ r μ', (∀ i ∈ r, 0 ≤ i ∧ i < (rs.length : Int)) → r.length ≤ most → Fr j μ μ' → Jar j (k + 300) μ' → Q (lotP r) μ') : OK (callN G (n + 4) "_law_yw_row" [.ref j, webP rs, .int most] μ) Q := by
  have hj := J.lt
  have hlen := hw.1
  have hpos : 0 < rs.length := List.length_pos_iff.mpr h0
  have hne : (rs.map lotP).isEmpty = false := by simpa using h0
  rw [callN_eq (n + 3) g.yw_row rfl]
  simp [i_law_yw_row]
  refine take_ok g.take (n + 2) J (by omega) (by omega) (by omega) fun size l hsz J1 => ?_
  have f1 : Fr j μ (μ.set j l) := (Fr.refl j μ).set l
  generalize μ.set j l = μ1 at J1 f1
  simp
  refine take_ok g.take (n + 2) J1 (by omega) (by decide) (by decide) fun srt l hsrt J2 => ?_
  have f2 : Fr j μ (μ1.set j l) := f1.set l
  generalize μ1.set j l = μ2 at J2 f2
  have hss : Sm (size : Int) := Sm.nat (by omega)
  simp [h0, hss]
  have fin : ∀ (M : Nat) (made : List PV) (μ' : Mu) (s1 s2 s3 s4 s5 : Option PV), μ'[M]? = some (.lst made) → In rs.length made → Fr j μ μ' → Jar j (k + 300) μ' → OK ((ex (wd G (callN G (n + 3))) (.seq (.ret (.bi .tuple (.cons (.slice (.var 5) .nil (.cons (.var 2) .nil)) .nil))) .nil) [some (.ref j), some (webP rs), some (.int most), s1, s2, some (.ref M), s3, s4, s5] μ').bind outO) Q := fun M made μ' s1 s2 s3 s4 s5 gM hi f J => by
    simp [gM]
    obtain ⟨r, hr, hr2⟩ := hi.sub (zs := cutP made none (some (most : Int))) fun z hz => cut_sub hz
    rw [hr]
    refine q r μ' hr2 ?_ f J
    have : (cutP made none (some (most : Int))).length ≤ most := by
      unfold cutP
      rw [HT.sIx_none, HT.sIx_nat]
      simp
      omega
    rw [hr, List.length_map] at this
    exact this
  refine OK.comp (fun i acc μ' => Fr j μ μ' ∧ Jar j (k + 2 + i) μ' ∧ acc.length ≤ i ∧ In rs.length acc) ⟨f2, J2, by simp, In.nil⟩ (fun _ _ _ _ => stay_nil _ _) (by simp; omega) (fun i acc μ' h => h.2.2.1) (fun i x acc μ' Q' hx hP q1 _ => ?_) ?_
  · obtain ⟨f, J', hal, hin⟩ := hP
    obtain ⟨hi, rfl⟩ := rng_get _ hx
    simp
    refine take_ok g.take (n + 2) J' (by omega) (by omega) (by omega) fun t l ht J3 => ?_
    simp
    exact q1 _ _ ⟨f.set l, by rw [← Nat.add_assoc]; exact J3, by simp; omega, hin.app ⟨[(t : Int)], rfl, fun z hz => by rw [List.mem_singleton] at hz; omega⟩⟩
  rintro made μ3 ⟨f3, J3, hal, hin⟩
  simp at J3 hal
  have hj3 := J3.lt
  simp
  have gM3 : (μ3 ++ [MO.lst made])[μ3.length]? = some (.lst made) := by simp
  have f4 : Fr j μ (μ3 ++ [MO.lst made]) := f3.app _
  have J4 := J3.app [MO.lst made]
  have hM3 : μ3.length ≠ j := by omega
  generalize hM : μ3.length = M at gM3 hM3
  generalize μ3 ++ [MO.lst made] = μ4 at gM3 f4 J4
  have h4 : srt = 0 ∨ srt = 1 ∨ srt = 2 ∨ srt = 3 := by omega
  rcases h4 with rfl | rfl | rfl | rfl
  · simp
    refine take_ok g.take (n + 2) J4 (by omega) (by omega) (by omega) fun t1 l ht1 J5 => ?_
    have f5 := f4.set l
    generalize μ4.set j l = μ5 at J5 f5
    simp
    refine take_ok g.take (n + 2) J5 (by omega) (by omega) (by omega) fun t2 l ht2 J6 => ?_
    have f6 := f5.set l
    generalize μ5.set j l = μ6 at J6 f6
    have hj6 := J6.lt
    simp [hss]
    have gF : (μ6 ++ [MO.lst [PV.int (t1 : Int), PV.int (t2 : Int)]])[μ6.length]? = some (.lst [PV.int (t1 : Int), PV.int (t2 : Int)]) := by simp
    have f7 : Fr j μ (μ6 ++ [MO.lst [PV.int (t1 : Int), PV.int (t2 : Int)]]) := f6.app _
    have J7 := J6.app [MO.lst [PV.int (t1 : Int), PV.int (t2 : Int)]]
    have hF : μ6.length ≠ j := by omega
    generalize μ6.length = F at gF hF
    generalize μ6 ++ [MO.lst [PV.int (t1 : Int), PV.int (t2 : Int)]] = μ7 at gF f7 J7
    refine OK.comp (fun i acc μ' => Fr j μ μ' ∧ Jar j (k + 2 + size + 2 + i) μ' ∧ acc.length ≤ i ∧ In rs.length acc ∧ μ'[F]? = some (.lst [PV.int (t1 : Int), PV.int (t2 : Int)])) ⟨f7, J7, by simp, In.nil, gF⟩ (fun _ _ _ _ => stay_nil _ _) (by simp; omega) (fun i acc μ' h => h.2.2.1) (fun i x acc μ' Q' hx hP q1 _ => ?_) ?_
    · obtain ⟨f, J', hal, hin, gF'⟩ := hP
      obtain ⟨hi, rfl⟩ := rng_get _ hx
      simp
      refine one_ok g.take g.one (n + 1) J' (by omega) (p := .ref F) (xs := [PV.int (t1 : Int), PV.int (t2 : Int)]) (by simp [gF']) (by simp [hF]) (by simp) (by simp) fun y l hy J3 => ?_
      simp
      refine q1 _ _ ⟨f.set l, by rw [← Nat.add_assoc]; exact J3, by simp; omega, hin.app (In.of fun z hz => ?_), by rw [List.getElem?_set_ne (Ne.symm hF), gF']⟩
      rw [List.mem_singleton] at hz
      subst hz
      simp only [List.mem_cons, List.not_mem_nil, or_false] at hy
      rcases hy with rfl | rfl
      · exact ⟨t1, rfl, by omega, by omega⟩
      · exact ⟨t2, rfl, by omega, by omega⟩
    · rintro made2 μ8 ⟨f8, J8, _, hin8, _⟩
      simp at J8
      have := fin μ8.length made2 (μ8 ++ [MO.lst made2]) (some (.int size)) (some (.int 0)) none (some (.ref F)) none (by simp) hin8 (f8.app _) ((J8.app _).mono (by omega))
      simpa using this
  · simp
    have hmx : (if (1 : Int) < (most : Int) then (most : Int) else 1) = ((max 1 most : Nat) : Int) := by
      split <;> omega
    have hmx2 : (if (most : Int) > 1 then (most : Int) else 1) = ((max 1 most : Nat) : Int) := hmx
    simp [hmx]
    have gE : (μ4 ++ [MO.lst []])[μ4.length]? = some (.lst []) := by simp
    have f5 : Fr j μ (μ4 ++ [MO.lst []]) := f4.app _
    have J5 := J4.app [MO.lst []]
    have hj4 := J4.lt
    have hE : μ4.length ≠ j := by omega
    have hEμ : μ.length ≤ μ4.length := f4.1
    generalize μ4.length = E at gE hE hEμ
    generalize μ4 ++ [MO.lst []] = μ5 at gE f5 J5
    refine yw_path_ok g n J5 (by omega) hw h0 (most := max 1 most) (by omega) (by omega) fun p μ6 hp hpl f6 J6 => ?_
    have gE6 : μ6[E]? = some (.lst []) := by rw [f6.2 E (get_lt gE) hE, gE]
    have f06 := f5.trans f6
    simp
    refine OK.forN (fun i σ μ' => ∃ (made : List PV) (b : Option PV), σ = [some (.ref j), some (webP rs), some (.int most), some (.int size), some (.int 1), some (.ref E), none, none, b] ∧ μ'[E]? = some (.lst made) ∧ In rs.length made ∧ made.length ≤ 3 * i ∧ i ≤ p.length ∧ Fr j μ μ' ∧ Jar j (k + 2 + size + 100 + 3 * i) μ') ⟨[], none, rfl, gE6, In.nil, by simp, by omega, f06, J6⟩ (fun _ _ _ _ => stay_nil _ _) (fun i x σ μ7 Q' hx hP q' => ?_) ?_
    · obtain ⟨made, b, rfl, gE7, hin7, hml, _, f7, J7⟩ := hP
      have hi : i < p.length := by
        rcases Nat.lt_or_ge i p.length with h | h
        · exact h
        · rw [List.getElem?_eq_none (by simpa using h)] at hx; cases hx
      have hx' : x = .int p[i] := by
        rw [List.getElem?_eq_getElem (by simpa using hi)] at hx
        simpa using hx.symm
      subst hx'
      have hpr := hp.2.2.rng _ (List.getElem_mem hi)
      simp
      refine take_ok g.take (n + 2) J7 (by omega) (by omega) (by omega) fun t1 l ht1 J8 => ?_
      have gE8 : (μ7.set j l)[E]? = some (.lst made) := by rw [List.getElem?_set_ne (Ne.symm hE), gE7]
      have f8 := f7.set l
      generalize μ7.set j l = μ8 at gE8 f8 J8
      simp
      refine take_ok g.take (n + 2) J8 (by omega) (by decide) (by decide) fun t2 l ht2 J9 => ?_
      have gE9 : (μ8.set j l)[E]? = some (.lst made) := by rw [List.getElem?_set_ne (Ne.symm hE), gE8]
      have f9 := f8.set l
      generalize μ8.set j l = μ9 at gE9 f9 J9
      have ht2' : t2 = 0 ∨ t2 = 1 := by omega
      have key : ∀ (μa : Mu) (zs : List PV), μa[E]? = some (.lst made) → Fr j μ μa → Jar j (k + 2 + size + 100 + 3 * i + 3) μa → In rs.length zs → zs.length ≤ 3 → ∃ μb, mtA .extend (.v (.ref E)) [.l zs] μa = some (.v .non, μb) ∧ Q' (.nx [some (.ref j), some (webP rs), some (.int most), some (.int size), some (.int 1), some (.ref E), none, none, some (.int p[i])]) μb := fun μa zs gEa fa Ja hz hzl => by
        refine ⟨_, ext_ok gEa rfl (by omega), q' _ _ ⟨made ++ zs, _, rfl, List.getElem?_set_self (get_lt gEa), hin7.app hz, by simp; omega, hi, fa.setNew hEμ _, (Ja.setNe hE _).mono (by omega)⟩⟩
      have i1 : In rs.length [PV.int (t1 : Int)] := ⟨[(t1 : Int)], rfl, fun z hz => by rw [List.mem_singleton] at hz; omega⟩
      have i2 : In rs.length [PV.int p[i]] := ⟨[p[i]], rfl, fun z hz => by rw [List.mem_singleton] at hz; rw [hz]; exact hpr⟩
      rcases ht2' with rfl | rfl
      · simp
        refine take_ok g.take (n + 2) J9 (by omega) (by decide) (by decide) fun t3 l ht3 J10 => ?_
        have gE10 : (μ9.set j l)[E]? = some (.lst made) := by rw [List.getElem?_set_ne (Ne.symm hE), gE9]
        have f10 := f9.set l
        generalize μ9.set j l = μ10 at gE10 f10 J10
        by_cases h3 : t3 = 0
        · subst h3
          obtain ⟨μb, e, hq⟩ := key μ10 ([PV.int p[i]] ++ [PV.int p[i]]) gE10 f10 J10 (i2.app i2) (by simp)
          simp at e
          simp [e]
          exact hq
        · obtain ⟨μb, e, hq⟩ := key μ10 [PV.int p[i]] gE10 f10 J10 i2 (by simp)
          simp [h3, e]
          exact hq
      · simp
        refine take_ok g.take (n + 2) J9 (by omega) (by decide) (by decide) fun t3 l ht3 J10 => ?_
        have gE10 : (μ9.set j l)[E]? = some (.lst made) := by rw [List.getElem?_set_ne (Ne.symm hE), gE9]
        have f10 := f9.set l
        generalize μ9.set j l = μ10 at gE10 f10 J10
        by_cases h3 : t3 = 0
        · subst h3
          obtain ⟨μb, e, hq⟩ := key μ10 ([PV.int (t1 : Int)] ++ ([PV.int p[i]] ++ [PV.int p[i]])) gE10 f10 J10 (i1.app (i2.app i2)) (by simp)
          simp at e
          simp [e]
          exact hq
        · obtain ⟨μb, e, hq⟩ := key μ10 ([PV.int (t1 : Int)] ++ [PV.int p[i]]) gE10 f10 J10 (i1.app i2) (by simp)
          simp at e
          simp [h3, e]
          exact hq
    · rintro σ μ7 ⟨made, b, rfl, gE7, hin7, hml, _, f7, J7⟩
      simp at J7
      have := fin E made μ7 (some (.int size)) (some (.int 1)) none none b gE7 hin7 f7 (J7.mono (by omega))
      simpa using this
  · simp
    have := fin M made μ4 (some (.int size)) (some (.int 2)) none none none gM3 hin f4 (J4.mono (by omega))
    simpa using this
  · simp
    have := fin M made μ4 (some (.int size)) (some (.int 3)) none none none gM3 hin f4 (J4.mono (by omega))
    simpa using this
end
end
end Ev

set_option Elab.async false
set_option linter.all false
set_option maxRecDepth 100000
/-! EvZ6: odd rows, odd paths. Own work. -/
namespace Ev
open PySem PySem.Spec PyProof.Rows L2
open Classical
noncomputable section
def noRef : PV → Bool
  | .ref _ => false
  | _ => true
theorem lv1_noRef (μ : Mu) {x : PV} (h : noRef x = true) : Lv1 μ x := fun n e => by subst e; cases h
theorem lv2_tup (μ : Mu) {xs : List PV} (h : ∀ x ∈ xs, noRef x = true) : Lv2 μ (.tup xs) := ⟨lv1_tup _ _, fun ys e x hx => by cases e; exact lv1_noRef μ (h x hx)⟩
theorem lv2_flat (μ : Mu) {x : PV} (h : flat1 x = true) : Lv2 μ x := ⟨lv1_flat μ h, fun xs e => by subst e; cases h⟩
theorem lv2_ref (μ : Mu) {n : Nat} {xs : List PV} (h : μ[n]? = some (.lst xs)) : Lv2 μ (.ref n) := (e2_ref μ h).1
theorem noRef_ints {r : List Int} : ∀ x ∈ r.map PV.int, noRef x = true := fun x hx => by
  obtain ⟨i, _, rfl⟩ := List.mem_map.mp hx
  rfl
theorem rowE_bad {C : Nat} {xs : List PV} {x : PV} (hx : x ∈ xs) (h : wholeB x 0 ((C : Int) - 1) = false) : rowE C (.tup xs) ≠ none := fun z => by
  obtain ⟨r, e, _, hr⟩ := rowE_none.mp z
  cases e
  obtain ⟨i, hi, rfl⟩ := List.mem_map.mp hx
  have := hr i hi
  simp [wholeB] at h
  omega
theorem rowE_long {C : Int} {xs : List PV} (h : 200 < xs.length) : rowE C (.tup xs) ≠ none := by
  unfold rowE
  simp only
  rw [if_pos h]
  simp
theorem pathE_bad {rs : List (List Int)} {xs : List PV} {x : PV} (hx : x ∈ xs) (h : wholeB x 0 ((rs.length : Int) - 1) = false) : pathE rs (.tup xs) ≠ none := fun z => by
  obtain ⟨p, e, hp⟩ := pathE_none z
  subst e
  obtain ⟨i, hi, rfl⟩ := List.mem_map.mp hx
  have := hp.2.2.rng i hi
  simp [wholeB] at h
  omega
theorem pathE_long {rs : List (List Int)} {xs : List PV} (h : 200 < xs.length) : pathE rs (.tup xs) ≠ none := by
  unfold pathE
  simp only
  split
  · simp
  · simp [h]
theorem pathE_lone {rs : List (List Int)} {pre : List Int} {l x : Int} (hx : 0 ≤ x) (h : l ∉ rs[x.toNat]?.getD []) : pathE rs (.tup ((pre ++ [l]).map .int ++ [.int x])) ≠ none := fun z => by
  obtain ⟨p, e, hp⟩ := pathE_none z
  have e2 : (pre ++ [l]).map PV.int ++ [.int x] = ((pre ++ [l]) ++ [x]).map .int := by simp
  rw [e2] at e
  have hinj : ∀ {a b : List Int}, a.map PV.int = b.map PV.int → a = b := fun {a b} h => (List.map_inj_right (fun x y h => by cases h; rfl)).mp h
  have e3 := hinj e
  subst e3
  have := (Chain.app.mp hp.2.2).2
  rw [lastO_app] at this
  exact h (this.2.1 l rfl)
def OddR (C : Nat) (μ : Mu) (x : PV) : Prop := Lv2 μ x ∧ rowE C x ≠ none
def OddP (rs : List (List Int)) (μ : Mu) (x : PV) : Prop := Lv2 μ x ∧ pathE rs x ≠ none
theorem lv2_set {μ : Mu} {F : Nat} {xs zs : List PV} (gF : μ[F]? = some (.lst xs)) {p : PV} (h : Lv2 μ p) : Lv2 (μ.set F (.lst zs)) p := ⟨lv1_set gF h.1, fun ys e z hz => lv1_set gF (h.2 ys e z hz)⟩
section
variable {G : Gm} (g : K5 G) (n : Nat)
include g
theorem odd_row_ok {j k : Nat} {μ : Mu} (J : Jar j k μ) (hk : k < 2 ^ 54) {rs : List (List Int)} (hw : Web rs) (h0 : rs ≠ []) {Q : PV → Mu → Prop} (q : ∀ x μ', OddR rs.length μ' x → Fr j μ μ' → Jar j (k + 310) μ' → Q (.tup [x, excP (rowE rs.length x)]) μ') : OK (callN G (n + 5) "_law_yw_odd_row" [.ref j, webP rs] μ) Q := by
  have hlen := hw.1
  rw [callN_eq (n + 4) g.odd_row rfl]
  have c1 : CPow 10 20 := ⟨by decide, by decide, by decide⟩
  simp [i_law_yw_odd_row]
  refine yw_row_ok g n J (by omega) hw h0 (most := 6) (by omega) (by omega) fun r μ1 hr hrl f1 J1 => ?_
  simp
  refine take_ok g.take (n + 3) J1 (by omega) (by omega) (by omega) fun t l ht J2 => ?_
  have f2 : Fr j μ (μ1.set j l) := f1.set l
  generalize μ1.set j l = μ2 at J2 f2
  have hj2 := J2.lt
  have hs1 : r.length + 1 ≤ 16777216 := by omega
  have ht' : t ≤ (r.map PV.int).length := by simp; omega
  have ec1 := cut_to ht'
  have ec2 := cut_from ht'
  have hm1 : min t r.length + 1 ≤ 16777216 := by omega
  have hm2 : min t r.length + 1 + (r.length - t) ≤ 16777216 := by omega
  have hm3 : min t r.length + (1 + (r.length - t)) ≤ 16777216 := by omega
  have hm4 : min t r.length + (r.length - t + 1) ≤ 16777216 := by omega
  simp [rep_flat, hs1, -List.reduceReplicate, c1]
  refine OK.compP (fun o => some (.tup ((r.map PV.int).take t ++ [o] ++ (r.map PV.int).drop t))) (fun o ho => ?_) (by simp) ?_
  · simp [ec1, ec2, hm1, hm2, hm3, hm4]
  let xs : List PV := [.non, .ref μ2.length, .ref (μ2.length + 1), .int 0, .str "row", .tup [.int rs.length], .tup (List.replicate 201 .non), .tup (List.replicate 201 (.int 0)), .tup (r.map .int ++ [.bl true]), .tup (r.map .int ++ [.int (-1)])]
  let os : List PV := [.int rs.length, .int (-1), .non, .bl true, .str "0", .tup [.int 0], .int 100000000000000000000]
  let ys : List PV := os.map fun o => .tup ((r.map PV.int).take t ++ [o] ++ (r.map PV.int).drop t)
  have gF : (μ2 ++ [MO.lst [], MO.lst (r.map PV.int), MO.lst xs])[μ2.length + 2]? = some (.lst xs) := by simp
  have e1 := ext_ok (b := .l ys) gF rfl (by simp [xs, ys, os])
  have ap : Ap μ2 (μ2 ++ [MO.lst [], MO.lst (r.map PV.int), MO.lst xs]) := (Ap.refl μ2).app _
  have g1 : (μ2 ++ [MO.lst [], MO.lst (r.map PV.int), MO.lst xs])[μ2.length]? = some (.lst []) := by simp
  have g2 : (μ2 ++ [MO.lst [], MO.lst (r.map PV.int), MO.lst xs])[μ2.length + 1]? = some (.lst (r.map PV.int)) := by simp
  have hosb : ∀ o ∈ os, wholeB o 0 ((rs.length : Int) - 1) = false ∧ noRef o = true := fun o ho => by
    simp only [os, List.mem_cons, List.not_mem_nil, or_false] at ho
    rcases ho with rfl | rfl | rfl | rfl | rfl | rfl | rfl <;> simp [wholeB, noRef] <;> omega
  have hx : ∀ x ∈ xs ++ ys, OddR rs.length (μ2 ++ [MO.lst [], MO.lst (r.map PV.int), MO.lst xs]) x := fun x hx => by
    rcases List.mem_append.mp hx with hx | hx
    · simp only [xs, List.mem_cons, List.not_mem_nil, or_false] at hx
      rcases hx with rfl | rfl | rfl | rfl | rfl | rfl | rfl | rfl | rfl | rfl
      · exact ⟨lv2_flat _ rfl, by simp [rowE]⟩
      · exact ⟨lv2_ref _ g1, by simp [rowE]⟩
      · exact ⟨lv2_ref _ g2, by simp [rowE]⟩
      · exact ⟨lv2_flat _ rfl, by simp [rowE]⟩
      · exact ⟨lv2_flat _ rfl, by simp [rowE]⟩
      · exact ⟨lv2_tup _ (by simp [noRef]), rowE_bad (x := .int rs.length) (by simp) (by simp [wholeB]; omega)⟩
      · exact ⟨lv2_tup _ fun y hy => by rw [(List.mem_replicate.mp hy).2]; rfl, rowE_long (by rw [List.length_replicate]; omega)⟩
      · exact ⟨lv2_tup _ fun y hy => by rw [(List.mem_replicate.mp hy).2]; rfl, rowE_long (by rw [List.length_replicate]; omega)⟩
      · exact ⟨lv2_tup _ fun y hy => by
          rcases List.mem_append.mp hy with hy | hy
          · exact noRef_ints y hy
          · rw [List.mem_singleton.mp hy]; rfl, rowE_bad (x := .bl true) (by simp) rfl⟩
      · exact ⟨lv2_tup _ fun y hy => by
          rcases List.mem_append.mp hy with hy | hy
          · exact noRef_ints y hy
          · rw [List.mem_singleton.mp hy]; rfl, rowE_bad (x := .int (-1)) (by simp) (by simp [wholeB])⟩
    · obtain ⟨o, ho, rfl⟩ := List.mem_map.mp hx
      obtain ⟨h1, h2⟩ := hosb o ho
      refine ⟨lv2_tup _ fun y hy => ?_, rowE_bad (x := o) (by simp) h1⟩
      simp only [List.mem_append, List.mem_singleton] at hy
      rcases hy with (hy | rfl) | hy
      · exact noRef_ints y (List.mem_of_mem_take hy)
      · exact h2
      · exact noRef_ints y (List.mem_of_mem_drop hy)
  have hys : os.filterMap (fun o => some (PV.tup ((r.map PV.int).take t ++ [o] ++ (r.map PV.int).drop t))) = ys := by
    show _ = os.map _
    rw [List.filterMap_eq_map']
  have gF3 : ((μ2 ++ [MO.lst [], MO.lst (r.map PV.int), MO.lst xs]).set (μ2.length + 2) (.lst (xs ++ ys)))[μ2.length + 2]? = some (.lst (xs ++ ys)) := List.getElem?_set_self (get_lt gF)
  have f3 : Fr j μ ((μ2 ++ [MO.lst [], MO.lst (r.map PV.int), MO.lst xs]).set (μ2.length + 2) (.lst (xs ++ ys))) := (f2.trans (ap.fr j)).setNew (by have := f2.1; omega) _
  have J3 : Jar j (k + 300 + 1) ((μ2 ++ [MO.lst [], MO.lst (r.map PV.int), MO.lst xs]).set (μ2.length + 2) (.lst (xs ++ ys))) := (ap.jar J2).setNe (by omega) _
  have hx3 : ∀ x ∈ xs ++ ys, OddR rs.length ((μ2 ++ [MO.lst [], MO.lst (r.map PV.int), MO.lst xs]).set (μ2.length + 2) (.lst (xs ++ ys))) x := fun x h => ⟨lv2_set gF (hx x h).1, (hx x h).2⟩
  have hl : (xs ++ ys).length < 100 := by simp [xs, ys, os]
  have hnn : xs ++ ys ≠ [] := by simp [xs]
  have hF : μ2.length + 2 ≠ j := by omega
  generalize (μ2 ++ [MO.lst [], MO.lst (r.map PV.int), MO.lst xs]).set (μ2.length + 2) (.lst (xs ++ ys)) = μ3 at e1 gF3 f3 J3 hx3
  simp only [os] at hys
  rw [hys]
  simp only [xs] at e1
  simp [e1, -List.reduceReplicate]
  refine one_ok g.take g.one (n + 2) J3 (by omega) (p := .ref (μ2.length + 2)) (xs := xs ++ ys) (by simp [gF3, -List.reduceReplicate]) (by simp [hF]) hnn (by omega) fun y l hy J4 => ?_
  have f4 : Fr j μ3 (μ3.set j l) := (Fr.refl j μ3).set l
  have ho := hx3 y hy
  have hlv := f4.lv2 J4 ho.1
  have e5 := row_fault_eq g.toKW.toFormG g.toRowG (n + 1) hlv rs
  simp [e5]
  exact q _ _ ⟨hlv, ho.2⟩ (f3.trans f4) (J4.mono (by omega))
end
end
end Ev

set_option Elab.async false
set_option linter.all false
set_option maxRecDepth 100000
/-! EvZ7: odd paths; rows of arguments of any length. Own work. -/
namespace Ev
open PySem PySem.Spec PyProof.Rows L2
open Classical
noncomputable section
section
variable {G : Gm} (g : K5 G) (n : Nat)
include g
theorem odd_path_ok {j k : Nat} {μ : Mu} (J : Jar j k μ) (hk : k < 2 ^ 54) {rs : List (List Int)} (hw : Web rs) (h0 : rs ≠ []) {Q : PV → Mu → Prop} (q : ∀ x μ', OddP rs μ' x → Fr j μ μ' → Jar j (k + 110) μ' → Q (.tup [x, excP (pathE rs x)]) μ') : OK (callN G (n + 4) "_law_yw_odd_path" [.ref j, webP rs] μ) Q := by
  have hlen := hw.1
  rw [callN_eq (n + 3) g.odd_path rfl]
  simp [i_law_yw_odd_path]
  refine yw_path_ok g n J (by omega) hw h0 (most := 6) (by omega) (by omega) fun p μ1 hp hpl f1 J1 => ?_
  have hp0 : 0 < p.length := List.length_pos_iff.mpr hp.1
  simp
  refine take_ok g.take (n + 2) J1 (by omega) (by omega) (by omega) fun t l ht J2 => ?_
  have f2 : Fr j μ (μ1.set j l) := f1.set l
  generalize μ1.set j l = μ2 at J2 f2
  have hj2 := J2.lt
  have hs1 : p.length + 1 ≤ 16777216 := by omega
  have hs12 : p.length + 2 ≤ 16777216 := by omega
  have htl : t < p.length := by omega
  have ht' : t ≤ (p.map PV.int).length := by simp; omega
  have ec1 := cut_to ht'
  have ec2 := cut_from1 (xs := p.map PV.int) (k := t) (by simp; omega)
  have hm1 : min t p.length + 1 ≤ 16777216 := by omega
  have hm2 : min t p.length + 1 + (p.length - (t + 1)) ≤ 16777216 := by omega
  have hm3 : min t p.length + (1 + (p.length - (t + 1))) ≤ 16777216 := by omega
  have hm4 : min t p.length + (p.length - (t + 1) + 1) ≤ 16777216 := by omega
  obtain ⟨pre, last, hpre⟩ : ∃ pre last, p = pre ++ [last] := ⟨p.dropLast, p.getLast hp.1, (List.dropLast_concat_getLast hp.1).symm⟩
  have hp00 : atI (p.map PV.int) 0 = some (.int p[0]) := by
    have := atI_nat (xs := p.map PV.int) (k := 0) (by simpa using hp0)
    simpa using this
  have hlast : atI (p.map PV.int) (-1) = some (.int last) := by
    rw [hpre, List.map_append]
    exact atI_last _ _
  let xs : List PV := [.non, .tup [], .ref μ2.length, .ref (μ2.length + 1), .int 0, .str "path", .tup (List.replicate 201 (.int p[0])), .tup (List.replicate 201 .non), .tup (p.map .int ++ [.int rs.length]), .tup (p.map .int ++ [.int (-1)])]
  let y1 : List PV := [.tup [.bl true], .tup [.non]]
  let os : List PV := [.int rs.length, .int (-1), .non, .bl true, .str "0", .tup [.int 0]]
  let y2 : List PV := os.map fun o => .tup ((p.map PV.int).take t ++ [o] ++ (p.map PV.int).drop (t + 1))
  have gF : (μ2 ++ [MO.lst [], MO.lst (p.map PV.int), MO.lst xs])[μ2.length + 2]? = some (.lst xs) := by simp
  have e1 := ext_ok (b := .l y1) gF rfl (by simp [xs, y1])
  have ap : Ap μ2 (μ2 ++ [MO.lst [], MO.lst (p.map PV.int), MO.lst xs]) := (Ap.refl μ2).app _
  have g1 : (μ2 ++ [MO.lst [], MO.lst (p.map PV.int), MO.lst xs])[μ2.length]? = some (.lst []) := by simp
  have g2 : (μ2 ++ [MO.lst [], MO.lst (p.map PV.int), MO.lst xs])[μ2.length + 1]? = some (.lst (p.map PV.int)) := by simp
  have hosb : ∀ o ∈ os, wholeB o 0 ((rs.length : Int) - 1) = false ∧ noRef o = true := fun o ho => by
    simp only [os, List.mem_cons, List.not_mem_nil, or_false] at ho
    rcases ho with rfl | rfl | rfl | rfl | rfl | rfl <;> simp [wholeB, noRef] <;> omega
  have hx : ∀ x ∈ xs ++ y1 ++ y2, OddP rs (μ2 ++ [MO.lst [], MO.lst (p.map PV.int), MO.lst xs]) x := fun x hx => by
    rcases List.mem_append.mp hx with hx | hx
    · rcases List.mem_append.mp hx with hx | hx
      · simp only [xs, List.mem_cons, List.not_mem_nil, or_false] at hx
        rcases hx with rfl | rfl | rfl | rfl | rfl | rfl | rfl | rfl | rfl | rfl
        · exact ⟨lv2_flat _ rfl, by simp [pathE]⟩
        · exact ⟨lv2_tup _ (by simp), by simp [pathE]⟩
        · exact ⟨lv2_ref _ g1, by simp [pathE]⟩
        · exact ⟨lv2_ref _ g2, by simp [pathE]⟩
        · exact ⟨lv2_flat _ rfl, by simp [pathE]⟩
        · exact ⟨lv2_flat _ rfl, by simp [pathE]⟩
        · exact ⟨lv2_tup _ fun y hy => by rw [(List.mem_replicate.mp hy).2]; rfl, pathE_long (by rw [List.length_replicate]; omega)⟩
        · exact ⟨lv2_tup _ fun y hy => by rw [(List.mem_replicate.mp hy).2]; rfl, pathE_long (by rw [List.length_replicate]; omega)⟩
        · exact ⟨lv2_tup _ fun y hy => by
            rcases List.mem_append.mp hy with hy | hy
            · exact noRef_ints y hy
            · rw [List.mem_singleton.mp hy]; rfl, pathE_bad (x := .int rs.length) (by simp) (by simp [wholeB]; omega)⟩
        · exact ⟨lv2_tup _ fun y hy => by
            rcases List.mem_append.mp hy with hy | hy
            · exact noRef_ints y hy
            · rw [List.mem_singleton.mp hy]; rfl, pathE_bad (x := .int (-1)) (by simp) (by simp [wholeB])⟩
      · simp only [y1, List.mem_cons, List.not_mem_nil, or_false] at hx
        rcases hx with rfl | rfl
        · exact ⟨lv2_tup _ (by simp [noRef]), pathE_bad (x := .bl true) (by simp) rfl⟩
        · exact ⟨lv2_tup _ (by simp [noRef]), pathE_bad (x := .non) (by simp) rfl⟩
    · obtain ⟨o, ho, rfl⟩ := List.mem_map.mp hx
      obtain ⟨h1, h2⟩ := hosb o ho
      refine ⟨lv2_tup _ fun y hy => ?_, pathE_bad (x := o) (by simp) h1⟩
      simp only [List.mem_append, List.mem_singleton] at hy
      rcases hy with (hy | rfl) | hy
      · exact noRef_ints y (List.mem_of_mem_take hy)
      · exact h2
      · exact noRef_ints y (List.mem_of_mem_drop hy)
  have hy2 : os.filterMap (fun o => some (PV.tup ((p.map PV.int).take t ++ [o] ++ (p.map PV.int).drop (t + 1)))) = y2 := by
    show _ = os.map _
    rw [List.filterMap_eq_map']
  have hF : μ2.length + 2 ≠ j := by omega
  have hFμ : μ.length ≤ μ2.length + 2 := by have := f2.1; omega
  have gF3 : ((μ2 ++ [MO.lst [], MO.lst (p.map PV.int), MO.lst xs]).set (μ2.length + 2) (.lst (xs ++ y1)))[μ2.length + 2]? = some (.lst (xs ++ y1)) := List.getElem?_set_self (get_lt gF)
  have f3 : Fr j μ ((μ2 ++ [MO.lst [], MO.lst (p.map PV.int), MO.lst xs]).set (μ2.length + 2) (.lst (xs ++ y1))) := (f2.trans (ap.fr j)).setNew hFμ _
  have J3 : Jar j (k + 100 + 1) ((μ2 ++ [MO.lst [], MO.lst (p.map PV.int), MO.lst xs]).set (μ2.length + 2) (.lst (xs ++ y1))) := (ap.jar J2).setNe hF _
  have hx3 : ∀ x ∈ xs ++ y1 ++ y2, OddP rs ((μ2 ++ [MO.lst [], MO.lst (p.map PV.int), MO.lst xs]).set (μ2.length + 2) (.lst (xs ++ y1))) x := fun x h => ⟨lv2_set gF (hx x h).1, (hx x h).2⟩
  have hl : (xs ++ y1).length < 50 := by simp [xs, y1]
  have hl2 : y2.length < 50 := by simp [y2, os]
  generalize ((μ2 ++ [MO.lst [], MO.lst (p.map PV.int), MO.lst xs]).set (μ2.length + 2) (.lst (xs ++ y1))) = μ3 at e1 gF3 f3 J3 hx3
  generalize hXY : xs ++ y1 = XY at gF3 hl hx3
  simp only [xs, y1] at e1
  simp [rep_flat, hs1, hp00, -List.reduceReplicate, e1]
  refine OK.compP (fun o => some (.tup ((p.map PV.int).take t ++ [o] ++ (p.map PV.int).drop (t + 1)))) (fun o ho => ?_) (by simp) ?_
  · simp [ec1, ec2, hm1, hm2, hm3, hm4]
  simp only [os] at hy2
  rw [hy2]
  have e2 := ext_ok (b := .l y2) gF3 rfl (by omega)
  have gF4 : (μ3.set (μ2.length + 2) (.lst (XY ++ y2)))[μ2.length + 2]? = some (.lst (XY ++ y2)) := List.getElem?_set_self (get_lt gF3)
  have f4 := f3.setNew hFμ (.lst (XY ++ y2))
  have J4 := J3.setNe hF (.lst (XY ++ y2))
  have hx4 : ∀ x ∈ XY ++ y2, OddP rs (μ3.set (μ2.length + 2) (.lst (XY ++ y2))) x := fun x h => ⟨lv2_set gF3 (hx3 x h).1, (hx3 x h).2⟩
  have hl4 : (XY ++ y2).length < 100 := by simp; omega
  have hne4 : XY ++ y2 ≠ [] := by rw [← hXY]; simp [xs]
  generalize μ3.set (μ2.length + 2) (.lst (XY ++ y2)) = μ4 at e2 gF4 f4 J4 hx4
  generalize XY ++ y2 = Z at gF4 hx4 hl4 hne4
  have hsC : Sm (rs.length : Int) := Sm.nat (by omega)
  simp [e2, hsC]
  refine OK.comp (fun i acc μ' => μ' = μ4 ∧ ∃ as : List Nat, acc = as.map (fun (c : Nat) => .int (c : Int)) ∧ as.length ≤ i ∧ ∀ c ∈ as, last ∉ rs[c]?.getD []) ⟨rfl, [], rfl, by simp, fun _ h => by simp at h⟩ (fun _ _ _ _ => stay_nil _ _) (by simp; omega) (fun i acc μ' h => by obtain ⟨_, as, rfl, h, _⟩ := h; simpa using h) (fun i x acc μ' Q' hx hP r1 r2 => ?_) ?_
  · obtain ⟨rfl, as, rfl, hal, has⟩ := hP
    obtain ⟨hi, rfl⟩ := rng_get _ hx
    have hix : atI (rs.map lotP) (i : Int) = some (lotP rs[i]) := by
      rw [atI_nat (by simpa using hi)]
      simp
    have hin := inA_ints (μ := μ') (a := .v (lotP rs[i])) (r := rs[i]) rfl last
    by_cases hm : last ∈ rs[i]
    · simp [hlast, hix, hin, hm]
      exact r2 _ ⟨rfl, as, rfl, by omega, has⟩
    · simp [hlast, hix, hin, hm]
      refine r1 _ _ ⟨rfl, as ++ [i], by simp, by simp; omega, fun c hc => ?_⟩
      rcases List.mem_append.mp hc with hc | hc
      · exact has c hc
      · rw [List.mem_singleton] at hc
        subst hc
        simpa [hi] using hm
  rintro acc μ' ⟨rfl, as, rfl, hal, has⟩
  simp at hal
  have apL : Ap μ' (μ' ++ [MO.lst (as.map fun (c : Nat) => PV.int (c : Int))]) := (Ap.refl μ').app _
  have gL : (μ' ++ [MO.lst (as.map fun (c : Nat) => PV.int (c : Int))])[μ'.length]? = some (.lst (as.map fun (c : Nat) => PV.int (c : Int))) := by simp
  have gF5 := apL.get gF4
  have f5 := f4.trans (apL.fr j)
  have J5 := apL.jar J4
  have hx5 : ∀ x ∈ Z, OddP rs (μ' ++ [MO.lst (as.map fun (c : Nat) => PV.int (c : Int))]) x := fun x h => ⟨apL.lv2 (hx4 x h).1, (hx4 x h).2⟩
  simp
  generalize (μ' ++ [MO.lst (as.map fun (c : Nat) => PV.int (c : Int))]) = μ5 at gL gF5 f5 J5 hx5
  generalize μ'.length = L at gL
  let w1 : List PV := (as.map fun (c : Nat) => PV.int (c : Int)).map fun o => .tup (p.map PV.int ++ [o])
  let w2 : List PV := (as.map fun (c : Nat) => PV.int (c : Int)).map fun o => .tup (p.map PV.int ++ [o, .non])
  have hw1 : (as.map fun (c : Nat) => PV.int (c : Int)).filterMap (fun o => some (PV.tup (p.map PV.int ++ [o]))) = w1 := by
    show _ = List.map _ _
    rw [List.filterMap_eq_map']
  have hw2 : (as.map fun (c : Nat) => PV.int (c : Int)).filterMap (fun o => some (PV.tup (p.map PV.int ++ [o, .non]))) = w2 := by
    show _ = List.map _ _
    rw [List.filterMap_eq_map']
  refine OK.compP (fun o => some (.tup (p.map PV.int ++ [o]))) (fun o ho => ?_) (by simp; omega) ?_
  · simp [hs1]
  rw [hw1]
  simp [gL]
  refine OK.compP (fun o => some (.tup (p.map PV.int ++ [o, .non]))) (fun o ho => ?_) (by simp; omega) ?_
  · simp [hs12]
  rw [hw2]
  have lw1 : w1.length = as.length := by simp [w1]
  have lw2 : w2.length = as.length := by simp [w2]
  have hww : ∀ x ∈ w1 ++ w2, Lv2 μ5 x ∧ pathE rs x ≠ none := fun x hx => by
    rcases List.mem_append.mp hx with hx | hx
    · obtain ⟨o, ho, rfl⟩ := List.mem_map.mp hx
      obtain ⟨c, hc, rfl⟩ := List.mem_map.mp ho
      refine ⟨lv2_tup _ fun y hy => ?_, ?_⟩
      · rcases List.mem_append.mp hy with hy | hy
        · exact noRef_ints y hy
        · rw [List.mem_singleton.mp hy]; rfl
      · rw [hpre]
        exact pathE_lone (by omega) (by simpa using has c hc)
    · obtain ⟨o, ho, rfl⟩ := List.mem_map.mp hx
      obtain ⟨c, hc, rfl⟩ := List.mem_map.mp ho
      refine ⟨lv2_tup _ fun y hy => ?_, pathE_bad (x := .non) (by simp) rfl⟩
      simp only [List.mem_append, List.mem_cons, List.not_mem_nil, or_false] at hy
      rcases hy with hy | rfl | rfl
      · exact noRef_ints y hy
      · rfl
      · rfl
  have hwl : (w1 ++ w2).length ≤ 16777216 := by simp [lw1, lw2]; omega
  have hwl2 : w1.length + w2.length ≤ 16777216 := by rw [lw1, lw2]; omega
  have e3 := ext_ok (b := .l (w1 ++ w2)) gF5 rfl (by rw [List.length_append, lw1, lw2]; omega)
  have gF6 : (μ5.set (μ2.length + 2) (.lst (Z ++ (w1 ++ w2))))[μ2.length + 2]? = some (.lst (Z ++ (w1 ++ w2))) := List.getElem?_set_self (get_lt gF5)
  have f6 := f5.setNew hFμ (.lst (Z ++ (w1 ++ w2)))
  have J6 := J5.setNe hF (.lst (Z ++ (w1 ++ w2)))
  have hx6 : ∀ x ∈ Z ++ (w1 ++ w2), OddP rs (μ5.set (μ2.length + 2) (.lst (Z ++ (w1 ++ w2)))) x := fun x h => by
    rcases List.mem_append.mp h with h | h
    · exact ⟨lv2_set gF5 (hx5 x h).1, (hx5 x h).2⟩
    · exact ⟨lv2_set gF5 (hww x h).1, (hww x h).2⟩
  generalize μ5.set (μ2.length + 2) (.lst (Z ++ (w1 ++ w2))) = μ6 at e3 gF6 f6 J6 hx6
  generalize w1 = w1 at *
  generalize w2 = w2 at *
  simp [hwl2, e3]
  refine one_ok g.take g.one (n + 1) J6 (by omega) (p := .ref (μ2.length + 2)) (xs := Z ++ (w1 ++ w2)) (by simp [gF6]) (by simp [hF]) (by simp [hne4]) (by rw [List.length_append, List.length_append, lw1, lw2]; omega) fun y l hy J7 => ?_
  have f7 : Fr j μ6 (μ6.set j l) := (Fr.refl j μ6).set l
  have ho := hx6 y hy
  have hlv := f7.lv2 J7 ho.1
  have e5 := path_fault_eq g.toKW.toFormG g.toRowG n (rs := rs) hlv
  simp [e5]
  exact q _ _ ⟨hlv, ho.2⟩ (f6.trans f7) (J7.mono (by omega))
theorem args_ok {j k : Nat} {μ : Mu} (J : Jar j k μ) (hk : k < 2 ^ 54) {R O : Nat} (hR : R ≠ j) (hO : O ≠ j) {ws : List PV} {ods : List (PV × PV)} (gR : μ[R]? = some (.lst ws)) (gO : μ[O]? = some (.lst (ods.map fun p => .tup [p.1, p.2]))) (hl : ws.length = ods.length) (h0 : ws ≠ []) (hl2 : ws.length ≤ 10)
    {Q : PV → Mu → Prop} (q : ∀ W t (ht : t < ods.length) rest μ', rest.length + t + 1 = ws.length → W ≠ j → μ.length ≤ W → μ'[W]? = some (.lst (ws.take t ++ [ods[t].1] ++ rest)) → Fr j μ μ' → Jar j (k + 12) μ' → Q (.tup [.ref W, ods[t].2]) μ') : OK (callN G (n + 3) "_law_yw_arguments" [.ref j, .ref R, .ref O] μ) Q := by
  have hj := J.lt
  have hw0 : 0 < ws.length := List.length_pos_iff.mpr h0
  rw [callN_eq (n + 2) g.arguments rfl]
  simp [i_law_yw_arguments, gR]
  refine take_ok g.take (n + 1) J (by omega) (by omega) (by omega) fun t l ht J2 => ?_
  have gR2 : (μ.set j l)[R]? = some (.lst ws) := by rw [List.getElem?_set_ne (Ne.symm hR), gR]
  have gO2 : (μ.set j l)[O]? = some (.lst (ods.map fun p => .tup [p.1, p.2])) := by rw [List.getElem?_set_ne (Ne.symm hO), gO]
  have f : Fr j μ (μ.set j l) := (Fr.refl j μ).set l
  have hlen : (μ.set j l).length = μ.length := by simp
  generalize μ.set j l = μ1 at J2 gR2 gO2 f hlen
  have htw : t < ws.length := by omega
  have hto : t < ods.length := by omega
  have hat : ∀ i, (hi : i < ods.length) → atI (ods.map fun p => PV.tup [p.1, p.2]) (i : Int) = some (.tup [ods[i].1, ods[i].2]) := fun i hi => by
    rw [atI_nat (by simpa using hi)]
    simp
  have haw : ∀ i, (hi : i < ws.length) → atI ws (i : Int) = some ws[i] := fun i hi => atI_nat hi
  have hcut := cut_to (xs := ws) (k := t) (by omega)
  have hm : min t ws.length + 1 ≤ 16777216 := by omega
  have gR3 := get_app (ν := [MO.lst (ws.take t ++ [ods[t].1])]) gR2
  have gO3 := get_app (ν := [MO.lst (ws.take t ++ [ods[t].1])]) gO2
  have hs1 : Sm ((t : Int) + 1) := by
    have := Sm.nat (k := t + 1) (by omega)
    simpa using this
  have hs2 : Sm (ws.length : Int) := Sm.nat (by omega)
  have hsub : ((ws.length : Int) - ((t : Int) + 1)).toNat = ws.length - (t + 1) := by omega
  have gW : (μ1 ++ [MO.lst (ws.take t ++ [ods[t].1])])[μ1.length]? = some (.lst (ws.take t ++ [ods[t].1])) := by simp
  have f3 : Fr j μ (μ1 ++ [MO.lst (ws.take t ++ [ods[t].1])]) := f.app _
  have J3 := J2.app [MO.lst (ws.take t ++ [ods[t].1])]
  simp [gR2, gO2, hat t hto, ix0, hcut, hm, gR3, gO3, hs1, hs2, hsub]
  generalize hW : μ1.length = W at gW
  generalize (μ1 ++ [MO.lst (ws.take t ++ [ods[t].1])]) = μ2 at gW f3 J3 gR3 gO3
  have hWj : W ≠ j := by omega
  refine OK.comp (fun i acc μ' => Fr j μ2 μ' ∧ Jar j (k + 1 + i) μ' ∧ acc.length = i) ⟨Fr.refl _ _, J3, rfl⟩ (fun _ _ _ _ => stay_nil _ _) (by simp; omega) (fun i acc μ' h => by omega) (fun i x acc μ' Q' hx hP q1 _ => ?_) ?_
  · obtain ⟨f4, J4, hal⟩ := hP
    obtain ⟨hi, rfl⟩ := rng_get _ hx
    have gR4 : μ'[R]? = some (.lst ws) := by rw [f4.2 R (get_lt gR3) hR, gR3]
    have gO4 : μ'[O]? = some (.lst (ods.map fun p => .tup [p.1, p.2])) := by rw [f4.2 O (get_lt gO3) hO, gO3]
    have ei : (t : Int) + 1 + (i : Int) = ((t + 1 + i : Nat) : Int) := by omega
    have h1 := haw (t + 1 + i) (by omega)
    have h2 := hat (t + 1 + i) (by omega)
    rw [← ei] at h1 h2
    have hj4 := J4.lt
    simp [gR4, gO4, h1, h2, ix0]
    refine one_ok g.take g.one n (xs := [ws[t + 1 + i], ods[t + 1 + i].1]) (J4.app _) (by omega) (by simp) (by simp; omega) (by simp) (by simp) fun y l hy J5 => ?_
    simp
    exact q1 _ _ ⟨(f4.app _).set l, by rw [← Nat.add_assoc]; exact J5, by simp [hal]⟩
  · rintro acc μ' ⟨f4, J4, hal⟩
    rw [List.length_map, List.length_range] at hal J4
    have gW4 : μ'[W]? = some (.lst (ws.take t ++ [ods[t].1])) := by rw [f4.2 W (get_lt gW) hWj, gW]
    have gO4 : μ'[O]? = some (.lst (ods.map fun p => .tup [p.1, p.2])) := by rw [f4.2 O (get_lt gO3) hO, gO3]
    have e2 := ext_ok (b := .l acc) gW4 rfl (by simp; omega)
    have hOW : O ≠ W := by have := get_lt gO2; omega
    have gO5 : (μ'.set W (.lst (ws.take t ++ [ods[t].1] ++ acc)))[O]? = some (.lst (ods.map fun p => .tup [p.1, p.2])) := by rw [List.getElem?_set_ne (Ne.symm hOW), gO4]
    have hWμ : μ.length ≤ W := by omega
    have gW5 : (μ'.set W (.lst (ws.take t ++ [ods[t].1] ++ acc)))[W]? = some (.lst (ws.take t ++ [ods[t].1] ++ acc)) := List.getElem?_set_self (get_lt gW4)
    have f5 := (f3.trans f4).setNew hWμ (.lst (ws.take t ++ [ods[t].1] ++ acc))
    have J5 := J4.setNe hWj (.lst (ws.take t ++ [ods[t].1] ++ acc))
    generalize (μ'.set W (.lst (ws.take t ++ [ods[t].1] ++ acc))) = μ5 at e2 gO5 gW5 f5 J5
    simp [e2, gO5, hat t hto, ix1]
    exact q W t hto acc μ5 (by omega) hWj hWμ gW5 f5 (J5.mono (by omega))
end
end
end Ev

set_option Elab.async false
set_option linter.all false
set_option maxRecDepth 100000
/-! EvZ8: k05: refusals. Own work. -/
namespace Ev
open PySem PySem.Spec PyProof.Rows L2
open Classical
noncomputable section
def r5B : S := .seq (.asg (.nm 5) (.lst (.cons (.heard "_law_n5_heard" (.call "first_places" (.cons (.ix (.var 3) (.int 0)) (.cons (.ix (.var 3) (.int 1)) (.cons (.ix (.var 3) (.int 2)) .nil))))) .nil))) (.seq (.expr (.app (.var 5) (.heard "_law_n5_heard" (.call "built_length" (.cons (.ix (.var 3) (.int 0)) (.cons (.ix (.var 3) (.int 1)) (.cons (.ix (.var 3) (.int 2)) .nil))))))) (.seq (.expr (.app (.var 5) (.heard "_law_n5_heard" (.call "built" (.cons (.ix (.var 3) (.int 0)) (.cons (.ix (.var 3) (.int 1)) (.cons (.ix (.var 3) (.int 2)) .nil))))))) (.seq (.asg (.tup (.cons (.nm 6) (.cons (.nm 7) .nil))) (.call "_law_yw_arguments" (.cons (.var 0) (.cons (.lst (.cons (.var 1) (.cons (.tup .nil) .nil))) (.cons (.slice (.var 2) .nil (.cons (.int 2) .nil)) .nil))))) (.seq (.expr (.app (.var 5) (.heard "_law_n5_heard" (.call "made_row" (.cons (.ix (.var 6) (.int 0)) (.cons (.ix (.var 6) (.int 1)) .nil)))))) (.seq (.expr (.app (.var 5) (.heard "_law_n5_heard" (.call "is_row" (.cons (.ix (.ix (.var 2) (.int 0)) (.int 0)) (.cons (.tup .nil) .nil)))))) (.seq (.ret (.call "_law_yq_same" (.cons (.var 5) (.cons (.lst (.cons (.var 4) (.cons (.var 4) (.cons (.var 4) (.cons (.var 7) (.cons (.ix (.ix (.var 2) (.int 0)) (.int 1)) .nil)))))) .nil)))) .nil))))))
def r5A : S := .seq (.asg (.nm 2) (.lst (.cons (.call "_law_yw_odd_web" (.cons (.var 0) (.cons (.var 1) .nil))) (.cons (.call "_law_yw_odd_row" (.cons (.var 0) (.cons (.var 1) .nil))) (.cons (.call "_law_yw_odd_path" (.cons (.var 0) (.cons (.var 1) .nil))) .nil))))) (.seq (.asg (.tup (.cons (.nm 3) (.cons (.nm 4) .nil))) (.call "_law_yw_arguments" (.cons (.var 0) (.cons (.lst (.cons (.var 1) (.cons (.tup .nil) (.cons (.tup (.cons (.int 0) .nil)) .nil)))) (.cons (.var 2) .nil))))) r5B)
theorem r5_body : i_law_n5_refused_right.body = r5A := rfl
/-- the refusal as it is told -/
abbrev dueP (c : String) (w : Int) : PV := .tup [.str (Str.ofString c), .int w]
theorem dueS (μ : Mu) {c : String} {w : Int} (h : PyData.strOk (Str.ofString c) = true) : SameR μ (dueP c w) (dueP c w) 3 := .tup (.cons (.str _ h) (.cons (.int w) .nil))
theorem cut2 (x y z : PV) : cutP [x, y, z] none (some 2) = [x, y] := by
  have := cut_to (xs := [x, y, z]) (k := 2) (by simp)
  simpa using this
section
variable {G : Gm} (g : K5 G) (n : Nat)
include g
theorem made_row_web {μ : Mu} {pw p : PV} (hw : Lv3 μ pw) {c : String} {w : Int} (h : webE pw = some (c, w)) : callN G (n + 6) "made_row" [pw, p] μ = .exc c (.int w) μ := by
  rw [callN_eq (n + 5) g.made_row rfl]
  have e1 := asked_web_eq g.toKW.toWebG n hw
  simp [imade_row, e1, h, excO]
theorem is_row_web {μ : Mu} {pw p : PV} (hw : Lv3 μ pw) {c : String} {w : Int} (h : webE pw = some (c, w)) : callN G (n + 6) "is_row" [pw, p] μ = .exc c (.int w) μ := by
  rw [callN_eq (n + 5) g.is_row rfl]
  have e1 := asked_web_eq g.toKW.toWebG n hw
  simp [iis_row, e1, h, excO]
theorem r5B_ok {j k : Nat} {μ : Mu} (J : Jar j k μ) (hk : k < 2 ^ 53) {rs : List (List Int)} (hw : Web rs) {O W : Nat} {ow orow a0 a1 a2 y : PV} {c c1 c2 : String} {w w1 w2 : Int} (hW : W ≠ j) (hO : O ≠ j)
    (gO : μ[O]? = some (.lst [.tup [ow, dueP c1 w1], .tup [orow, dueP c2 w2], y])) (gW : μ[W]? = some (.lst [a0, a1, a2])) (how : Fm μ ow) (hor : Lv2 μ orow) (ew : webE ow = some (c1, w1)) (er : rowE rs.length orow = some (c2, w2))
    (hc : c ∈ ["BadWeb", "BadRow", "BadPath", "TooMany"]) (hab : ∀ μ', Ap μ μ' → ∀ n, callN G (n + 6) "asked_built" [a0, a1, a2] μ' = .exc c (.int w) μ') {s5 s6 s7 : Option PV} {Q : PV → Mu → Prop} (q : ∀ μ', Fr j μ μ' → Jar j (k + 12) μ' → Q (.bl true) μ') :
    OK ((ex (wd G (callN G (n + 7))) r5B [some (.ref j), some (webP rs), some (.ref O), some (.ref W), some (dueP c w), s5, s6, s7] μ).bind outO) Q := by
  have hj := J.lt
  have hfuel := g.fuel
  have hc1 : c1 ∈ ["BadWeb", "BadRow", "BadPath", "TooMany"] := by rcases webE_cls ew with rfl | rfl <;> simp
  have hc2 : c2 ∈ ["BadWeb", "BadRow", "BadPath", "TooMany"] := by rcases rowE_cls er with rfl | rfl <;> simp
  have T := fun w μ => (told5 g hc w μ).1
  have ok0 := (told5 g hc .non []).2
  have T1 := fun w μ => (told5 g hc1 w μ).1
  have ok1 := (told5 g hc1 .non []).2
  have T2 := fun w μ => (told5 g hc2 w μ).1
  have ok2 := (told5 g hc2 .non []).2
  have apT : ∀ o, Ap μ (μ ++ [o]) := fun o => (Ap.refl μ).app _
  have e1 := fp_exc g n (hab μ (Ap.refl μ))
  have e2 := bl_exc g n (hab _ (apT (MO.lst [dueP c w])))
  have e3 := bu_exc g n (hab _ (apT (MO.lst [dueP c w, dueP c w])))
  have gW1 := get_app (ν := [MO.lst [dueP c w]]) gW
  have gW2 := get_app (ν := [MO.lst [dueP c w, dueP c w]]) gW
  have gO3 := get_app (ν := [MO.lst [dueP c w, dueP c w, dueP c w]]) gO
  have gO3' := get_app (ν := [MO.lst [dueP c w, dueP c w, dueP c w], MO.lst [webP rs, .tup []]]) gO
  have cc := cut2 (.tup [ow, dueP c1 w1]) (.tup [orow, dueP c2 w2]) y
  simp [r5B, gW, gW1, gW2, gO3, gO3', ix0, ix1, ix2, g.hrd, e1, e2, e3, T, cc]
  have apA : Ap μ (μ ++ [MO.lst [dueP c w, dueP c w, dueP c w], MO.lst [webP rs, .tup []], MO.lst [.tup [ow, dueP c1 w1], .tup [orow, dueP c2 w2]]]) := (Ap.refl μ).app _
  have gT : (μ ++ [MO.lst [dueP c w, dueP c w, dueP c w], MO.lst [webP rs, .tup []], MO.lst [.tup [ow, dueP c1 w1], .tup [orow, dueP c2 w2]]])[μ.length]? = some (.lst [dueP c w, dueP c w, dueP c w]) := by simp
  have gR : (μ ++ [MO.lst [dueP c w, dueP c w, dueP c w], MO.lst [webP rs, .tup []], MO.lst [.tup [ow, dueP c1 w1], .tup [orow, dueP c2 w2]]])[μ.length + 1]? = some (.lst [webP rs, .tup []]) := by simp
  have gP : (μ ++ [MO.lst [dueP c w, dueP c w, dueP c w], MO.lst [webP rs, .tup []], MO.lst [.tup [ow, dueP c1 w1], .tup [orow, dueP c2 w2]]])[μ.length + 2]? = some (.lst ([(ow, dueP c1 w1), (orow, dueP c2 w2)].map fun p => .tup [p.1, p.2])) := by simp
  have JA := apA.jar J
  have fA := apA.fr j
  have gOA := apA.get gO
  have howA := how.ap apA
  have horA := apA.lv2 hor
  generalize (μ ++ [MO.lst [dueP c w, dueP c w, dueP c w], MO.lst [webP rs, .tup []], MO.lst [.tup [ow, dueP c1 w1], .tup [orow, dueP c2 w2]]]) = μA at apA gT gR gP JA fA gOA howA horA
  refine args_ok g (n + 4) JA (by omega) (R := μ.length + 1) (O := μ.length + 2) (by omega) (by omega) gR gP rfl (by simp) (by simp) fun W2 t ht rest μB hrest hW2 _ gW2 fB JB => ?_
  have hTj : μ.length ≠ j := by omega
  have gTB : μB[μ.length]? = some (.lst [dueP c w, dueP c w, dueP c w]) := by rw [fB.2 _ (get_lt gT) hTj, gT]
  have gOB : μB[O]? = some (.lst [.tup [ow, dueP c1 w1], .tup [orow, dueP c2 w2], y]) := by rw [fB.2 _ (get_lt gOA) hO, gOA]
  have howB := fB.fm JB howA
  have horB := fB.lv2 JB horA
  have f0B := fA.trans fB
  have hOT : O ≠ μ.length := by have := get_lt gO; omega
  have ewB : ∀ μ', Lv3 μ' ow → ∀ n, callN G (n + 6) "is_row" [ow, .tup []] μ' = .exc c1 (.int w1) μ' := fun μ' h n => is_row_web g n h ew
  -- the end, once made_row's answer is known
  have fin : ∀ (f0 f1 : PV) (c3 : String) (w3 : Int) (s6 s7 : Option PV), PyData.strOk (Str.ofString c3) = true → told h5 (.exc c3 (.int w3) μB) = .ok (.v (dueP c3 w3)) μB → μB[W2]? = some (.lst [f0, f1]) → callN G (n + 7) "made_row" [f0, f1] μB = .exc c3 (.int w3) μB →
      OK ((ex (wd G (callN G (n + 7))) (.seq (.expr (.app (.var 5) (.heard "_law_n5_heard" (.call "made_row" (.cons (.ix (.var 6) (.int 0)) (.cons (.ix (.var 6) (.int 1)) .nil)))))) (.seq (.expr (.app (.var 5) (.heard "_law_n5_heard" (.call "is_row" (.cons (.ix (.ix (.var 2) (.int 0)) (.int 0)) (.cons (.tup .nil) .nil)))))) (.seq (.ret (.call "_law_yq_same" (.cons (.var 5) (.cons (.lst (.cons (.var 4) (.cons (.var 4) (.cons (.var 4) (.cons (.var 7) (.cons (.ix (.ix (.var 2) (.int 0)) (.int 1)) .nil)))))) .nil)))) .nil)))
        [some (.ref j), some (webP rs), some (.ref O), some (.ref W), some (dueP c w), some (.ref μ.length), some (.ref W2), some (dueP c3 w3)] μB).bind outO) Q := fun f0 f1 c3 w3 s6 s7 ok3 T3 gW3 e4 => by
    have gTC : (μB.set μ.length (.lst [dueP c w, dueP c w, dueP c w, dueP c3 w3]))[μ.length]? = some (.lst [dueP c w, dueP c w, dueP c w, dueP c3 w3]) := List.getElem?_set_self (get_lt gTB)
    have gOC : (μB.set μ.length (.lst [dueP c w, dueP c w, dueP c w, dueP c3 w3]))[O]? = some (.lst [.tup [ow, dueP c1 w1], .tup [orow, dueP c2 w2], y]) := by rw [List.getElem?_set_ne (Ne.symm hOT), gOB]
    have ea : appA (.v (.ref μ.length)) (dueP c3 w3) μB = some (.v .non, μB.set μ.length (.lst [dueP c w, dueP c w, dueP c w, dueP c3 w3])) := by simp [gTB]
    have hlvC : Lv3 (μB.set μ.length (.lst [dueP c w, dueP c w, dueP c w, dueP c3 w3])) ow := by
      have h := howB.1
      exact ⟨lv1_set gTB h.1, fun xs e x hx => lv2_set gTB (h.2 xs e x hx)⟩
    have fC : Fr j μ (μB.set μ.length (.lst [dueP c w, dueP c w, dueP c w, dueP c3 w3])) := f0B.setNew (Nat.le_refl _) _
    have JC := JB.setNe hTj (.lst [dueP c w, dueP c w, dueP c w, dueP c3 w3])
    generalize (μB.set μ.length (.lst [dueP c w, dueP c w, dueP c w, dueP c3 w3])) = μC at gTC gOC ea hlvC fC JC
    have e5 := ewB μC hlvC (n + 1)
    have gTD : (μC.set μ.length (.lst [dueP c w, dueP c w, dueP c w, dueP c3 w3, dueP c1 w1]))[μ.length]? = some (.lst [dueP c w, dueP c w, dueP c w, dueP c3 w3, dueP c1 w1]) := List.getElem?_set_self (get_lt gTC)
    have gOD : (μC.set μ.length (.lst [dueP c w, dueP c w, dueP c w, dueP c3 w3, dueP c1 w1]))[O]? = some (.lst [.tup [ow, dueP c1 w1], .tup [orow, dueP c2 w2], y]) := by rw [List.getElem?_set_ne (Ne.symm hOT), gOC]
    have eb : appA (.v (.ref μ.length)) (dueP c1 w1) μC = some (.v .non, μC.set μ.length (.lst [dueP c w, dueP c w, dueP c w, dueP c3 w3, dueP c1 w1])) := by simp [gTC]
    have fD := fC.setNew (Nat.le_refl _) (.lst [dueP c w, dueP c w, dueP c w, dueP c3 w3, dueP c1 w1])
    have JD := JC.setNe hTj (.lst [dueP c w, dueP c w, dueP c w, dueP c3 w3, dueP c1 w1])
    generalize (μC.set μ.length (.lst [dueP c w, dueP c w, dueP c w, dueP c3 w3, dueP c1 w1])) = μD at gTD gOD eb fD JD
    simp [gW3, ix0, ix1, g.hrd, e4, T3, ea, gOC, e5, T1, eb, gOD, -appA_ref]
    refine same_ok g.same g.qwhole (n + 5) (SameR.ref (get_app gTD) (by simp) (.cons (dueS _ ok0) (.cons (dueS _ ok0) (.cons (dueS _ ok0) (.cons (dueS _ ok3) (.cons (dueS _ ok1) .nil)))))) (by omega) (by omega) ?_
    simp
    exact q _ (fD.app _) ((JD.app _).mono (by omega))
  simp at ht
  have ht2 : t = 0 ∨ t = 1 := by omega
  rcases ht2 with rfl | rfl
  · obtain ⟨r1, rfl⟩ : ∃ r1, rest = [r1] := by
      match rest, hrest with
      | [r1], _ => exact ⟨r1, rfl⟩
    simp at gW2
    have := fin ow r1 c1 w1 none none ok1 (T1 _ _) gW2 (made_row_web g (n + 1) howB.1 ew)
    simpa using this
  · obtain rfl : rest = [] := by
      match rest, hrest with
      | [], _ => rfl
    simp at gW2
    have e9 := made_row_eq g (n + 1) hw horB
    rw [er] at e9
    have := fin (webP rs) orow c2 w2 none none ok2 (T2 _ _) gW2 e9
    simpa using this
theorem refused5_ok {j k : Nat} {μ : Mu} (J : Jar j k μ) (hk : k < 2 ^ 52) {rs : List (List Int)} (hw : Web rs) (h0 : rs ≠ []) {Q : PV → Mu → Prop} (q : ∀ μ', Fr j μ μ' → Jar j (k + 500) μ' → Q (.bl true) μ') : OK (callN G (n + 8) "_law_n5_refused_right" [.ref j, webP rs] μ) Q := by
  have hj := J.lt
  have hN : i_law_n5_refused_right.N.length - i_law_n5_refused_right.ps.length = 6 := rfl
  rw [callN_eq (n + 7) g.refused_right rfl, r5_body, hN]
  simp [r5A]
  refine odd_web_ok g.toKW (n + 2) J (by omega) hw fun ow μ1 how f1 J1 => ?_
  simp
  refine odd_row_ok g (n + 2) J1 (by omega) hw h0 fun orow μ2 hor f2 J2 => ?_
  simp
  refine odd_path_ok g (n + 3) J2 (by omega) hw h0 fun op μ3 hop f3 J3 => ?_
  have how3 := f3.odd J3 (f2.odd J2 how)
  have hor3 := f3.lv2 J3 hor.1
  have hop3 := hop.1
  obtain ⟨⟨c1, w1⟩, ew⟩ := Option.ne_none_iff_exists'.mp how.2
  obtain ⟨⟨c2, w2⟩, er⟩ := Option.ne_none_iff_exists'.mp hor.2
  obtain ⟨⟨c3, w3⟩, ep⟩ := Option.ne_none_iff_exists'.mp hop.2
  have eF : webF ow = dueP c1 w1 := by
    unfold webF
    rw [ew]
    rfl
  have eR : excP (rowE rs.length orow) = dueP c2 w2 := by rw [er]; rfl
  have eP : excP (pathE rs op) = dueP c3 w3 := by rw [ep]; rfl
  rw [eP]
  have f123 := (f1.trans f2).trans f3
  have ap4 : Ap μ3 (μ3 ++ [MO.lst [.tup [ow, dueP c1 w1], .tup [orow, dueP c2 w2], .tup [op, dueP c3 w3]], MO.lst [webP rs, .tup [], .tup [.int 0]]]) := (Ap.refl μ3).app _
  have gO : (μ3 ++ [MO.lst [.tup [ow, dueP c1 w1], .tup [orow, dueP c2 w2], .tup [op, dueP c3 w3]], MO.lst [webP rs, .tup [], .tup [.int 0]]])[μ3.length]? = some (.lst ([(ow, dueP c1 w1), (orow, dueP c2 w2), (op, dueP c3 w3)].map fun p => .tup [p.1, p.2])) := by simp
  have gR : (μ3 ++ [MO.lst [.tup [ow, dueP c1 w1], .tup [orow, dueP c2 w2], .tup [op, dueP c3 w3]], MO.lst [webP rs, .tup [], .tup [.int 0]]])[μ3.length + 1]? = some (.lst [webP rs, .tup [], .tup [.int 0]]) := by simp
  have J4 := ap4.jar J3
  have f4 := f123.trans (ap4.fr j)
  have how4 := how3.1.ap ap4
  have hor4 := ap4.lv2 hor3
  have hop4 := ap4.lv2 hop3
  simp [eF, eR]
  generalize (μ3 ++ [MO.lst [.tup [ow, dueP c1 w1], .tup [orow, dueP c2 w2], .tup [op, dueP c3 w3]], MO.lst [webP rs, .tup [], .tup [.int 0]]]) = μ4 at ap4 gO gR J4 f4 how4 hor4 hop4
  have hl3 : μ.length ≤ μ3.length := f123.1
  refine args_ok g (n + 4) J4 (by omega) (R := μ3.length + 1) (O := μ3.length) (by omega) (by omega) gR gO rfl (by simp) (by simp) fun W t ht rest μ5 hrest hW _ gW f5 J5 => ?_
  have how5 := f5.fm J5 how4
  have hor5 := f5.lv2 J5 hor4
  have hop5 := f5.lv2 J5 hop4
  have gO5 : μ5[μ3.length]? = some (.lst [.tup [ow, dueP c1 w1], .tup [orow, dueP c2 w2], .tup [op, dueP c3 w3]]) := by
    rw [f5.2 _ (get_lt gO) (by omega), gO]
    simp
  have f05 := f4.trans f5
  have hc1 : c1 ∈ ["BadWeb", "BadRow", "BadPath", "TooMany"] := by rcases webE_cls ew with rfl | rfl <;> simp
  have hc2 : c2 ∈ ["BadWeb", "BadRow", "BadPath", "TooMany"] := by rcases rowE_cls er with rfl | rfl <;> simp
  have hc3 : c3 ∈ ["BadWeb", "BadRow", "BadPath", "TooMany"] := by rcases pathE_cls ep with rfl | rfl <;> simp
  have fin : ∀ μ', Fr j μ5 μ' → Jar j (k + 6 + 310 + 110 + 12 + 12) μ' → Q (.bl true) μ' := fun μ' f h => q μ' (f05.trans f) (h.mono (by omega))
  simp at ht
  have ht3 : t = 0 ∨ t = 1 ∨ t = 2 := by omega
  rcases ht3 with rfl | rfl | rfl
  · obtain ⟨r1, r2, rfl⟩ : ∃ r1 r2, rest = [r1, r2] := by
      match rest, hrest with
      | [r1, r2], _ => exact ⟨r1, r2, rfl⟩
    simp at gW
    have := r5B_ok g n J5 (by omega) hw hW (by omega) gO5 gW how5 hor5 ew er hc1 (w := w1) (fun μ' ap n => ab_web g n (ap.lv3 how5.1) ew) (s5 := none) (s6 := none) (s7 := none) (Q := Q) fin
    simpa using this
  · obtain ⟨r1, rfl⟩ : ∃ r1, rest = [r1] := by
      match rest, hrest with
      | [r1], _ => exact ⟨r1, rfl⟩
    simp at gW
    have := r5B_ok g n J5 (by omega) hw hW (by omega) gO5 gW how5 hor5 ew er hc2 (w := w2) (fun μ' ap n => ab_row g n hw (ap.lv2 hor5) er) (s5 := none) (s6 := none) (s7 := none) (Q := Q) fin
    simpa using this
  · obtain rfl : rest = [] := by
      match rest, hrest with
      | [], _ => rfl
    simp at gW
    have := r5B_ok g n J5 (by omega) hw hW (by omega) gO5 gW how5 hor5 ew er hc3 (w := w3) (fun μ' ap n => ab_path g n hw (lv2_tup _ (by simp)) (ap.lv2 hop5) (rowE_none.mpr ⟨[], rfl, by simp, by simp⟩) ep) (s5 := none) (s6 := none) (s7 := none) (Q := Q) fin
    simpa using this
end
end
end Ev

set_option Elab.async false
set_option linter.all false
set_option maxRecDepth 100000
/-! EvZ9: k05: the law. Own work. -/
namespace Ev
open PySem PySem.Spec PyProof.Rows L2
open Classical
noncomputable section
def k5L1 : S := .seq (.ife (.or (.not (.call "_law_n5_right" (.cons (.var 3) (.cons (.var 9) (.cons (.var 4) .nil))))) (.not (.call "_law_n5_right" (.cons (.var 3) (.cons (.var 9) (.cons (.slice (.var 4) .nil (.cons (.bin .add (.int 1) (.call "_law_take" (.cons (.var 1) (.cons (.bi .len (.cons (.var 4) .nil)) .nil)))) .nil)) .nil)))))) (.seq (.ret (.bl false)) .nil) (.nil)) .nil
def k5L2 : S := .seq (.ife (.not (.call "_law_n5_form_right" (.cons (.var 3) (.cons (.var 10) .nil)))) (.seq (.ret (.bl false)) .nil) (.nil)) .nil
def k5P3 : S := .seq (.ife (.not (.call "_law_n5_refused_right" (.cons (.var 1) (.cons (.var 3) .nil)))) (.seq (.ret (.bl false)) .nil) (.nil)) .nil
def k5P2 : S := .seq (.forr (.nm 10) (.lst (.cons (.var 5) (.cons (.ix (.call "_law_yw_odd_row" (.cons (.var 1) (.cons (.var 3) .nil))) (.int 0)) (.cons (.ix (.call "_law_yw_odd_row" (.cons (.var 1) (.cons (.var 3) .nil))) (.int 0)) .nil)))) k5L2) k5P3
def k5P1 : S := .seq (.asg (.nm 8) (.lst (.cons (.var 5) (.cons (.var 4) (.cons (.bin .add (.var 5) (.var 4)) (.cons (.bin .add (.bin .add (.slice (.var 4) .nil (.cons (.neg (.int 1)) .nil)) (.var 5)) (.slice (.var 4) (.cons (.neg (.int 1)) .nil) .nil)) (.cons (.bin .add (.bin .add (.slice (.var 5) .nil (.cons (.var 6) .nil)) (.var 4)) (.slice (.var 5) (.cons (.var 6) .nil) .nil)) (.cons (.rev (.var 4)) (.cons (.var 7) .nil))))))))) (.seq (.forr (.nm 9) (.var 8) k5L1) k5P2)
def k5P0 : S := .seq (.asg (.nm 6) (.call "_law_take" (.cons (.var 1) (.cons (.bin .add (.bi .len (.cons (.var 5) .nil)) (.int 1)) .nil)))) (.seq (.asg (.nm 7) (.ite (.cmp .eq (.call "_law_take" (.cons (.var 1) (.cons (.int 4) .nil))) (.int 0)) (.bi .tuple (.cons (.sortL (.bin .mul (.bi .list (.cons (.var 4) .nil)) (.int 2))) .nil)) (.var 4))) k5P1)
def k5Out : S := .seq (.asg (.nm 3) (.call "_law_yw_web_of" (.cons (.var 1) .nil))) (.seq (.par2 4 5 (.call "_law_yw_path" (.cons (.var 1) (.cons (.var 3) (.cons (.int 8) .nil)))) (.call "_law_yw_row" (.cons (.var 1) (.cons (.var 3) (.cons (.call "_law_one" (.cons (.var 1) (.cons (.lst (.cons (.int 4) (.cons (.int 9) (.cons (.int 20) .nil)))) .nil))) .nil))))) k5P0)
def k5E3 : S := .seq (.asg (.nm 12) (.heard "_law_n5_heard" (.call "_law_n5_asked" (.cons (.var 3) (.cons (.tup (.cons (.int 1) (.cons (.int 0) (.cons (.int 0) (.cons (.int 1) (.cons (.int 1) (.cons (.int 0) .nil))))))) (.cons (.tup (.cons (.int 0) (.cons (.int 1) (.cons (.int 0) .nil)))) .nil)))))) (.seq (.ret (.call "_law_yq_same" (.cons (.var 12) (.cons (.tup (.cons (.str "told") (.cons (.lst (.cons (.tup (.cons (.int 1) (.cons (.int 3) (.cons (.int 5) .nil)))) (.cons (.int 3) (.cons (.bl true) .nil)))) .nil))) .nil)))) .nil)
def k5E2 : S := .seq (.asg (.nm 11) (.lst (.cons (.tup (.cons (.var 3) (.cons (.bin .mul (.tup (.cons (.int 1) .nil)) (.int 200)) .nil))) (.cons (.tup (.cons (.var 3) (.cons (.bin .mul (.tup (.cons (.int 1) .nil)) (.int 201)) .nil))) (.cons (.tup (.cons (.tup .nil) (.cons (.tup .nil) .nil))) (.cons (.tup (.cons (.tup .nil) (.cons (.tup (.cons (.int 0) .nil)) .nil))) (.cons (.tup (.cons (.var 3) (.cons (.tup (.cons (.int 0) (.cons (.int 2) .nil))) .nil))) (.cons (.tup (.cons (.var 3) (.cons (.lst (.cons (.int 0) .nil)) .nil))) .nil)))))))) (.seq (.ife (.cmp .ne (.comp (.nm 9) (.var 11) (.cons (.not (.call "_law_n5_form_right" (.cons (.ix (.var 9) (.int 0)) (.cons (.ix (.var 9) (.int 1)) .nil)))) .nil) (.var 9)) (.lst .nil)) (.seq (.ret (.bl false)) .nil) (.nil)) k5E3)
def k5E1b : S := .seq (.ife (.cmp .ne (.comp (.nm 9) (.var 8) (.cons (.not (.call "_law_n5_right" (.cons (.var 3) (.cons (.ix (.var 9) (.int 0)) (.cons (.ix (.var 9) (.int 1)) .nil))))) .nil) (.var 9)) (.lst .nil)) (.seq (.ret (.bl false)) .nil) (.nil)) k5E2
def k5E1 : S := .seq (.asg (.nm 3) (.tup (.cons (.tup (.cons (.int 0) (.cons (.int 1) .nil))) (.cons (.tup (.cons (.int 0) .nil)) .nil)))) (.seq (.asg (.nm 8) (.lst (.cons (.tup (.cons (.tup (.cons (.int 0) .nil)) (.cons (.tup (.cons (.int 0) (.cons (.int 0) .nil))) .nil))) (.cons (.tup (.cons (.tup (.cons (.int 0) (.cons (.int 0) .nil))) (.cons (.tup (.cons (.int 0) (.cons (.int 0) .nil))) .nil))) (.cons (.tup (.cons (.tup (.cons (.int 1) (.cons (.int 0) (.cons (.int 1) (.cons (.int 0) .nil))))) (.cons (.tup (.cons (.int 0) (.cons (.int 1) (.cons (.int 0) .nil)))) .nil))) (.cons (.tup (.cons (.tup (.cons (.int 1) (.cons (.int 0) (.cons (.int 1) .nil)))) (.cons (.tup (.cons (.int 0) (.cons (.int 1) (.cons (.int 0) .nil)))) .nil))) (.cons (.tup (.cons (.tup .nil) (.cons (.tup (.cons (.int 1) .nil)) .nil))) .nil))))))) (.seq (.expr (.app (.var 8) (.tup (.cons (.bin .mul (.tup (.cons (.int 0) (.cons (.int 1) .nil))) (.int 100)) (.cons (.bin .mul (.tup (.cons (.int 0) (.cons (.int 1) .nil))) (.int 100)) .nil))))) k5E1b))
def k5Law : Fd := ⟨["script"], ["script", "jar", "go", "web", "path", "row", "at", "planted", "bunch", "one", "thing", "forms_now", "told_now"], .seq (.asg (.nm 1) (.call "_law_pool" (.cons (.var 0) .nil))) (.seq (.forr (.nm 2) (.rng (.cons (.int 14) .nil)) k5Out) k5E1)⟩
theorem cut_init (xs : List PV) (y : PV) : cutP (xs ++ [y]) none (some (-1)) = xs ∧ cutP (xs ++ [y]) (some (-1)) none = [y] := by
  have h : HT.sIx (xs ++ [y]).length 0 (some (-1)) = xs.length := by
    simp [HT.sIx]
    omega
  have h2 : HT.sIx (xs ++ [y]).length (xs ++ [y]).length (some (-1)) = xs.length := by
    simp [HT.sIx]
    omega
  unfold cutP
  rw [h, h2, HT.sIx_none, HT.sIx_none]
  simp
def chainB (rs : List (List Int)) : Option Int → List Int → Bool
  | _, [] => true
  | p, x :: xs => decide (0 ≤ x) && (decide (x < (rs.length : Int)) && ((match p with
    | none => true
    | some j => decide (j ∈ rs[x.toNat]?.getD [])) && chainB rs (some x) xs))
theorem chainB_ok {rs : List (List Int)} : ∀ {xs : List Int} {p : Option Int}, chainB rs p xs = true → Chain rs p xs
  | [], _, _ => trivial
  | x :: xs, p, h => by
    unfold chainB at h
    simp only [Bool.and_eq_true, decide_eq_true_eq] at h
    obtain ⟨h1, h2, h3, h4⟩ := h
    refine ⟨⟨h1, h2⟩, fun j e => ?_, chainB_ok h4⟩
    subst e
    simpa using h3
def form5 (μ : Mu) (y : PV) : Prop := ∃ rs x, y = .tup [webP rs, x] ∧ Web rs ∧ Lv2 μ x
theorem web_two : Web [[0, 1], [0]] := ⟨by simp, fun r hr => by
  simp only [List.mem_cons, List.not_mem_nil, or_false] at hr
  rcases hr with rfl | rfl
  · exact ⟨by decide, by decide⟩
  · exact ⟨by decide, by decide⟩⟩
theorem web_nil : Web [] := ⟨by simp, fun r hr => by simp at hr⟩
def alt100 : List Int := (List.replicate 100 [(0 : Int), 1]).flatten
theorem alt_eq : (List.replicate 100 [PV.int 0, PV.int 1]).flatten = alt100.map .int := by
  unfold alt100
  rw [List.map_flatten, List.map_replicate]
  rfl
def prs5 : List (List Int × List Int) := [([0], [0, 0]), ([0, 0], [0, 0]), ([1, 0, 1, 0], [0, 1, 0]), ([1, 0, 1], [0, 1, 0]), ([], [1]), (alt100, alt100)]
theorem prs5_ok : ∀ q ∈ prs5, RowOk 2 q.1 ∧ PathOk [[0, 1], [0]] q.2 := fun q hq => by
  have h : prs5.all (fun q => decide (q.1.length ≤ 200) && (q.1.all fun i => decide (0 ≤ i) && decide (i < 2)) && !q.2.isEmpty && decide (q.2.length ≤ 200) && chainB [[0, 1], [0]] none q.2) = true := by decide +kernel
  have h := List.all_eq_true.mp h q hq
  simp only [Bool.and_eq_true, decide_eq_true_eq] at h
  obtain ⟨⟨⟨⟨h1, h2⟩, h3⟩, h4⟩, h5⟩ := h
  refine ⟨⟨h1, fun i hi => ?_⟩, by simpa using h3, h4, chainB_ok h5⟩
  have := List.all_eq_true.mp h2 i hi
  simp only [Bool.and_eq_true, decide_eq_true_eq] at this
  exact this
section
variable {G : Gm} (g : K5 G) (n : Nat)
include g
theorem k5L1_ok {j k : Nat} {μ : Mu} (J : Jar j k μ) (hk : k < 2 ^ 50) {rs : List (List Int)} (hw : Web rs) {p : List Int} (hp : PathOk rs p) {B : Nat} (hB : B ≠ j) {xs : List PV} (gB : μ[B]? = some (.lst xs)) (hx : ∀ x ∈ xs, ∃ r, x = lotP r ∧ RowOk rs.length r) (hl : xs.length ≤ 10) {s0 s2 s5 s6 s7 s9 s10 s11 s12 : Option PV} {Q : Fl → Mu → Prop}
    (q : ∀ b μ', Jar j (k + xs.length) μ' → Q (.nx [s0, some (.ref j), s2, some (webP rs), some (lotP p), s5, s6, s7, some (.ref B), b, s10, s11, s12]) μ') : OK (forLoop μ [B] (forBody (wd G (callN G (n + 9))) (.nm 9) k5L1) xs [s0, some (.ref j), s2, some (webP rs), some (lotP p), s5, s6, s7, some (.ref B), s9, s10, s11, s12] μ) Q := by
  have hpl := hp.2.1
  have hp0 : 0 < p.length := List.length_pos_iff.mpr hp.1
  refine OK.forN (fun i σ μ' => ∃ b, σ = [s0, some (.ref j), s2, some (webP rs), some (lotP p), s5, s6, s7, some (.ref B), b, s10, s11, s12] ∧ Jar j (k + i) μ' ∧ μ'[B]? = μ[B]?) ⟨_, rfl, J, rfl⟩ (fun i σ μ' h m hm => by rw [List.mem_singleton] at hm; rw [hm]; obtain ⟨_, _, _, h⟩ := h; exact h) (fun i x σ μ1 Q' hx' hP q' => ?_) ?_
  · obtain ⟨b, rfl, J1, g1⟩ := hP
    have hi : i < xs.length := by
      rcases Nat.lt_or_ge i xs.length with h | h
      · exact h
      · rw [List.getElem?_eq_none h] at hx'; cases hx'
    obtain ⟨r, rfl, hr⟩ := hx x (List.mem_of_getElem? hx')
    rw [gB] at g1
    simp [k5L1]
    refine right5_ok g n hw hr hp fun μ2 ap2 => ?_
    have J2 := ap2.jar J1
    have g2 := ap2.get g1
    simp
    refine take_ok g.take (n + 8) J2 (by omega) (by omega) (by omega) fun t l ht J3 => ?_
    have g3 : (μ2.set j l)[B]? = some (.lst xs) := by rw [List.getElem?_set_ne (Ne.symm hB), g2]
    generalize μ2.set j l = μ3 at J3 g3
    have hc : cutP (p.map PV.int) none (some (1 + (t : Int))) = (p.take (t + 1)).map PV.int := by
      have e : (1 : Int) + (t : Int) = ((t + 1 : Nat) : Int) := by omega
      rw [e, cut_to (by simp; omega), List.map_take]
    simp [hc, -List.map_take]
    refine right5_ok g n hw hr (hp.take (k := t + 1) (by omega)) fun μ4 ap4 => ?_
    simp
    exact q' _ _ ⟨_, rfl, by rw [← Nat.add_assoc]; exact ap4.jar J3, by rw [ap4.get g3, gB]⟩
  · rintro σ μ1 ⟨b, rfl, J1, g1⟩
    exact q b μ1 J1
/-- one turn of the law's loop -/
theorem k5Out_ok {j k : Nat} {μ : Mu} (J : Jar j k μ) (hk : k < 2 ^ 40) {s0 s2 : Option PV} {a3 a4 a5 a6 a7 a8 a9 a10 : Option PV} {Q : Fl → Mu → Prop} (q : ∀ σ μ' b3 b4 b5 b6 b7 b8 b9 b10, σ = [s0, some (.ref j), s2, b3, b4, b5, b6, b7, b8, b9, b10, none, none] → Jar j (k + 6000) μ' → Q (.nx σ) μ') :
    OK (ex (wd G (callN G (n + 9))) k5Out [s0, some (.ref j), s2, a3, a4, a5, a6, a7, a8, a9, a10, none, none] μ) Q := by
  simp [k5Out]
  refine web_of_ok g (n + 5) J (by omega) fun rs μ1 hw h0 f1 J1 => ?_
  have hlen := hw.1
  simp
  refine yw_path_ok g (n + 6) J1 (by omega) hw h0 (most := 8) (by omega) (by omega) fun p μ2 hp hpl f2 J2 => ?_
  have hj2 := J2.lt
  simp
  refine one_ok g.take g.one (n + 7) (xs := [.int 4, .int 9, .int 20]) (J2.app _) (by omega) (by simp) (by simp; omega) (by simp) (by simp) fun m l hm J3 => ?_
  generalize (μ2 ++ [MO.lst [.int 4, .int 9, .int 20]]).set j l = μ3 at J3
  obtain ⟨most, rfl, hm1, hm2⟩ : ∃ most : Nat, m = .int most ∧ 1 ≤ most ∧ most ≤ 20 := by
    simp only [List.mem_cons, List.not_mem_nil, or_false] at hm
    rcases hm with rfl | rfl | rfl
    · exact ⟨4, rfl, by omega, by omega⟩
    · exact ⟨9, rfl, by omega, by omega⟩
    · exact ⟨20, rfl, by omega, by omega⟩
  simp
  refine yw_row_ok g (n + 5) J3 (by omega) hw h0 hm1 (by omega) fun r μ4 hr hrl f4 J4 => ?_
  simp [k5P0]
  refine take_ok g.take (n + 8) J4 (by omega) (by omega) (by omega) fun t l ht J5 => ?_
  generalize μ4.set j l = μ5 at J5
  simp
  refine take_ok g.take (n + 8) J5 (by omega) (by decide) (by decide) fun t2 l ht2 J6 => ?_
  generalize μ5.set j l = μ6 at J6
  have hpr := hp.2.2.rng
  -- the rows that are looked at
  have main : ∀ (pl : List Int) (μ : Mu), (∀ i ∈ pl, 0 ≤ i ∧ i < (rs.length : Int)) → pl.length ≤ 16 → Jar j (k + 4000 + 100 + 1 + 300 + 1 + 1) μ → OK (ex (wd G (callN G (n + 9))) k5P1 [s0, some (.ref j), s2, some (webP rs), some (lotP p), some (lotP r), some (.int t), some (lotP pl), a8, a9, a10, none, none] μ) Q := fun pl μ hpl' hpll JP => by
    obtain ⟨pre, last, hpre⟩ : ∃ pre last, p = pre ++ [last] := ⟨p.dropLast, p.getLast hp.1, (List.dropLast_concat_getLast hp.1).symm⟩
    obtain ⟨ci1, ci2⟩ := cut_init (pre.map PV.int) (.int last)
    have ht' : t ≤ (r.map PV.int).length := by simp; omega
    have ec1 := cut_to ht'
    have ec2 := cut_from ht'
    have epm : p.map PV.int = pre.map PV.int ++ [PV.int last] := by rw [hpre]; simp
    rw [← epm] at ci1 ci2
    have hpll2 : pre.length + 1 ≤ 8 := by rw [hpre] at hpl; simpa using hpl
    have z1 : r.length + p.length ≤ 16777216 := by omega
    have z2 : pre.length + r.length ≤ 16777216 := by omega
    have z3 : pre.length + r.length + 1 ≤ 16777216 := by omega
    have z3' : pre.length + (r.length + 1) ≤ 16777216 := by omega
    have z4 : min t r.length + p.length ≤ 16777216 := by omega
    have z5 : min t r.length + p.length + (r.length - t) ≤ 16777216 := by omega
    have z5' : min t r.length + (p.length + (r.length - t)) ≤ 16777216 := by omega
    simp [k5P1, ci1, ci2, ec1, ec2, z1, z2, z3, z3', z4, z5, z5']
    have hrow : ∀ x ∈ [lotP r, lotP p, PV.tup (r.map PV.int ++ p.map PV.int), PV.tup (pre.map PV.int ++ (r.map PV.int ++ [PV.int last])), PV.tup ((r.map PV.int).take t ++ (p.map PV.int ++ (r.map PV.int).drop t)), PV.tup (p.map PV.int).reverse, lotP pl], ∃ r', x = lotP r' ∧ RowOk rs.length r' := fun x hx => by
      have hpre2 : ∀ i ∈ pre, 0 ≤ i ∧ i < (rs.length : Int) := fun i hi => hpr i (by rw [hpre]; exact List.mem_append_left _ hi)
      have hlast : 0 ≤ last ∧ last < (rs.length : Int) := hpr last (by rw [hpre]; simp)
      simp only [List.mem_cons, List.not_mem_nil, or_false] at hx
      rcases hx with rfl | rfl | rfl | rfl | rfl | rfl | rfl
      · exact ⟨r, rfl, by omega, hr⟩
      · exact ⟨p, rfl, by omega, hpr⟩
      · refine ⟨r ++ p, by simp, by simp; omega, fun i hi => ?_⟩
        rcases List.mem_append.mp hi with hi | hi
        · exact hr i hi
        · exact hpr i hi
      · refine ⟨pre ++ (r ++ [last]), by simp, by simp; omega, fun i hi => ?_⟩
        simp only [List.mem_append, List.mem_singleton] at hi
        rcases hi with hi | hi | rfl
        · exact hpre2 i hi
        · exact hr i hi
        · exact hlast
      · refine ⟨r.take t ++ (p ++ r.drop t), by simp [List.map_take, List.map_drop], by simp; omega, fun i hi => ?_⟩
        simp only [List.mem_append] at hi
        rcases hi with hi | hi | hi
        · exact hr i (List.mem_of_mem_take hi)
        · exact hpr i hi
        · exact hr i (List.mem_of_mem_drop hi)
      · exact ⟨p.reverse, by simp [List.map_reverse], by simp; omega, fun i hi => hpr i (List.mem_reverse.mp hi)⟩
      · exact ⟨pl, rfl, by omega, hpl'⟩
    have hjP := JP.lt
    refine k5L1_ok g n (JP.app _) (by omega) hw hp (B := μ.length) (by omega) (by simp) hrow (by simp) fun b μ7 J7 => ?_
    simp at J7
    simp [k5P2]
    refine odd_row_ok g (n + 4) J7 (by omega) hw h0 fun o1 μ8 ho1 f8 J8 => ?_
    simp [ix0]
    refine odd_row_ok g (n + 4) J8 (by omega) hw h0 fun o2 μ9 ho2 f9 J9 => ?_
    have ho19 := f9.lv2 J9 ho1.1
    simp [ix0]
    refine OK.forN (fun i σ μ' => ∃ b', σ = [s0, some (.ref j), s2, some (webP rs), some (lotP p), some (lotP r), some (.int t), some (lotP pl), some (.ref μ.length), b, b', none, none] ∧ Ap μ9 μ') ⟨_, rfl, Ap.refl _⟩ (fun _ _ _ _ => stay_nil _ _) (fun i x σ μ10 Q' hx hP q' => ?_) ?_
    · obtain ⟨b', rfl, ap⟩ := hP
      have hlv : Lv2 μ9 x := by
        have := List.mem_of_getElem? hx
        simp only [List.mem_cons, List.not_mem_nil, or_false] at this
        rcases this with rfl | rfl | rfl
        · exact lv2_lot _ _
        · exact ho19
        · exact ho2.1
      simp [k5L2]
      refine form5_ok g (n + 2) hw (ap.lv2 hlv) fun μ11 ap2 => ?_
      simp
      exact q' _ _ ⟨_, rfl, ap.trans ap2⟩
    · rintro σ μ10 ⟨b', rfl, ap⟩
      simp [k5P3]
      refine refused5_ok g (n + 1) (ap.jar J9) (by omega) hw h0 fun μ11 f11 J11 => ?_
      simp
      exact q _ _ _ _ _ _ _ _ _ _ rfl (J11.mono (by omega))
  have hpl16 : p.length ≤ 16 := by omega
  by_cases h2 : t2 = 0
  · subst h2
    have z : p.length * 2 ≤ 16777216 := by omega
    have es : ∀ μ, sortLA μ (.l (p.map PV.int ++ p.map PV.int)) = some (.l ((sortI (p ++ p)).map .int)) := fun μ => by
      rw [← List.map_append]
      exact sortLA_l μ (p ++ p)
    simp [z, es]
    have hlen2 : (sortI (p ++ p)).length ≤ 16 := by
      rw [(sortI_perm (p ++ p)).length_eq, List.length_append]
      omega
    have := main (sortI (p ++ p)) μ6 (fun i hi => by
      have := (sortI_perm (p ++ p)).mem_iff.mp hi
      rcases List.mem_append.mp this with h | h
      · exact hpr i h
      · exact hpr i h) hlen2 J6
    simpa using this
  · simp [h2]
    have := main p μ6 hpr hpl16 J6
    simpa using this
theorem k5E3_ok {μ : Mu} (hw : Web [[0, 1], [0]]) {s0 s1 s2 s4 s5 s6 s7 s8 s9 s10 s11 s12 : Option PV} {Q : PV → Mu → Prop} (q : ∀ μ', Q (.bl true) μ') : OK ((ex (wd G (callN G (n + 9))) k5E3 [s0, s1, s2, some (webP [[0, 1], [0]]), s4, s5, s6, s7, s8, s9, s10, s11, s12] μ).bind outO) Q := by
  have hfuel := g.fuel
  have hg : gp [1, 0, 0, 1, 1, 0] [0, 1, 0] 0 = [1, 3, 5] := by decide
  simp [k5E3, g.hrd]
  refine OK.heard ?_
  simp
  refine asked5_ok g (n + 1) (rs := [[0, 1], [0]]) (row := [1, 0, 0, 1, 1, 0]) (path := [0, 1, 0]) hw ⟨by simp, by decide⟩ ⟨by simp, by simp, chainB_ok (by decide +kernel)⟩ fun M μ1 ap gM => ?_
  have eT : Told5 [1, 0, 0, 1, 1, 0] [0, 1, 0] = [.tup [.int 1, .int 3, .int 5], .int 3, .bl true] := by
    unfold Told5
    rw [hg]
    rfl
  rw [eT] at gM
  simp
  refine same_ok g.same g.qwhole (n + 7) (SameR.told (SameR.ref (get_app gM) (by simp) (.cons (.tup (.cons (.int _) (.cons (.int _) (.cons (.int _) .nil)))) (.cons (.int _) (.cons (.bl _) .nil))))) (by omega) (by omega) ?_
  simp
  exact q _
theorem k5E2_ok {μ : Mu} {s0 s1 s2 s4 s5 s6 s7 s8 s9 s10 : Option PV} {Q : PV → Mu → Prop} (q : ∀ μ', Q (.bl true) μ') : OK ((ex (wd G (callN G (n + 9))) k5E2 [s0, s1, s2, some (webP [[0, 1], [0]]), s4, s5, s6, s7, s8, s9, s10, none, none] μ).bind outO) Q := by
  simp [k5E2, rep_flat, -List.reduceReplicate]
  let xs : List PV := [.tup [webP [[0, 1], [0]], .tup (List.replicate 200 (.int 1))], .tup [webP [[0, 1], [0]], .tup (List.replicate 201 (.int 1))], .tup [.tup [], .tup []], .tup [.tup [], .tup [.int 0]], .tup [webP [[0, 1], [0]], .tup [.int 0, .int 2]], .tup [webP [[0, 1], [0]], .ref μ.length]]
  have hap : Ap (μ ++ [MO.lst [.int 0], MO.lst xs]) (μ ++ [MO.lst [.int 0], MO.lst xs]) := Ap.refl _
  have g0 : (μ ++ [MO.lst [PV.int 0], MO.lst xs])[μ.length]? = some (.lst [.int 0]) := by simp
  have hf : ∀ y ∈ xs, form5 (μ ++ [MO.lst [.int 0], MO.lst xs]) y := fun y hy => by
    simp only [xs, List.mem_cons, List.not_mem_nil, or_false] at hy
    rcases hy with rfl | rfl | rfl | rfl | rfl | rfl
    · exact ⟨_, _, rfl, web_two, lv2_tup _ fun y hy => by rw [(List.mem_replicate.mp hy).2]; rfl⟩
    · exact ⟨_, _, rfl, web_two, lv2_tup _ fun y hy => by rw [(List.mem_replicate.mp hy).2]; rfl⟩
    · exact ⟨[], _, rfl, web_nil, lv2_tup _ (by simp)⟩
    · exact ⟨[], _, rfl, web_nil, lv2_tup _ (by simp [noRef])⟩
    · exact ⟨_, _, rfl, web_two, lv2_tup _ (by simp [noRef])⟩
    · exact ⟨_, _, rfl, web_two, lv2_ref _ g0⟩
  have gF : (μ ++ [MO.lst [PV.int 0], MO.lst xs])[μ.length + 1]? = some (.lst xs) := by simp
  have hB : μ.length + 1 < (μ ++ [MO.lst [PV.int 0], MO.lst xs]).length := get_lt gF
  refine OK.comp (fun i acc μ' => Ap (μ ++ [MO.lst [.int 0], MO.lst xs]) μ' ∧ acc = []) ⟨hap, rfl⟩ (fun i acc μ' h m hm => by rw [List.mem_singleton] at hm; rw [hm]; exact h.1.2 _ hB) (by simp) (fun i acc μ' h => by rw [h.2]; simp) (fun i x acc μ1 Q' hx hP q1 q2 => ?_) ?_
  · obtain ⟨ap, rfl⟩ := hP
    obtain ⟨rs, z, rfl, hw, hz⟩ := hf x (List.mem_of_getElem? hx)
    simp [ix0, ix1]
    refine form5_ok g (n + 2) hw (ap.lv2 hz) fun μ2 ap2 => ?_
    simp
    exact q2 _ ⟨ap.trans ap2, rfl⟩
  rintro acc μ1 ⟨ap, rfl⟩
  simp
  have := k5E3_ok g n (μ := μ1) web_two (s0 := s0) (s1 := s1) (s2 := s2) (s4 := s4) (s5 := s5) (s6 := s6) (s7 := s7) (s8 := s8) (s9 := s9) (s10 := s10) (s11 := some (.ref (μ.length + 1))) (s12 := none) (Q := Q) q
  simpa using this
theorem k5E1b_ok {μ : Mu} {B : Nat} {prs : List (List Int × List Int)} (gB : μ[B]? = some (.lst (prs.map fun q => .tup [lotP q.1, lotP q.2]))) (hl : prs.length ≤ 100) (hp : ∀ q ∈ prs, RowOk 2 q.1 ∧ PathOk [[0, 1], [0]] q.2) {s0 s1 s2 s4 s5 s6 s7 s9 s10 : Option PV} {Q : PV → Mu → Prop} (q : ∀ μ', Q (.bl true) μ') : OK ((ex (wd G (callN G (n + 9))) k5E1b [s0, s1, s2, some (webP [[0, 1], [0]]), s4, s5, s6, s7, some (.ref B), s9, s10, none, none] μ).bind outO) Q := by
  have hB := get_lt gB
  simp [k5E1b, gB]
  refine OK.comp (fun i acc μ' => Ap μ μ' ∧ acc = []) ⟨Ap.refl _, rfl⟩ (fun i acc μ' h m hm => by rw [List.mem_singleton] at hm; rw [hm]; exact h.1.2 _ hB) (by simp; omega) (fun i acc μ' h => by rw [h.2]; simp) (fun i x acc μ1 Q' hx hP q1 q2 => ?_) ?_
  · obtain ⟨ap, rfl⟩ := hP
    obtain ⟨z, hz, rfl⟩ := List.mem_map.mp (List.mem_of_getElem? hx)
    obtain ⟨h1, h2⟩ := hp z hz
    simp [ix0, ix1]
    refine right5_ok g n web_two h1 h2 fun μ2 ap2 => ?_
    simp
    exact q2 _ ⟨ap.trans ap2, rfl⟩
  rintro acc μ1 ⟨ap, rfl⟩
  simp
  have := k5E2_ok g n (μ := μ1) (s0 := s0) (s1 := s1) (s2 := s2) (s4 := s4) (s5 := s5) (s6 := s6) (s7 := s7) (s8 := some (.ref B)) (s9 := s9) (s10 := s10) (Q := Q) q
  simpa using this
theorem k5E1_ok {μ : Mu} {s0 s1 s2 a3 s4 s5 s6 s7 a8 s9 s10 : Option PV} {Q : PV → Mu → Prop} (q : ∀ μ', Q (.bl true) μ') : OK ((ex (wd G (callN G (n + 9))) k5E1 [s0, s1, s2, a3, s4, s5, s6, s7, a8, s9, s10, none, none] μ).bind outO) Q := by
  have ea := alt_eq
  simp [k5E1, -List.reduceReplicate, ea]
  have gB : (μ ++ [MO.lst (prs5.map fun q => .tup [lotP q.1, lotP q.2])])[μ.length]? = some (.lst (prs5.map fun q => .tup [lotP q.1, lotP q.2])) := by simp
  have := k5E1b_ok g n gB (by simp [prs5]) prs5_ok (s0 := s0) (s1 := s1) (s2 := s2) (s4 := s4) (s5 := s5) (s6 := s6) (s7 := s7) (s9 := s9) (s10 := s10) (Q := Q) q
  simpa [prs5, lotP, webP] using this
theorem k5_law (hlaw : G.fns.lookup "law" = some k5Law) {μ : Mu} {p : PV} {ns : List Int} (hs : sview μ (.v p) = some (ns.map .int)) (hl : ns.length ≤ 63) : ∃ μ', callN G (n + 10) "law" [p] μ = .ok (.bl true) μ' := by
  have main : OK (callN G (n + 10) "law" [p] μ) fun r _ => r = .bl true := by
    rw [callN_eq (n + 9) hlaw rfl]
    simp [k5Law]
    refine pool_ok g.pool (n + 8) hs hl fun l J => ?_
    generalize hj : μ.length = j at J
    generalize μ ++ [l] = μ0 at J
    simp
    refine OK.forN (fun i σ μ' => ∃ b a3 a4 a5 a6 a7 a8 a9 a10, σ = [some p, some (.ref j), b, a3, a4, a5, a6, a7, a8, a9, a10, none, none] ∧ i ≤ 14 ∧ Jar j (i * 6000) μ') ⟨_, _, _, _, _, _, _, _, _, rfl, by omega, by simpa using J⟩ (fun _ _ _ _ => stay_nil _ _) (fun i x σ μ1 Q' hx hP q1 => ?_) ?_
    · obtain ⟨b, a3, a4, a5, a6, a7, a8, a9, a10, rfl, _, J1⟩ := hP
      have hi : i < 14 := by
        rcases Nat.lt_or_ge i 14 with h | h
        · exact h
        · rw [List.getElem?_eq_none (by simpa using h)] at hx; cases hx
      simp
      refine k5Out_ok g n J1 (by omega) fun σ μ' b3 b4 b5 b6 b7 b8 b9 b10 e J' => ?_
      subst e
      refine q1 _ _ ⟨_, _, _, _, _, _, _, _, _, rfl, hi, J'.mono (by omega)⟩
    · rintro σ μ1 ⟨b, a3, a4, a5, a6, a7, a8, a9, a10, rfl, _, _⟩
      have := k5E1_ok g n (μ := μ1) (s0 := some p) (s1 := some (.ref j)) (s2 := b) (a3 := a3) (s4 := a4) (s5 := a5) (s6 := a6) (s7 := a7) (a8 := a8) (s9 := a9) (s10 := a10) (Q := fun r _ => r = .bl true) fun _ => rfl
      simpa using this
  obtain ⟨r, μ', e, rfl⟩ := main
  exact ⟨μ', e⟩
end
end
end Ev

set_option Elab.async false
set_option linter.all false
set_option maxRecDepth 100000
set_option maxHeartbeats 0
namespace Hd
open PySem PySem.Spec PyProof.Rows L2 Ev
def top (i : Nat) : Stmt := PySem.Challenge.pw_nosurer_k05_rows_and_what_they_build.main.body.getD i (.Pass ⟨0, 0, 0, 0⟩)
def sI : Stmt := match top 1 with | .ClassDef _ _ _ b _ _ _ _ _ _ _ => b.getD 0 (.Pass ⟨0, 0, 0, 0⟩) | _ => .Pass ⟨0, 0, 0, 0⟩
def mkD (x : Str) (st : Stmt) : He.DefD := ⟨(x, none), x, x, defArgs st, defBody st, defScope st, [], []⟩
def dI : He.DefD := ⟨("Refused", some "__init__"), "__init__", "Refused.__init__", defArgs sI, defBody sI, defScope sI, [], []⟩
def fn : List He.DefD := [dI, mkD "whole" (top 6), mkD "wrong_lot" (top 10), mkD "is_lot" (top 11), mkD "wrong_web" (top 13), mkD "asked_web" (top 14), mkD "wrong_path" (top 16), mkD "asked_path" (top 17), mkD "wrong_row" (top 19), mkD "asked_row" (top 20), mkD "places_in" (top 21), mkD "asked_built" (top 22), mkD "made_row" (top 23), mkD "is_row" (top 24), mkD "built_length" (top 25), mkD "built" (top 26), mkD "first_places" (top 27), mkD "_law_pool" (top 29), mkD "_law_take" (top 30), mkD "_law_one" (top 31), mkD "_law_mixed" (top 32), mkD "_law_some" (top 33), mkD "_law_yw_is_whole" (top 34), mkD "_law_yw_is_in" (top 35), mkD "_law_yw_lot_fault" (top 36), mkD "_law_yw_web_fault" (top 37), mkD "_law_yw_path_fault" (top 38), mkD "_law_yw_row_fault" (top 39), mkD "_law_yw_readers" (top 40), mkD "_law_yw_web" (top 41), mkD "_law_yw_web_of" (top 42), mkD "_law_yw_path" (top 43), mkD "_law_yw_row" (top 44), mkD "_law_yw_firsts" (top 45), mkD "_law_yw_odd_web" (top 46), mkD "_law_yw_odd_path" (top 47), mkD "_law_yw_odd_row" (top 48), mkD "_law_yw_arguments" (top 49), mkD "_law_yq_is_whole" (top 50), mkD "_law_yq_same" (top 51), mkD "_law_n5_heard" (top 52), mkD "_law_n5_asked" (top 53), mkD "_law_n5_right" (top 54), mkD "_law_n5_form_right" (top 55), mkD "_law_n5_refused_right" (top 56), mkD "law" (top 57)]
def fa : List He.Fa := [He.Fa.glo (Str.ofString "Refused"), He.Fa.glo (Str.ofString "TooMany"), He.Fa.glo (Str.ofString "BadWeb"), He.Fa.glo (Str.ofString "BadPath"), He.Fa.glo (Str.ofString "BadRow"), He.Fa.glo (Str.ofString "whole"), He.Fa.glo (Str.ofString "wrong_lot"), He.Fa.glo (Str.ofString "is_lot"), He.Fa.glo (Str.ofString "wrong_web"), He.Fa.glo (Str.ofString "asked_web"), He.Fa.glo (Str.ofString "wrong_path"), He.Fa.glo (Str.ofString "asked_path"), He.Fa.glo (Str.ofString "wrong_row"), He.Fa.glo (Str.ofString "asked_row"), He.Fa.glo (Str.ofString "places_in"), He.Fa.glo (Str.ofString "asked_built"), He.Fa.glo (Str.ofString "made_row"), He.Fa.glo (Str.ofString "is_row"), He.Fa.glo (Str.ofString "built_length"), He.Fa.glo (Str.ofString "built"), He.Fa.glo (Str.ofString "first_places"), He.Fa.glo (Str.ofString "_law_pool"), He.Fa.glo (Str.ofString "_law_take"), He.Fa.glo (Str.ofString "_law_one"), He.Fa.glo (Str.ofString "_law_mixed"), He.Fa.glo (Str.ofString "_law_some"), He.Fa.glo (Str.ofString "_law_yw_is_whole"), He.Fa.glo (Str.ofString "_law_yw_is_in"), He.Fa.glo (Str.ofString "_law_yw_lot_fault"), He.Fa.glo (Str.ofString "_law_yw_web_fault"), He.Fa.glo (Str.ofString "_law_yw_path_fault"), He.Fa.glo (Str.ofString "_law_yw_row_fault"), He.Fa.glo (Str.ofString "_law_yw_readers"), He.Fa.glo (Str.ofString "_law_yw_web"), He.Fa.glo (Str.ofString "_law_yw_web_of"), He.Fa.glo (Str.ofString "_law_yw_path"), He.Fa.glo (Str.ofString "_law_yw_row"), He.Fa.glo (Str.ofString "_law_yw_firsts"), He.Fa.glo (Str.ofString "_law_yw_odd_web"), He.Fa.glo (Str.ofString "_law_yw_odd_path"), He.Fa.glo (Str.ofString "_law_yw_odd_row"), He.Fa.glo (Str.ofString "_law_yw_arguments"), He.Fa.glo (Str.ofString "_law_yq_is_whole"), He.Fa.glo (Str.ofString "_law_yq_same"), He.Fa.glo (Str.ofString "_law_n5_heard"), He.Fa.glo (Str.ofString "_law_n5_asked"), He.Fa.glo (Str.ofString "_law_n5_right"), He.Fa.glo (Str.ofString "_law_n5_form_right"), He.Fa.glo (Str.ofString "_law_n5_refused_right"), He.Fa.glo (Str.ofString "law")] ++ [He.Fa.int (Str.ofString "MOST_CELLS") 60, He.Fa.int (Str.ofString "MOST_LONG") 200] ++ bltNames.map fun x => .free (Str.ofString x)
def tf : List He.Defn := [("_law_n5_right", none), ("_law_n5_form_right", none), ("_law_n5_refused_right", none), ("law", none)]
def al : List String := ["TooMany", "BadWeb", "BadPath", "BadRow"]
def lits (K : PySem.W.Frag) : Bool := litsOf tf al K
def loose0 : List Str := ["Refused", "TooMany", "BadWeb", "BadPath", "BadRow", "whole", "MOST_CELLS", "MOST_LONG", "wrong_lot", "is_lot", "wrong_web", "asked_web", "wrong_path", "asked_path", "wrong_row", "asked_row", "places_in", "asked_built", "made_row", "is_row", "built_length", "built", "first_places", "_law_pool", "_law_take", "_law_one", "_law_mixed", "_law_some", "_law_yw_is_whole", "_law_yw_is_in"]
def loose1 : List Str := ["_law_yw_lot_fault", "_law_yw_web_fault", "_law_yw_path_fault", "_law_yw_row_fault", "_law_yw_readers", "_law_yw_web", "_law_yw_web_of", "_law_yw_path", "_law_yw_row", "_law_yw_firsts", "_law_yw_odd_web", "_law_yw_odd_path", "_law_yw_odd_row", "_law_yw_arguments", "_law_yq_is_whole", "_law_yq_same", "_law_n5_heard", "_law_n5_asked", "_law_n5_right", "_law_n5_form_right", "_law_n5_refused_right"]
def loose : List Str := loose0 ++ loose1
abbrev R : PySem.W.OpenRow := PySem.W.OpenLaw.row PySem.Challenge.rw_nosurer_k05_rows_and_what_they_build
abbrev hk : PySem.W.Hook := He.hookX 5 fa fn [] tf lits
def ob (s : PySem.W.SharedT) : He.AlX := He.obsX 5 fa fn [] tf lits (HandSHeadRun.getT s)
theorem ob_eq (s : PySem.W.SharedT) : ob s = hk.obs s.abs := He.obsX_eq (HandSHeadRun.getT_eq s)
theorem run (w : World) : HandSHeadRun.RunEq R (PySem.W.view R.prog [57]) hk ob 4000 loose w := by
  intro os
  kernel_rfl
end Hd

set_option Elab.async false
set_option linter.all false
set_option maxRecDepth 100000
set_option maxHeartbeats 0
namespace Hd
open PySem PySem.Spec PyProof.Rows L2 Ev
def fns : List (String × Fd) := [("whole", iwhole), ("wrong_lot", iwrong_lot), ("is_lot", iis_lot), ("wrong_web", iwrong_web), ("asked_web", iasked_web), ("wrong_path", iwrong_path), ("asked_path", iasked_path), ("wrong_row", iwrong_row), ("asked_row", iasked_row), ("places_in", iplaces_in), ("asked_built", iasked_built), ("made_row", imade_row), ("is_row", iis_row), ("built_length", ibuilt_length), ("built", ibuilt), ("first_places", ifirst_places), ("_law_pool", i_law_pool), ("_law_take", i_law_take), ("_law_one", i_law_one), ("_law_mixed", i_law_mixed), ("_law_some", i_law_some), ("_law_yw_is_whole", i_law_yw_is_whole), ("_law_yw_is_in", i_law_yw_is_in), ("_law_yw_lot_fault", i_law_yw_lot_fault), ("_law_yw_web_fault", i_law_yw_web_fault), ("_law_yw_path_fault", i_law_yw_path_fault), ("_law_yw_row_fault", i_law_yw_row_fault), ("_law_yw_readers", i_law_yw_readers), ("_law_yw_web", i_law_yw_web), ("_law_yw_web_of", i_law_yw_web_of), ("_law_yw_path", i_law_yw_path), ("_law_yw_row", i_law_yw_row), ("_law_yw_firsts", i_law_yw_firsts), ("_law_yw_odd_web", i_law_yw_odd_web), ("_law_yw_odd_path", i_law_yw_odd_path), ("_law_yw_odd_row", i_law_yw_odd_row), ("_law_yw_arguments", i_law_yw_arguments), ("_law_yq_is_whole", i_law_yq_is_whole), ("_law_yq_same", i_law_yq_same), ("_law_n5_asked", i_law_n5_asked), ("_law_n5_right", i_law_n5_right), ("_law_n5_form_right", i_law_n5_form_right), ("_law_n5_refused_right", i_law_n5_refused_right), ("law", k5Law)]
def G : Gm := ⟨fns, [("_law_n5_heard", .named al ["BadWeb", "BadRow", "BadPath", "TooMany"])], [("MOST_CELLS", .int 60), ("MOST_LONG", .int 200)], al, 30000⟩
def lamL : List String := ["_law_n5_right", "_law_n5_form_right", "_law_n5_refused_right", "law"]
def hds (f : String) : Bool := lamL.contains f
theorem gK : K5 G where
  whole := rfl
  wrong_lot := rfl
  is_lot := rfl
  wrong_web := rfl
  asked_web := rfl
  most := rfl
  isw := rfl
  isin := rfl
  lot := rfl
  web := rfl
  take := rfl
  one := rfl
  mixed := rfl
  some_ := rfl
  pool := rfl
  same := rfl
  qwhole := rfl
  yw_readers := rfl
  yw_web := rfl
  odd_web := rfl
  arguments := rfl
  wrong_row := rfl
  asked_row := rfl
  wrong_path := rfl
  asked_path := rfl
  long := rfl
  row_fault := rfl
  path_fault := rfl
  places_in := rfl
  asked_built := rfl
  made_row := rfl
  is_row := rfl
  built_length := rfl
  built := rfl
  first_places := rfl
  web_of := rfl
  yw_path := rfl
  yw_row := rfl
  firsts := rfl
  odd_path := rfl
  odd_row := rfl
  asked := rfl
  right := rfl
  form_right := rfl
  refused_right := rfl
  hrd := rfl
  cTM := by decide
  cBW := by decide
  cBR := by decide
  cBP := by decide
  fuel := by decide
theorem ev (ns : List Int) (hl : ns.length ≤ 63) : (∃ μ, callN G 10 "law" [.frz ns] [] = .ok (.bl true) μ) ∧ ∃ μ, callN G 10 "law" [.ref 0] [.lst (ns.map .int)] = .ok (.bl true) μ :=
  ⟨k5_law gK 0 rfl (μ := []) (p := .frz ns) rfl hl, k5_law gK 0 rfl (μ := [.lst (ns.map .int)]) (p := .ref 0) rfl hl⟩
section
variable {P : Program} {w : World} {K : PySem.W.Frag} {mg : Str → Option Value} {base h : Heap}
abbrev AllTabs (K : PySem.W.Frag) (mg : Str → Option Value) (base : Heap) : Prop := ∀ p ∈ tf, LamX.TabB base mg (He.cT K p).1 (He.cT K p).2
theorem b_whole (X : K.In h) (Gn : h.Ns mainGlobals mg) (c : He.SaysD fa fn K) (L : LitP tf al K) (tabs : AllTabs K mg base) : @FnB (tbOf K tf) K mg base G "whole" iwhole (hds "whole") := by
  letI : Tb := tbOf K tf
  obtain ⟨fd, F⟩ := c.def_ 1 (d := mkD "whole" (top 6)) rfl
  exact fnB_of F (He.glo_ok X Gn (c.fact 5 (f := .glo (Str.ofString "whole")) rfl)) ⟨rfl, rfl, rfl, by decide +kernel, rfl, by decide +kernel, by decide +kernel⟩ (fun _ _ _ _ _ _ us hl => match us, hl with | [_, _, _], _ => rfl) (by decide +kernel) (fun h => absurd h (by decide +kernel))
theorem b_wrong_lot (X : K.In h) (Gn : h.Ns mainGlobals mg) (c : He.SaysD fa fn K) (L : LitP tf al K) (tabs : AllTabs K mg base) : @FnB (tbOf K tf) K mg base G "wrong_lot" iwrong_lot (hds "wrong_lot") := by
  letI : Tb := tbOf K tf
  obtain ⟨fd, F⟩ := c.def_ 2 (d := mkD "wrong_lot" (top 10)) rfl
  exact fnB_of F (He.glo_ok X Gn (c.fact 6 (f := .glo (Str.ofString "wrong_lot")) rfl)) ⟨rfl, rfl, rfl, by decide +kernel, rfl, by decide +kernel, by decide +kernel⟩ (fun _ _ _ _ _ _ us hl => match us, hl with | [_, _], _ => rfl) (by decide +kernel) (fun h => absurd h (by decide +kernel))
theorem b_is_lot (X : K.In h) (Gn : h.Ns mainGlobals mg) (c : He.SaysD fa fn K) (L : LitP tf al K) (tabs : AllTabs K mg base) : @FnB (tbOf K tf) K mg base G "is_lot" iis_lot (hds "is_lot") := by
  letI : Tb := tbOf K tf
  obtain ⟨fd, F⟩ := c.def_ 3 (d := mkD "is_lot" (top 11)) rfl
  exact fnB_of F (He.glo_ok X Gn (c.fact 7 (f := .glo (Str.ofString "is_lot")) rfl)) ⟨rfl, rfl, rfl, by decide +kernel, rfl, by decide +kernel, by decide +kernel⟩ (fun _ _ _ _ _ _ us hl => match us, hl with | [_, _], _ => rfl) (by decide +kernel) (fun h => absurd h (by decide +kernel))
theorem b_wrong_web (X : K.In h) (Gn : h.Ns mainGlobals mg) (c : He.SaysD fa fn K) (L : LitP tf al K) (tabs : AllTabs K mg base) : @FnB (tbOf K tf) K mg base G "wrong_web" iwrong_web (hds "wrong_web") := by
  letI : Tb := tbOf K tf
  obtain ⟨fd, F⟩ := c.def_ 4 (d := mkD "wrong_web" (top 13)) rfl
  exact fnB_of F (He.glo_ok X Gn (c.fact 8 (f := .glo (Str.ofString "wrong_web")) rfl)) ⟨rfl, rfl, rfl, by decide +kernel, rfl, by decide +kernel, by decide +kernel⟩ (fun _ _ _ _ _ _ us hl => match us, hl with | [_], _ => rfl) (by decide +kernel) (fun h => absurd h (by decide +kernel))
theorem b_asked_web (X : K.In h) (Gn : h.Ns mainGlobals mg) (c : He.SaysD fa fn K) (L : LitP tf al K) (tabs : AllTabs K mg base) : @FnB (tbOf K tf) K mg base G "asked_web" iasked_web (hds "asked_web") := by
  letI : Tb := tbOf K tf
  obtain ⟨fd, F⟩ := c.def_ 5 (d := mkD "asked_web" (top 14)) rfl
  exact fnB_of F (He.glo_ok X Gn (c.fact 9 (f := .glo (Str.ofString "asked_web")) rfl)) ⟨rfl, rfl, rfl, by decide +kernel, rfl, by decide +kernel, by decide +kernel⟩ (fun _ _ _ _ _ _ us hl => match us, hl with | [_], _ => rfl) (by decide +kernel) (fun h => absurd h (by decide +kernel))
theorem b_wrong_path (X : K.In h) (Gn : h.Ns mainGlobals mg) (c : He.SaysD fa fn K) (L : LitP tf al K) (tabs : AllTabs K mg base) : @FnB (tbOf K tf) K mg base G "wrong_path" iwrong_path (hds "wrong_path") := by
  letI : Tb := tbOf K tf
  obtain ⟨fd, F⟩ := c.def_ 6 (d := mkD "wrong_path" (top 16)) rfl
  exact fnB_of F (He.glo_ok X Gn (c.fact 10 (f := .glo (Str.ofString "wrong_path")) rfl)) ⟨rfl, rfl, rfl, by decide +kernel, rfl, by decide +kernel, by decide +kernel⟩ (fun _ _ _ _ _ _ us hl => match us, hl with | [_, _], _ => rfl) (by decide +kernel) (fun h => absurd h (by decide +kernel))
theorem b_asked_path (X : K.In h) (Gn : h.Ns mainGlobals mg) (c : He.SaysD fa fn K) (L : LitP tf al K) (tabs : AllTabs K mg base) : @FnB (tbOf K tf) K mg base G "asked_path" iasked_path (hds "asked_path") := by
  letI : Tb := tbOf K tf
  obtain ⟨fd, F⟩ := c.def_ 7 (d := mkD "asked_path" (top 17)) rfl
  exact fnB_of F (He.glo_ok X Gn (c.fact 11 (f := .glo (Str.ofString "asked_path")) rfl)) ⟨rfl, rfl, rfl, by decide +kernel, rfl, by decide +kernel, by decide +kernel⟩ (fun _ _ _ _ _ _ us hl => match us, hl with | [_, _], _ => rfl) (by decide +kernel) (fun h => absurd h (by decide +kernel))
theorem b_wrong_row (X : K.In h) (Gn : h.Ns mainGlobals mg) (c : He.SaysD fa fn K) (L : LitP tf al K) (tabs : AllTabs K mg base) : @FnB (tbOf K tf) K mg base G "wrong_row" iwrong_row (hds "wrong_row") := by
  letI : Tb := tbOf K tf
  obtain ⟨fd, F⟩ := c.def_ 8 (d := mkD "wrong_row" (top 19)) rfl
  exact fnB_of F (He.glo_ok X Gn (c.fact 12 (f := .glo (Str.ofString "wrong_row")) rfl)) ⟨rfl, rfl, rfl, by decide +kernel, rfl, by decide +kernel, by decide +kernel⟩ (fun _ _ _ _ _ _ us hl => match us, hl with | [_, _], _ => rfl) (by decide +kernel) (fun h => absurd h (by decide +kernel))
theorem b_asked_row (X : K.In h) (Gn : h.Ns mainGlobals mg) (c : He.SaysD fa fn K) (L : LitP tf al K) (tabs : AllTabs K mg base) : @FnB (tbOf K tf) K mg base G "asked_row" iasked_row (hds "asked_row") := by
  letI : Tb := tbOf K tf
  obtain ⟨fd, F⟩ := c.def_ 9 (d := mkD "asked_row" (top 20)) rfl
  exact fnB_of F (He.glo_ok X Gn (c.fact 13 (f := .glo (Str.ofString "asked_row")) rfl)) ⟨rfl, rfl, rfl, by decide +kernel, rfl, by decide +kernel, by decide +kernel⟩ (fun _ _ _ _ _ _ us hl => match us, hl with | [_, _], _ => rfl) (by decide +kernel) (fun h => absurd h (by decide +kernel))
theorem b_places_in (X : K.In h) (Gn : h.Ns mainGlobals mg) (c : He.SaysD fa fn K) (L : LitP tf al K) (tabs : AllTabs K mg base) : @FnB (tbOf K tf) K mg base G "places_in" iplaces_in (hds "places_in") := by
  letI : Tb := tbOf K tf
  obtain ⟨fd, F⟩ := c.def_ 10 (d := mkD "places_in" (top 21)) rfl
  exact fnB_of F (He.glo_ok X Gn (c.fact 14 (f := .glo (Str.ofString "places_in")) rfl)) ⟨rfl, rfl, rfl, by decide +kernel, rfl, by decide +kernel, by decide +kernel⟩ (fun _ _ _ _ _ _ us hl => match us, hl with | [_, _], _ => rfl) (by decide +kernel) (fun h => absurd h (by decide +kernel))
theorem b_asked_built (X : K.In h) (Gn : h.Ns mainGlobals mg) (c : He.SaysD fa fn K) (L : LitP tf al K) (tabs : AllTabs K mg base) : @FnB (tbOf K tf) K mg base G "asked_built" iasked_built (hds "asked_built") := by
  letI : Tb := tbOf K tf
  obtain ⟨fd, F⟩ := c.def_ 11 (d := mkD "asked_built" (top 22)) rfl
  exact fnB_of F (He.glo_ok X Gn (c.fact 15 (f := .glo (Str.ofString "asked_built")) rfl)) ⟨rfl, rfl, rfl, by decide +kernel, rfl, by decide +kernel, by decide +kernel⟩ (fun _ _ _ _ _ _ us hl => match us, hl with | [_, _, _], _ => rfl) (by decide +kernel) (fun h => absurd h (by decide +kernel))
theorem b_made_row (X : K.In h) (Gn : h.Ns mainGlobals mg) (c : He.SaysD fa fn K) (L : LitP tf al K) (tabs : AllTabs K mg base) : @FnB (tbOf K tf) K mg base G "made_row" imade_row (hds "made_row") := by
  letI : Tb := tbOf K tf
  obtain ⟨fd, F⟩ := c.def_ 12 (d := mkD "made_row" (top 23)) rfl
  exact fnB_of F (He.glo_ok X Gn (c.fact 16 (f := .glo (Str.ofString "made_row")) rfl)) ⟨rfl, rfl, rfl, by decide +kernel, rfl, by decide +kernel, by decide +kernel⟩ (fun _ _ _ _ _ _ us hl => match us, hl with | [_, _], _ => rfl) (by decide +kernel) (fun h => absurd h (by decide +kernel))
theorem b_is_row (X : K.In h) (Gn : h.Ns mainGlobals mg) (c : He.SaysD fa fn K) (L : LitP tf al K) (tabs : AllTabs K mg base) : @FnB (tbOf K tf) K mg base G "is_row" iis_row (hds "is_row") := by
  letI : Tb := tbOf K tf
  obtain ⟨fd, F⟩ := c.def_ 13 (d := mkD "is_row" (top 24)) rfl
  exact fnB_of F (He.glo_ok X Gn (c.fact 17 (f := .glo (Str.ofString "is_row")) rfl)) ⟨rfl, rfl, rfl, by decide +kernel, rfl, by decide +kernel, by decide +kernel⟩ (fun _ _ _ _ _ _ us hl => match us, hl with | [_, _], _ => rfl) (by decide +kernel) (fun h => absurd h (by decide +kernel))
theorem b_built_length (X : K.In h) (Gn : h.Ns mainGlobals mg) (c : He.SaysD fa fn K) (L : LitP tf al K) (tabs : AllTabs K mg base) : @FnB (tbOf K tf) K mg base G "built_length" ibuilt_length (hds "built_length") := by
  letI : Tb := tbOf K tf
  obtain ⟨fd, F⟩ := c.def_ 14 (d := mkD "built_length" (top 25)) rfl
  exact fnB_of F (He.glo_ok X Gn (c.fact 18 (f := .glo (Str.ofString "built_length")) rfl)) ⟨rfl, rfl, rfl, by decide +kernel, rfl, by decide +kernel, by decide +kernel⟩ (fun _ _ _ _ _ _ us hl => match us, hl with | [_, _, _], _ => rfl) (by decide +kernel) (fun h => absurd h (by decide +kernel))
theorem b_built (X : K.In h) (Gn : h.Ns mainGlobals mg) (c : He.SaysD fa fn K) (L : LitP tf al K) (tabs : AllTabs K mg base) : @FnB (tbOf K tf) K mg base G "built" ibuilt (hds "built") := by
  letI : Tb := tbOf K tf
  obtain ⟨fd, F⟩ := c.def_ 15 (d := mkD "built" (top 26)) rfl
  exact fnB_of F (He.glo_ok X Gn (c.fact 19 (f := .glo (Str.ofString "built")) rfl)) ⟨rfl, rfl, rfl, by decide +kernel, rfl, by decide +kernel, by decide +kernel⟩ (fun _ _ _ _ _ _ us hl => match us, hl with | [_, _, _], _ => rfl) (by decide +kernel) (fun h => absurd h (by decide +kernel))
theorem b_first_places (X : K.In h) (Gn : h.Ns mainGlobals mg) (c : He.SaysD fa fn K) (L : LitP tf al K) (tabs : AllTabs K mg base) : @FnB (tbOf K tf) K mg base G "first_places" ifirst_places (hds "first_places") := by
  letI : Tb := tbOf K tf
  obtain ⟨fd, F⟩ := c.def_ 16 (d := mkD "first_places" (top 27)) rfl
  exact fnB_of F (He.glo_ok X Gn (c.fact 20 (f := .glo (Str.ofString "first_places")) rfl)) ⟨rfl, rfl, rfl, by decide +kernel, rfl, by decide +kernel, by decide +kernel⟩ (fun _ _ _ _ _ _ us hl => match us, hl with | [_, _, _], _ => rfl) (by decide +kernel) (fun h => absurd h (by decide +kernel))
theorem b__law_pool (X : K.In h) (Gn : h.Ns mainGlobals mg) (c : He.SaysD fa fn K) (L : LitP tf al K) (tabs : AllTabs K mg base) : @FnB (tbOf K tf) K mg base G "_law_pool" i_law_pool (hds "_law_pool") := by
  letI : Tb := tbOf K tf
  obtain ⟨fd, F⟩ := c.def_ 17 (d := mkD "_law_pool" (top 29)) rfl
  exact fnB_of F (He.glo_ok X Gn (c.fact 21 (f := .glo (Str.ofString "_law_pool")) rfl)) ⟨rfl, rfl, rfl, by decide +kernel, rfl, by decide +kernel, by decide +kernel⟩ (fun _ _ _ _ _ _ us hl => match us, hl with | [_], _ => rfl) (by decide +kernel) (fun h => absurd h (by decide +kernel))
theorem b__law_take (X : K.In h) (Gn : h.Ns mainGlobals mg) (c : He.SaysD fa fn K) (L : LitP tf al K) (tabs : AllTabs K mg base) : @FnB (tbOf K tf) K mg base G "_law_take" i_law_take (hds "_law_take") := by
  letI : Tb := tbOf K tf
  obtain ⟨fd, F⟩ := c.def_ 18 (d := mkD "_law_take" (top 30)) rfl
  exact fnB_of F (He.glo_ok X Gn (c.fact 22 (f := .glo (Str.ofString "_law_take")) rfl)) ⟨rfl, rfl, rfl, by decide +kernel, rfl, by decide +kernel, by decide +kernel⟩ (fun _ _ _ _ _ _ us hl => match us, hl with | [_, _], _ => rfl) (by decide +kernel) (fun h => absurd h (by decide +kernel))
theorem b__law_one (X : K.In h) (Gn : h.Ns mainGlobals mg) (c : He.SaysD fa fn K) (L : LitP tf al K) (tabs : AllTabs K mg base) : @FnB (tbOf K tf) K mg base G "_law_one" i_law_one (hds "_law_one") := by
  letI : Tb := tbOf K tf
  obtain ⟨fd, F⟩ := c.def_ 19 (d := mkD "_law_one" (top 31)) rfl
  exact fnB_of F (He.glo_ok X Gn (c.fact 23 (f := .glo (Str.ofString "_law_one")) rfl)) ⟨rfl, rfl, rfl, by decide +kernel, rfl, by decide +kernel, by decide +kernel⟩ (fun _ _ _ _ _ _ us hl => match us, hl with | [_, _], _ => rfl) (by decide +kernel) (fun h => absurd h (by decide +kernel))
theorem b__law_mixed (X : K.In h) (Gn : h.Ns mainGlobals mg) (c : He.SaysD fa fn K) (L : LitP tf al K) (tabs : AllTabs K mg base) : @FnB (tbOf K tf) K mg base G "_law_mixed" i_law_mixed (hds "_law_mixed") := by
  letI : Tb := tbOf K tf
  obtain ⟨fd, F⟩ := c.def_ 20 (d := mkD "_law_mixed" (top 32)) rfl
  exact fnB_of F (He.glo_ok X Gn (c.fact 24 (f := .glo (Str.ofString "_law_mixed")) rfl)) ⟨rfl, rfl, rfl, by decide +kernel, rfl, by decide +kernel, by decide +kernel⟩ (fun _ _ _ _ _ _ us hl => match us, hl with | [_, _], _ => rfl) (by decide +kernel) (fun h => absurd h (by decide +kernel))
theorem b__law_some (X : K.In h) (Gn : h.Ns mainGlobals mg) (c : He.SaysD fa fn K) (L : LitP tf al K) (tabs : AllTabs K mg base) : @FnB (tbOf K tf) K mg base G "_law_some" i_law_some (hds "_law_some") := by
  letI : Tb := tbOf K tf
  obtain ⟨fd, F⟩ := c.def_ 21 (d := mkD "_law_some" (top 33)) rfl
  exact fnB_of F (He.glo_ok X Gn (c.fact 25 (f := .glo (Str.ofString "_law_some")) rfl)) ⟨rfl, rfl, rfl, by decide +kernel, rfl, by decide +kernel, by decide +kernel⟩ (fun _ _ _ _ _ _ us hl => match us, hl with | [_, _, _], _ => rfl) (by decide +kernel) (fun h => absurd h (by decide +kernel))
theorem b__law_yw_is_whole (X : K.In h) (Gn : h.Ns mainGlobals mg) (c : He.SaysD fa fn K) (L : LitP tf al K) (tabs : AllTabs K mg base) : @FnB (tbOf K tf) K mg base G "_law_yw_is_whole" i_law_yw_is_whole (hds "_law_yw_is_whole") := by
  letI : Tb := tbOf K tf
  obtain ⟨fd, F⟩ := c.def_ 22 (d := mkD "_law_yw_is_whole" (top 34)) rfl
  exact fnB_of F (He.glo_ok X Gn (c.fact 26 (f := .glo (Str.ofString "_law_yw_is_whole")) rfl)) ⟨rfl, rfl, rfl, by decide +kernel, rfl, by decide +kernel, by decide +kernel⟩ (fun _ _ _ _ _ _ us hl => match us, hl with | [_], _ => rfl) (by decide +kernel) (fun h => absurd h (by decide +kernel))
theorem b__law_yw_is_in (X : K.In h) (Gn : h.Ns mainGlobals mg) (c : He.SaysD fa fn K) (L : LitP tf al K) (tabs : AllTabs K mg base) : @FnB (tbOf K tf) K mg base G "_law_yw_is_in" i_law_yw_is_in (hds "_law_yw_is_in") := by
  letI : Tb := tbOf K tf
  obtain ⟨fd, F⟩ := c.def_ 23 (d := mkD "_law_yw_is_in" (top 35)) rfl
  exact fnB_of F (He.glo_ok X Gn (c.fact 27 (f := .glo (Str.ofString "_law_yw_is_in")) rfl)) ⟨rfl, rfl, rfl, by decide +kernel, rfl, by decide +kernel, by decide +kernel⟩ (fun _ _ _ _ _ _ us hl => match us, hl with | [_, _, _], _ => rfl) (by decide +kernel) (fun h => absurd h (by decide +kernel))
theorem b__law_yw_lot_fault (X : K.In h) (Gn : h.Ns mainGlobals mg) (c : He.SaysD fa fn K) (L : LitP tf al K) (tabs : AllTabs K mg base) : @FnB (tbOf K tf) K mg base G "_law_yw_lot_fault" i_law_yw_lot_fault (hds "_law_yw_lot_fault") := by
  letI : Tb := tbOf K tf
  obtain ⟨fd, F⟩ := c.def_ 24 (d := mkD "_law_yw_lot_fault" (top 36)) rfl
  exact fnB_of F (He.glo_ok X Gn (c.fact 28 (f := .glo (Str.ofString "_law_yw_lot_fault")) rfl)) ⟨rfl, rfl, rfl, by decide +kernel, rfl, by decide +kernel, by decide +kernel⟩ (fun _ _ _ _ _ _ us hl => match us, hl with | [_, _], _ => rfl) (by decide +kernel) (fun h => absurd h (by decide +kernel))
theorem b__law_yw_web_fault (X : K.In h) (Gn : h.Ns mainGlobals mg) (c : He.SaysD fa fn K) (L : LitP tf al K) (tabs : AllTabs K mg base) : @FnB (tbOf K tf) K mg base G "_law_yw_web_fault" i_law_yw_web_fault (hds "_law_yw_web_fault") := by
  letI : Tb := tbOf K tf
  obtain ⟨fd, F⟩ := c.def_ 25 (d := mkD "_law_yw_web_fault" (top 37)) rfl
  exact fnB_of F (He.glo_ok X Gn (c.fact 29 (f := .glo (Str.ofString "_law_yw_web_fault")) rfl)) ⟨rfl, rfl, rfl, by decide +kernel, rfl, by decide +kernel, by decide +kernel⟩ (fun _ _ _ _ _ _ us hl => match us, hl with | [_], _ => rfl) (by decide +kernel) (fun h => absurd h (by decide +kernel))
theorem b__law_yw_path_fault (X : K.In h) (Gn : h.Ns mainGlobals mg) (c : He.SaysD fa fn K) (L : LitP tf al K) (tabs : AllTabs K mg base) : @FnB (tbOf K tf) K mg base G "_law_yw_path_fault" i_law_yw_path_fault (hds "_law_yw_path_fault") := by
  letI : Tb := tbOf K tf
  obtain ⟨fd, F⟩ := c.def_ 26 (d := mkD "_law_yw_path_fault" (top 38)) rfl
  exact fnB_of F (He.glo_ok X Gn (c.fact 30 (f := .glo (Str.ofString "_law_yw_path_fault")) rfl)) ⟨rfl, rfl, rfl, by decide +kernel, rfl, by decide +kernel, by decide +kernel⟩ (fun _ _ _ _ _ _ us hl => match us, hl with | [_, _], _ => rfl) (by decide +kernel) (fun h => absurd h (by decide +kernel))
theorem b__law_yw_row_fault (X : K.In h) (Gn : h.Ns mainGlobals mg) (c : He.SaysD fa fn K) (L : LitP tf al K) (tabs : AllTabs K mg base) : @FnB (tbOf K tf) K mg base G "_law_yw_row_fault" i_law_yw_row_fault (hds "_law_yw_row_fault") := by
  letI : Tb := tbOf K tf
  obtain ⟨fd, F⟩ := c.def_ 27 (d := mkD "_law_yw_row_fault" (top 39)) rfl
  exact fnB_of F (He.glo_ok X Gn (c.fact 31 (f := .glo (Str.ofString "_law_yw_row_fault")) rfl)) ⟨rfl, rfl, rfl, by decide +kernel, rfl, by decide +kernel, by decide +kernel⟩ (fun _ _ _ _ _ _ us hl => match us, hl with | [_, _], _ => rfl) (by decide +kernel) (fun h => absurd h (by decide +kernel))
theorem b__law_yw_readers (X : K.In h) (Gn : h.Ns mainGlobals mg) (c : He.SaysD fa fn K) (L : LitP tf al K) (tabs : AllTabs K mg base) : @FnB (tbOf K tf) K mg base G "_law_yw_readers" i_law_yw_readers (hds "_law_yw_readers") := by
  letI : Tb := tbOf K tf
  obtain ⟨fd, F⟩ := c.def_ 28 (d := mkD "_law_yw_readers" (top 40)) rfl
  exact fnB_of F (He.glo_ok X Gn (c.fact 32 (f := .glo (Str.ofString "_law_yw_readers")) rfl)) ⟨rfl, rfl, rfl, by decide +kernel, rfl, by decide +kernel, by decide +kernel⟩ (fun _ _ _ _ _ _ us hl => match us, hl with | [_, _], _ => rfl) (by decide +kernel) (fun h => absurd h (by decide +kernel))
theorem b__law_yw_web (X : K.In h) (Gn : h.Ns mainGlobals mg) (c : He.SaysD fa fn K) (L : LitP tf al K) (tabs : AllTabs K mg base) : @FnB (tbOf K tf) K mg base G "_law_yw_web" i_law_yw_web (hds "_law_yw_web") := by
  letI : Tb := tbOf K tf
  obtain ⟨fd, F⟩ := c.def_ 29 (d := mkD "_law_yw_web" (top 41)) rfl
  exact fnB_of F (He.glo_ok X Gn (c.fact 33 (f := .glo (Str.ofString "_law_yw_web")) rfl)) ⟨rfl, rfl, rfl, by decide +kernel, rfl, by decide +kernel, by decide +kernel⟩ (fun _ _ _ _ _ _ us hl => match us, hl with | [_], _ => rfl) (by decide +kernel) (fun h => absurd h (by decide +kernel))
theorem b__law_yw_web_of (X : K.In h) (Gn : h.Ns mainGlobals mg) (c : He.SaysD fa fn K) (L : LitP tf al K) (tabs : AllTabs K mg base) : @FnB (tbOf K tf) K mg base G "_law_yw_web_of" i_law_yw_web_of (hds "_law_yw_web_of") := by
  letI : Tb := tbOf K tf
  obtain ⟨fd, F⟩ := c.def_ 30 (d := mkD "_law_yw_web_of" (top 42)) rfl
  exact fnB_of F (He.glo_ok X Gn (c.fact 34 (f := .glo (Str.ofString "_law_yw_web_of")) rfl)) ⟨rfl, rfl, rfl, by decide +kernel, rfl, by decide +kernel, by decide +kernel⟩ (fun _ _ _ _ _ _ us hl => match us, hl with | [_], _ => rfl) (by decide +kernel) (fun h => absurd h (by decide +kernel))
theorem b__law_yw_path (X : K.In h) (Gn : h.Ns mainGlobals mg) (c : He.SaysD fa fn K) (L : LitP tf al K) (tabs : AllTabs K mg base) : @FnB (tbOf K tf) K mg base G "_law_yw_path" i_law_yw_path (hds "_law_yw_path") := by
  letI : Tb := tbOf K tf
  obtain ⟨fd, F⟩ := c.def_ 31 (d := mkD "_law_yw_path" (top 43)) rfl
  exact fnB_of F (He.glo_ok X Gn (c.fact 35 (f := .glo (Str.ofString "_law_yw_path")) rfl)) ⟨rfl, rfl, rfl, by decide +kernel, rfl, by decide +kernel, by decide +kernel⟩ (fun _ _ _ _ _ _ us hl => match us, hl with | [_, _, _], _ => rfl) (by decide +kernel) (fun h => absurd h (by decide +kernel))
theorem b__law_yw_row (X : K.In h) (Gn : h.Ns mainGlobals mg) (c : He.SaysD fa fn K) (L : LitP tf al K) (tabs : AllTabs K mg base) : @FnB (tbOf K tf) K mg base G "_law_yw_row" i_law_yw_row (hds "_law_yw_row") := by
  letI : Tb := tbOf K tf
  obtain ⟨fd, F⟩ := c.def_ 32 (d := mkD "_law_yw_row" (top 44)) rfl
  exact fnB_of F (He.glo_ok X Gn (c.fact 36 (f := .glo (Str.ofString "_law_yw_row")) rfl)) ⟨rfl, rfl, rfl, by decide +kernel, rfl, by decide +kernel, by decide +kernel⟩ (fun _ _ _ _ _ _ us hl => match us, hl with | [_, _, _], _ => rfl) (by decide +kernel) (fun h => absurd h (by decide +kernel))
theorem b__law_yw_firsts (X : K.In h) (Gn : h.Ns mainGlobals mg) (c : He.SaysD fa fn K) (L : LitP tf al K) (tabs : AllTabs K mg base) : @FnB (tbOf K tf) K mg base G "_law_yw_firsts" i_law_yw_firsts (hds "_law_yw_firsts") := by
  letI : Tb := tbOf K tf
  obtain ⟨fd, F⟩ := c.def_ 33 (d := mkD "_law_yw_firsts" (top 45)) rfl
  exact fnB_of F (He.glo_ok X Gn (c.fact 37 (f := .glo (Str.ofString "_law_yw_firsts")) rfl)) ⟨rfl, rfl, rfl, by decide +kernel, rfl, by decide +kernel, by decide +kernel⟩ (fun _ _ _ _ _ _ us hl => match us, hl with | [_, _], _ => rfl) (by decide +kernel) (fun h => absurd h (by decide +kernel))
theorem b__law_yw_odd_web (X : K.In h) (Gn : h.Ns mainGlobals mg) (c : He.SaysD fa fn K) (L : LitP tf al K) (tabs : AllTabs K mg base) : @FnB (tbOf K tf) K mg base G "_law_yw_odd_web" i_law_yw_odd_web (hds "_law_yw_odd_web") := by
  letI : Tb := tbOf K tf
  obtain ⟨fd, F⟩ := c.def_ 34 (d := mkD "_law_yw_odd_web" (top 46)) rfl
  exact fnB_of F (He.glo_ok X Gn (c.fact 38 (f := .glo (Str.ofString "_law_yw_odd_web")) rfl)) ⟨rfl, rfl, rfl, by decide +kernel, rfl, by decide +kernel, by decide +kernel⟩ (fun _ _ _ _ _ _ us hl => match us, hl with | [_, _], _ => rfl) (by decide +kernel) (fun h => absurd h (by decide +kernel))
theorem b__law_yw_odd_path (X : K.In h) (Gn : h.Ns mainGlobals mg) (c : He.SaysD fa fn K) (L : LitP tf al K) (tabs : AllTabs K mg base) : @FnB (tbOf K tf) K mg base G "_law_yw_odd_path" i_law_yw_odd_path (hds "_law_yw_odd_path") := by
  letI : Tb := tbOf K tf
  obtain ⟨fd, F⟩ := c.def_ 35 (d := mkD "_law_yw_odd_path" (top 47)) rfl
  exact fnB_of F (He.glo_ok X Gn (c.fact 39 (f := .glo (Str.ofString "_law_yw_odd_path")) rfl)) ⟨rfl, rfl, rfl, by decide +kernel, rfl, by decide +kernel, by decide +kernel⟩ (fun _ _ _ _ _ _ us hl => match us, hl with | [_, _], _ => rfl) (by decide +kernel) (fun h => absurd h (by decide +kernel))
theorem b__law_yw_odd_row (X : K.In h) (Gn : h.Ns mainGlobals mg) (c : He.SaysD fa fn K) (L : LitP tf al K) (tabs : AllTabs K mg base) : @FnB (tbOf K tf) K mg base G "_law_yw_odd_row" i_law_yw_odd_row (hds "_law_yw_odd_row") := by
  letI : Tb := tbOf K tf
  obtain ⟨fd, F⟩ := c.def_ 36 (d := mkD "_law_yw_odd_row" (top 48)) rfl
  exact fnB_of F (He.glo_ok X Gn (c.fact 40 (f := .glo (Str.ofString "_law_yw_odd_row")) rfl)) ⟨rfl, rfl, rfl, by decide +kernel, rfl, by decide +kernel, by decide +kernel⟩ (fun _ _ _ _ _ _ us hl => match us, hl with | [_, _], _ => rfl) (by decide +kernel) (fun h => absurd h (by decide +kernel))
theorem b__law_yw_arguments (X : K.In h) (Gn : h.Ns mainGlobals mg) (c : He.SaysD fa fn K) (L : LitP tf al K) (tabs : AllTabs K mg base) : @FnB (tbOf K tf) K mg base G "_law_yw_arguments" i_law_yw_arguments (hds "_law_yw_arguments") := by
  letI : Tb := tbOf K tf
  obtain ⟨fd, F⟩ := c.def_ 37 (d := mkD "_law_yw_arguments" (top 49)) rfl
  exact fnB_of F (He.glo_ok X Gn (c.fact 41 (f := .glo (Str.ofString "_law_yw_arguments")) rfl)) ⟨rfl, rfl, rfl, by decide +kernel, rfl, by decide +kernel, by decide +kernel⟩ (fun _ _ _ _ _ _ us hl => match us, hl with | [_, _, _], _ => rfl) (by decide +kernel) (fun h => absurd h (by decide +kernel))
theorem b__law_yq_is_whole (X : K.In h) (Gn : h.Ns mainGlobals mg) (c : He.SaysD fa fn K) (L : LitP tf al K) (tabs : AllTabs K mg base) : @FnB (tbOf K tf) K mg base G "_law_yq_is_whole" i_law_yq_is_whole (hds "_law_yq_is_whole") := by
  letI : Tb := tbOf K tf
  obtain ⟨fd, F⟩ := c.def_ 38 (d := mkD "_law_yq_is_whole" (top 50)) rfl
  exact fnB_of F (He.glo_ok X Gn (c.fact 42 (f := .glo (Str.ofString "_law_yq_is_whole")) rfl)) ⟨rfl, rfl, rfl, by decide +kernel, rfl, by decide +kernel, by decide +kernel⟩ (fun _ _ _ _ _ _ us hl => match us, hl with | [_], _ => rfl) (by decide +kernel) (fun h => absurd h (by decide +kernel))
theorem b__law_yq_same (X : K.In h) (Gn : h.Ns mainGlobals mg) (c : He.SaysD fa fn K) (L : LitP tf al K) (tabs : AllTabs K mg base) : @FnB (tbOf K tf) K mg base G "_law_yq_same" i_law_yq_same (hds "_law_yq_same") := by
  letI : Tb := tbOf K tf
  obtain ⟨fd, F⟩ := c.def_ 39 (d := mkD "_law_yq_same" (top 51)) rfl
  exact fnB_of F (He.glo_ok X Gn (c.fact 43 (f := .glo (Str.ofString "_law_yq_same")) rfl)) ⟨rfl, rfl, rfl, by decide +kernel, rfl, by decide +kernel, by decide +kernel⟩ (fun _ _ _ _ _ _ us hl => match us, hl with | [_, _], _ => rfl) (by decide +kernel) (fun h => absurd h (by decide +kernel))
theorem b__law_n5_asked (X : K.In h) (Gn : h.Ns mainGlobals mg) (c : He.SaysD fa fn K) (L : LitP tf al K) (tabs : AllTabs K mg base) : @FnB (tbOf K tf) K mg base G "_law_n5_asked" i_law_n5_asked (hds "_law_n5_asked") := by
  letI : Tb := tbOf K tf
  obtain ⟨fd, F⟩ := c.def_ 41 (d := mkD "_law_n5_asked" (top 53)) rfl
  exact fnB_of F (He.glo_ok X Gn (c.fact 45 (f := .glo (Str.ofString "_law_n5_asked")) rfl)) ⟨rfl, rfl, rfl, by decide +kernel, rfl, by decide +kernel, by decide +kernel⟩ (fun _ _ _ _ _ _ us hl => match us, hl with | [_, _, _], _ => rfl) (by decide +kernel) (fun h => absurd h (by decide +kernel))
theorem b__law_n5_right (X : K.In h) (Gn : h.Ns mainGlobals mg) (c : He.SaysD fa fn K) (L : LitP tf al K) (tabs : AllTabs K mg base) : @FnB (tbOf K tf) K mg base G "_law_n5_right" i_law_n5_right (hds "_law_n5_right") := by
  letI : Tb := tbOf K tf
  obtain ⟨fd, F⟩ := c.def_ 42 (d := mkD "_law_n5_right" (top 54)) rfl
  exact fnB_of F (He.glo_ok X Gn (c.fact 46 (f := .glo (Str.ofString "_law_n5_right")) rfl)) ⟨rfl, rfl, rfl, by decide +kernel, rfl, by decide +kernel, by decide +kernel⟩ (fun _ _ _ _ _ _ us hl => match us, hl with | [_, _, _], _ => rfl) (by decide +kernel) (fun _ => tab_of (List.mem_iff_getElem.mpr ⟨0, by decide, rfl⟩) L.nd tabs)
theorem b__law_n5_form_right (X : K.In h) (Gn : h.Ns mainGlobals mg) (c : He.SaysD fa fn K) (L : LitP tf al K) (tabs : AllTabs K mg base) : @FnB (tbOf K tf) K mg base G "_law_n5_form_right" i_law_n5_form_right (hds "_law_n5_form_right") := by
  letI : Tb := tbOf K tf
  obtain ⟨fd, F⟩ := c.def_ 43 (d := mkD "_law_n5_form_right" (top 55)) rfl
  exact fnB_of F (He.glo_ok X Gn (c.fact 47 (f := .glo (Str.ofString "_law_n5_form_right")) rfl)) ⟨rfl, rfl, rfl, by decide +kernel, rfl, by decide +kernel, by decide +kernel⟩ (fun _ _ _ _ _ _ us hl => match us, hl with | [_, _], _ => rfl) (by decide +kernel) (fun _ => tab_of (List.mem_iff_getElem.mpr ⟨1, by decide, rfl⟩) L.nd tabs)
theorem b__law_n5_refused_right (X : K.In h) (Gn : h.Ns mainGlobals mg) (c : He.SaysD fa fn K) (L : LitP tf al K) (tabs : AllTabs K mg base) : @FnB (tbOf K tf) K mg base G "_law_n5_refused_right" i_law_n5_refused_right (hds "_law_n5_refused_right") := by
  letI : Tb := tbOf K tf
  obtain ⟨fd, F⟩ := c.def_ 44 (d := mkD "_law_n5_refused_right" (top 56)) rfl
  exact fnB_of F (He.glo_ok X Gn (c.fact 48 (f := .glo (Str.ofString "_law_n5_refused_right")) rfl)) ⟨rfl, rfl, rfl, by decide +kernel, rfl, by decide +kernel, by decide +kernel⟩ (fun _ _ _ _ _ _ us hl => match us, hl with | [_, _], _ => rfl) (by decide +kernel) (fun _ => tab_of (List.mem_iff_getElem.mpr ⟨2, by decide, rfl⟩) L.nd tabs)
theorem b_law (X : K.In h) (Gn : h.Ns mainGlobals mg) (c : He.SaysD fa fn K) (L : LitP tf al K) (tabs : AllTabs K mg base) : @FnB (tbOf K tf) K mg base G "law" k5Law (hds "law") := by
  letI : Tb := tbOf K tf
  obtain ⟨fd, F⟩ := c.def_ 45 (d := mkD "law" (top 57)) rfl
  exact fnB_of F (He.glo_ok X Gn (c.fact 49 (f := .glo (Str.ofString "law")) rfl)) ⟨rfl, rfl, rfl, by decide +kernel, rfl, by decide +kernel, by decide +kernel⟩ (fun _ _ _ _ _ _ us hl => match us, hl with | [_], _ => rfl) (by decide +kernel) (fun _ => tab_of (List.mem_iff_getElem.mpr ⟨3, by decide, rfl⟩) L.nd tabs)
theorem hB (X : K.In h) (Gn : h.Ns mainGlobals mg) (c : He.SaysD fa fn K) (L : LitP tf al K) (tabs : AllTabs K mg base) : ∀ f d, G.fns.lookup f = some d → @FnB (tbOf K tf) K mg base G f d (hds f) := fun f d hl => by
  have all : ∀ p ∈ fns, @FnB (tbOf K tf) K mg base G p.1 p.2 (hds p.1) := by
    refine List.forall_mem_cons.mpr ⟨b_whole X Gn c L tabs, ?_⟩
    refine List.forall_mem_cons.mpr ⟨b_wrong_lot X Gn c L tabs, ?_⟩
    refine List.forall_mem_cons.mpr ⟨b_is_lot X Gn c L tabs, ?_⟩
    refine List.forall_mem_cons.mpr ⟨b_wrong_web X Gn c L tabs, ?_⟩
    refine List.forall_mem_cons.mpr ⟨b_asked_web X Gn c L tabs, ?_⟩
    refine List.forall_mem_cons.mpr ⟨b_wrong_path X Gn c L tabs, ?_⟩
    refine List.forall_mem_cons.mpr ⟨b_asked_path X Gn c L tabs, ?_⟩
    refine List.forall_mem_cons.mpr ⟨b_wrong_row X Gn c L tabs, ?_⟩
    refine List.forall_mem_cons.mpr ⟨b_asked_row X Gn c L tabs, ?_⟩
    refine List.forall_mem_cons.mpr ⟨b_places_in X Gn c L tabs, ?_⟩
    refine List.forall_mem_cons.mpr ⟨b_asked_built X Gn c L tabs, ?_⟩
    refine List.forall_mem_cons.mpr ⟨b_made_row X Gn c L tabs, ?_⟩
    refine List.forall_mem_cons.mpr ⟨b_is_row X Gn c L tabs, ?_⟩
    refine List.forall_mem_cons.mpr ⟨b_built_length X Gn c L tabs, ?_⟩
    refine List.forall_mem_cons.mpr ⟨b_built X Gn c L tabs, ?_⟩
    refine List.forall_mem_cons.mpr ⟨b_first_places X Gn c L tabs, ?_⟩
    refine List.forall_mem_cons.mpr ⟨b__law_pool X Gn c L tabs, ?_⟩
    refine List.forall_mem_cons.mpr ⟨b__law_take X Gn c L tabs, ?_⟩
    refine List.forall_mem_cons.mpr ⟨b__law_one X Gn c L tabs, ?_⟩
    refine List.forall_mem_cons.mpr ⟨b__law_mixed X Gn c L tabs, ?_⟩
    refine List.forall_mem_cons.mpr ⟨b__law_some X Gn c L tabs, ?_⟩
    refine List.forall_mem_cons.mpr ⟨b__law_yw_is_whole X Gn c L tabs, ?_⟩
    refine List.forall_mem_cons.mpr ⟨b__law_yw_is_in X Gn c L tabs, ?_⟩
    refine List.forall_mem_cons.mpr ⟨b__law_yw_lot_fault X Gn c L tabs, ?_⟩
    refine List.forall_mem_cons.mpr ⟨b__law_yw_web_fault X Gn c L tabs, ?_⟩
    refine List.forall_mem_cons.mpr ⟨b__law_yw_path_fault X Gn c L tabs, ?_⟩
    refine List.forall_mem_cons.mpr ⟨b__law_yw_row_fault X Gn c L tabs, ?_⟩
    refine List.forall_mem_cons.mpr ⟨b__law_yw_readers X Gn c L tabs, ?_⟩
    refine List.forall_mem_cons.mpr ⟨b__law_yw_web X Gn c L tabs, ?_⟩
    refine List.forall_mem_cons.mpr ⟨b__law_yw_web_of X Gn c L tabs, ?_⟩
    refine List.forall_mem_cons.mpr ⟨b__law_yw_path X Gn c L tabs, ?_⟩
    refine List.forall_mem_cons.mpr ⟨b__law_yw_row X Gn c L tabs, ?_⟩
    refine List.forall_mem_cons.mpr ⟨b__law_yw_firsts X Gn c L tabs, ?_⟩
    refine List.forall_mem_cons.mpr ⟨b__law_yw_odd_web X Gn c L tabs, ?_⟩
    refine List.forall_mem_cons.mpr ⟨b__law_yw_odd_path X Gn c L tabs, ?_⟩
    refine List.forall_mem_cons.mpr ⟨b__law_yw_odd_row X Gn c L tabs, ?_⟩
    refine List.forall_mem_cons.mpr ⟨b__law_yw_arguments X Gn c L tabs, ?_⟩
    refine List.forall_mem_cons.mpr ⟨b__law_yq_is_whole X Gn c L tabs, ?_⟩
    refine List.forall_mem_cons.mpr ⟨b__law_yq_same X Gn c L tabs, ?_⟩
    refine List.forall_mem_cons.mpr ⟨b__law_n5_asked X Gn c L tabs, ?_⟩
    refine List.forall_mem_cons.mpr ⟨b__law_n5_right X Gn c L tabs, ?_⟩
    refine List.forall_mem_cons.mpr ⟨b__law_n5_form_right X Gn c L tabs, ?_⟩
    refine List.forall_mem_cons.mpr ⟨b__law_n5_refused_right X Gn c L tabs, ?_⟩
    refine List.forall_mem_cons.mpr ⟨b_law X Gn c L tabs, ?_⟩
    exact fun p hp => absurd hp List.not_mem_nil
  exact all (f, d) (mem_of_lookup hl)
theorem hfree (X : K.In h) (Gn : h.Ns mainGlobals mg) (c : He.SaysD fa fn K) : ∀ x ∈ bltNames, mg (Str.ofString x) = none := fun x hx => He.free_ok X Gn (c.facts (List.mem_append_right _ (List.mem_map.mpr ⟨x, hx, rfl⟩)))
theorem hcls (X : K.In h) (Gn : h.Ns mainGlobals mg) (c : He.SaysD fa fn K) : ∀ x ∈ al, mg (Str.ofString x) = some (.ref (He.ga K (Str.ofString x))) := by
  unfold al
  refine List.forall_mem_cons.mpr ⟨He.glo_ok X Gn (c.fact 1 (f := .glo (Str.ofString "TooMany")) rfl), ?_⟩
  refine List.forall_mem_cons.mpr ⟨He.glo_ok X Gn (c.fact 2 (f := .glo (Str.ofString "BadWeb")) rfl), ?_⟩
  refine List.forall_mem_cons.mpr ⟨He.glo_ok X Gn (c.fact 3 (f := .glo (Str.ofString "BadPath")) rfl), ?_⟩
  refine List.forall_mem_cons.mpr ⟨He.glo_ok X Gn (c.fact 4 (f := .glo (Str.ofString "BadRow")) rfl), ?_⟩
  exact fun p hp => absurd hp List.not_mem_nil
theorem hcon (X : K.In h) (Gn : h.Ns mainGlobals mg) (c : He.SaysD fa fn K) : ∀ x p, G.con.lookup x = some p → ∃ u v, mg (Str.ofString x) = some u ∧ RelV v u ∧ ∀ ρ H, RV K ρ H p v := fun x p hl => by
  have hm : (x, p) ∈ [(("MOST_CELLS" : String), (PV.int 60 : PV)), (("MOST_LONG" : String), (PV.int 200 : PV))] := mem_of_lookup hl
  revert hm
  have all : ∀ q ∈ [(("MOST_CELLS" : String), (PV.int 60 : PV)), (("MOST_LONG" : String), (PV.int 200 : PV))], ∃ u v, mg (Str.ofString q.1) = some u ∧ RelV v u ∧ ∀ ρ H, RV K ρ H q.2 v := by
    refine List.forall_mem_cons.mpr ⟨con_int (He.int_ok X Gn (c.fact 50 (f := .int (Str.ofString "MOST_CELLS") 60) rfl)), ?_⟩
    refine List.forall_mem_cons.mpr ⟨con_int (He.int_ok X Gn (c.fact 51 (f := .int (Str.ofString "MOST_LONG") 200) rfl)), ?_⟩
    exact fun p hp => absurd hp List.not_mem_nil
  exact fun hm => all (x, p) hm
theorem hx (X : K.In h) (Gn : h.Ns mainGlobals mg) (c : He.SaysD fa fn K) (L : LitP tf al K) : ∀ C : Cx, C.prog = P → C.w = w → C.K = K → C.mg = mg → C.base = base → ExAt G C := by
  obtain ⟨fd, F⟩ := c.def_ 0 (d := dI) rfl
  refine exAt_of (fd := fd) L (fun _ h => h) ?_ (F.bindsN fun _ _ _ _ _ _ us hl => match us, hl with | [_, _], _ => rfl) (hcls X Gn c)
  exact init_ok F ⟨rfl, rfl, rfl, by decide +kernel, rfl, by decide +kernel, by decide +kernel⟩ rfl rfl (hfree X Gn c "ValueError" (by decide)) (plainOf (.Name "ValueError" _)) (fun env => initCall env) (findCls_ve K)
theorem h__law_n5_heard (X : K.In h) (Gn : h.Ns mainGlobals mg) (c : He.SaysD fa fn K) (L : LitP tf al K) : HrdSh K mg ["call", "refused_one", "found", "name", "is_one"] (defScope (top 52)) "call" (defBody (top 52)) (.named al ["BadWeb", "BadRow", "BadPath", "TooMany"]) := ⟨"Refused", "refused_one", "found", "name", "is_one", He.ga K "Refused", 1, 2, 3, 4, _, _, _, _, _, _, _, _, _, _, _, _, _, _, _, _, _, _, _, _, _, _, _, _, _, _, _, _, _, _, [_, _, _, _], _, rfl, ⟨⟨_, _, _, _, _, _, _, _, _, _, _, _, rfl, rfl⟩, ⟨_, _, _, _, _, _, _, _, _, _, _, _, rfl, rfl⟩, ⟨_, _, _, _, _, _, _, _, _, _, _, _, rfl, rfl⟩, ⟨_, _, _, _, _, _, _, _, _, _, _, _, rfl, rfl⟩, trivial⟩, rfl, rfl, He.glo_ok X Gn (c.fact 0 (f := .glo (Str.ofString "Refused")) rfl), rfl, rfl, rfl, by decide +kernel, rfl, rfl, by decide +kernel, rfl, by decide +kernel, rfl, by decide +kernel, by decide, by decide, by decide +kernel, rfl, rfl, rfl, hfree X Gn c "isinstance" (by decide), clsAt_of L (by decide) (by decide +kernel) (hcls X Gn c) (by decide +kernel) (by decide +kernel) (by decide) (by decide)⟩
theorem hha (X : K.In h) (Gn : h.Ns mainGlobals mg) (c : He.SaysD fa fn K) (L : LitP tf al K) : HrdAt G K mg := fun g hr hl => by
  have hm : (g, hr) ∈ G.hrd := mem_of_lookup hl
  have e : (g, hr) = ("_law_n5_heard", .named al ["BadWeb", "BadRow", "BadPath", "TooMany"]) := List.mem_singleton.mp hm
  cases e
  obtain ⟨fd, F⟩ := c.def_ 40 (d := mkD "_law_n5_heard" (top 52)) rfl
  exact hrd_of F (He.glo_ok X Gn (c.fact 44 (f := .glo (Str.ofString "_law_n5_heard")) rfl)) ⟨rfl, rfl, rfl, by decide +kernel, rfl, by decide +kernel, by decide +kernel⟩ (fun _ _ _ _ _ _ us hl => match us, hl with | [_], _ => rfl) rfl (.inl rfl) (by decide +kernel) (by decide +kernel) (h__law_n5_heard X Gn c L)
theorem lawS {fA : Addr} (w : World) (X : K.In h) (Gn : h.Ns mainGlobals mg) (hmg : mg (Str.ofString "law") = some (.ref fA)) (c : He.SaysX fa fn [] tf lits w h K) : LamX.LawAtS PySem.Challenge.rw_nosurer_k05_rows_and_what_they_build w K (L2N.CX PySem.Challenge.rw_nosurer_k05_rows_and_what_they_build.prog w) (lv 10) 63 (Str.ofString "script") mg fA h := by
  have d := c.t.d
  have L := litsOf_ok c.more
  obtain ⟨fd, F⟩ := d.def_ 45 (d := mkD "law" (top 57)) rfl
  have e := hmg.symm.trans (He.glo_ok X Gn (d.fact 49 (f := .glo (Str.ofString "law")) rfl))
  cases e
  exact lawAt 10 (G := G) (d := k5Law) rfl rfl hmg X c.hd c.out c.empty F (fun _ _ _ _ _ _ us hl => match us, hl with | [_], _ => rfl)
    (fun base Xb Gb tabs => @fnAt (tbOf K tf) _ w K mg base G hds (hB Xb Gb d L tabs) (hfree Xb Gb d) (hcon Xb Gb d) (hx Xb Gb d L) (@hha K mg base Xb Gb d L) (fun n N => @heardOk (tbOf K tf) G n N) 10) fun ns hl _ => ev ns hl
end
end Hd
open PySem PySem.W PySem.Calls PyProof.Rows
theorem PySem.Challenge.cw_nosurer_k05_rows_and_what_they_build_holds : PySem.Challenge.rw_nosurer_k05_rows_and_what_they_build.Holds := by
  w_on; o_law
  refine HandSHeadRun.head_any (r := OpenLaw.row PySem.Challenge.rw_nosurer_k05_rows_and_what_they_build) (q := view (OpenLaw.row PySem.Challenge.rw_nosurer_k05_rows_and_what_they_build).prog [57]) (H := Hd.hk) (ob := Hd.ob) (M := 4000) (loose := Hd.loose) (d := HandSHeadRun.topDef (OpenLaw.row PySem.Challenge.rw_nosurer_k05_rows_and_what_they_build).prog 57) (kwd := []) Hd.ob_eq
    (by kernel_rfl) (fun s => by kernel_rfl) Hd.run (by kernel_rfl) (by kernel_rfl) (by kernel_rfl) (by rfl) (by first | assumption | decide +kernel) (by decide +kernel) ⟨rfl, rfl, rfl, rfl, rfl, by decide +kernel⟩ ?hw ?hc
  case hw => w_witness2
  case hc =>
    refine LamX.walk_ofTsE (l := PySem.Challenge.rw_nosurer_k05_rows_and_what_they_build) (n := 63) (k := Ev.lv 10) (x := "script") (CX := fun w => L2N.CX (PySem.Challenge.rw_nosurer_k05_rows_and_what_they_build).prog w) rfl (by decide) (by kernel_rfl) ⟨rfl, by decide, by decide⟩ ?F (fun w H s e s' z => by
      obtain ⟨_, _, _, _, _, _, _, _, _, _, _, _, hE⟩ := z
      exact hE)
    intro w mg fA h Y Gn hmg0
    obtain ⟨K, KX, c⟩ := Y
    have hmg : mg ("law" : PySem.Str) = some (.ref fA) := by
      have e : (HandSHeadRun.topDef (OpenLaw.row PySem.Challenge.rw_nosurer_k05_rows_and_what_they_build).prog 57).name = ("law" : PySem.Str) := by kernel_rfl
      rw [← e]
      exact hmg0
    exact ⟨K, KX, Hd.lawS w KX Gn hmg c⟩

