import PyProof.Rows.All
import PyProof.Calls
import PyProof.EvalArms
import PyProof.Boot
import PyProof.FactsAll.list
import PyProof.TupleIter
import PyProof.AutoIntOps
import PyProof.AutoSeq1
import PyProof.Rules3
import PyProof.ListIndex
import PyProof.SliceList
import PyProof.Cells
import PyProof.PlainList
import PyProof.ConsumeWalk
import PyProof.CompFree
import PyProof.PureInt
import PyProof.Conv_int_bool
import PyProof.DefCall
import PyProof.MeetsSeq
import PyProof.DictRoads
import PyProof.DictStraight
import PyProof.Rows.RowHeap
import PyProof.IsRules
import PyProof.IsiBase
import PyProof.ExcClass2
import PyProof.ExcArgsOwn
import PyProof.ExcBaseAll.ValueError
import PyProof.ExcAttrAll.ValueError
import PyProof.RaisesMany
import PyProof.StrBlock
import PyProof.RangeIter
import PyProof.WalksMore
import PyProof.RangeFor
import PyProof.IsiHeapPairs
import PyProof.IsiNone
import PyProof.IsiPairs
import PyProof.LetGo
import PyProof.ListCopy
import PyProof.ListIndexNeg
import PyProof.ListMulRoad
import PyProof.ListRange
import PyProof.ListTruth
import PyProof.WalkInts
import PyProof.RulesAs
import PyProof.P3In
import PyProof.Rows.News
import PyProof.Rows.Tup
import PyProof.Rows.TupSub
import PyProof.Rows.Lst
import PyProof.Truth
import PyProof.Rows.CatchOwn
import PyProof.Rows.SeqSlice
import PyProof.Rows.RuleN_isinstance
import PyProof.Rows.TupMore
import PyProof.SliceMore
import PyProof.Rows.Walk
import PyProof.Rows.BootFacts.P1
import PyProof.Rows.BootFacts.P2
import PyProof.Rows.BootFacts.P3
import PyProof.Rows.BootFacts.P4
import PyProof.Rows.BootFacts.P5
import PyProof.Rows.EqDataRows
import PyProof.RulesAssignMore
import PyProof.Rows.SeqMore
import PyProof.TupleOfSeq
import OpenK.KCall
import OpenK.KMake
import Open.Row
import Open.Line
import OpenK.KWalk
import OpenK.KCell
import KE.LcSums
import Wide.FinOn
import Wide.All
import PySem.Challenge.RW_uf020010_03
set_option Elab.async false

/-! ## GCore -/
namespace BP
open PySem

/-! ## values, objects, stores -/
inductive Val where
  | none | bool (b : Bool) | int (i : Int) | str (s : Str) | ref (a : Nat)
  deriving DecidableEq

inductive Ob where
  | list (xs : List Val)
  | tup (xs : List Val)
  | exc (c : String)
  | range (lo hi : Int)
  | inst (cls : String) (dx : Nat)
  | attrs (fs : List (String × Val))
  | ro (xs : List Val)

/-- a list that is only read -/
noncomputable def Ob.isRo : Ob → Bool
  | .ro _ => true
  | _ => false

abbrev Sto := Nat → Option Ob
noncomputable def Sto.set (σ : Sto) (a : Nat) (o : Ob) : Sto := fun x => if x = a then some o else σ x
abbrev Loc := String → Option Val
noncomputable def upd (ρ : Loc) (x : String) (v : Val) : Loc := fun y => if y = x then some v else ρ y
noncomputable def unb (ρ : Loc) (x : String) : Loc := fun y => if y = x then none else ρ y

inductive Dat where
  | none | bool (b : Bool) | int (i : Int) | str (s : Str) | list (ds : List Dat) | tup (ds : List Dat)

mutual
noncomputable def Has (σ : Sto) : Dat → Val → Prop
  | .none, v => v = .none
  | .bool b, v => v = .bool b
  | .int i, v => v = .int i
  | .str s, v => v = .str s
  | .list ds, v => ∃ a xs, v = .ref a ∧ σ a = some (.list xs) ∧ HasL σ ds xs
  | .tup ds, v => ∃ a xs, v = .ref a ∧ σ a = some (.tup xs) ∧ HasL σ ds xs
noncomputable def HasL (σ : Sto) : List Dat → List Val → Prop
  | [], xs => xs = []
  | d :: ds, xs => ∃ y ys, xs = y :: ys ∧ Has σ d y ∧ HasL σ ds ys
end

mutual
noncomputable def pyEq : Dat → Dat → Bool
  | .none, .none => true
  | .bool a, .bool b => a == b
  | .int a, .int b => a == b
  | .bool a, .int b => (if a then 1 else 0) == b
  | .int a, .bool b => a == (if b then 1 else 0)
  | .str a, .str b => a == b
  | .list a, .list b => pyEqL a b
  | .tup a, .tup b => pyEqL a b
  | _, _ => false
noncomputable def pyEqL : List Dat → List Dat → Bool
  | [], [] => true
  | a :: as, b :: bs => pyEq a b && pyEqL as bs
  | _, _ => false
end

/-- what may be compared: not too deep -/
noncomputable def dOk : Nat → Dat → Bool
  | _, .none => true
  | _, .bool _ => true
  | _, .int _ => true
  | _, .str _ => true
  | 0, _ => false
  | n + 1, .list ds => ds.all (dOk n)
  | n + 1, .tup ds => ds.all (dOk n)


noncomputable def strOk (s : Str) : Bool := s.cps.toList.all fun x => decide (x < 0x110000)

/-! ## the small language -/
set_option genSizeOf false in
set_option genInjectivity false in
inductive BI where
  | len | all | list | tuple | range | max | int
set_option genSizeOf false in
set_option genInjectivity false in
inductive ME where
  | append
set_option genSizeOf false in
set_option genInjectivity false in
inductive Ty where
  | list | int | bool | valueError | own (c : String)
set_option genSizeOf false in
set_option genInjectivity false in
inductive OpB where
  | add | sub | mul | fdiv | mod
set_option genSizeOf false in
set_option genInjectivity false in
inductive OpC where
  | eq | ne | lt | le | gt | ge | isNot

set_option genSizeOf false in
set_option genInjectivity false in
inductive Ex where
  | none_ | bool_ (b : Bool) | int_ (i : Int) | str_ (s : String)
  | var (x : String)
  | glob (x : String)
  | bin (op : OpB) (l r : Ex)
  | not_ (e : Ex)
  | neg (e : Ex)
  | ite (c t e : Ex)
  | and_ (es : List Ex)
  | or_ (es : List Ex)
  | cmp (l : Ex) (ops : List OpC) (rs : List Ex)
  | list (es : List Ex)
  | tup (es : List Ex)
  | call (f : String) (as : List Ex)
  | bcall (f : BI) (as : List Ex)
  | isi (e : Ex) (t : Ty)
  | meth (o : Ex) (m : ME) (as : List Ex)
  | sub (o i : Ex)
  | slice (o lo hi st : Ex)
  | attr (o : Ex) (a : String)
  | comp (elt : Ex) (xs : List String) (it : Ex) (ifs : List Ex)

set_option genSizeOf false in
set_option genInjectivity false in
inductive St where
  | assign (x : String) (e : Ex)
  | assignT (xs : List String) (y : String)
  | assignAttr (o : Ex) (a : String) (e : Ex)
  | expr (e : Ex)
  | ret (e : Ex)
  | if_ (c : Ex) (t e : List St)
  | for_ (xs : List String) (it : Ex) (body : List St)
  | raise (cls msg : String)
  | try_ (body : List St) (cls x : String) (h : List St)

inductive Fl where
  | next | ret (v : Val)

/-! ## what the operations do -/
abbrev KV := Val → Sto → Prop
abbrev KE := String → Sto → Prop

noncomputable def lim : Nat := 1000000

noncomputable def truthyW (σ : Sto) (v : Val) (K : Bool → Prop) : Prop :=
  match v with
  | .none => K false
  | .bool b => K b
  | .int i => K (decide (i ≠ 0))
  | .str s => s.cps.size ≤ lim ∧ K (decide (s.cps.size ≠ 0))
  | .ref a => match σ a with
    | some (.list xs) => K (!xs.isEmpty)
    | some (.tup xs) => K (!xs.isEmpty)
    | _ => False

noncomputable def newW (σ : Sto) (o : Ob) (Q : KV) : Prop := ∀ a, σ a = none → Q (.ref a) (σ.set a o)

noncomputable def int2 (a b : Val) (K : Int → Int → Prop) : Prop := match a with
  | .int i => match b with | .int j => K i j | _ => False
  | _ => False
noncomputable def ref1 (vs : List Val) (K : Nat → Prop) : Prop := match vs with
  | [] => False
  | v :: r => match r with | [] => (match v with | .ref a => K a | _ => False) | _ => False
noncomputable def onL (o : Option Ob) (K : List Val → Prop) : Prop := match o with
  | some (.list xs) => K xs
  | _ => False

theorem int2_inv {a b : Val} {K : Int → Int → Prop} (h : int2 a b K) : ∃ i j, a = .int i ∧ b = .int j ∧ K i j := by
  cases a with
  | int i => cases b with
    | int j => exact ⟨i, j, rfl, rfl, h⟩
    | none => exact h.elim
    | bool _ => exact h.elim
    | str _ => exact h.elim
    | ref _ => exact h.elim
  | none => exact h.elim
  | bool _ => exact h.elim
  | str _ => exact h.elim
  | ref _ => exact h.elim
theorem ref1_inv {vs : List Val} {K : Nat → Prop} (h : ref1 vs K) : ∃ a, vs = [.ref a] ∧ K a := by
  cases vs with
  | nil => exact h.elim
  | cons v r => cases r with
    | cons _ _ => exact h.elim
    | nil => cases v with
      | ref a => exact ⟨a, rfl, h⟩
      | none => exact h.elim
      | bool _ => exact h.elim
      | int _ => exact h.elim
      | str _ => exact h.elim
theorem onL_inv {o : Option Ob} {K : List Val → Prop} (h : onL o K) : ∃ xs, o = some (.list xs) ∧ K xs := by
  cases o with
  | none => exact h.elim
  | some o => cases o <;> first | exact h.elim | exact ⟨_, rfl, h⟩
@[simp] theorem onL_list (xs : List Val) (K : List Val → Prop) : onL (some (.list xs)) K = K xs := rfl
@[simp] theorem ref1_ref (a : Nat) (K : Nat → Prop) : ref1 [.ref a] K = K a := rfl
@[simp] theorem int2_int (i j : Int) (K : Int → Int → Prop) : int2 (.int i) (.int j) K = K i j := rfl

noncomputable def binW (op : OpB) (a b : Val) (σ : Sto) (Q : KV) : Prop :=
  match op with
  | .add => match a with
    | .int i => match b with | .int j => Q (.int (i + j)) σ | _ => False
    | .str x => match b with | .str y => x.length + y.length ≤ lim ∧ Q (.str (x ++ y)) σ | _ => False
    | .ref x => match b with
      | .ref y => onL (σ x) fun xs => onL (σ y) fun ys => xs.length + ys.length ≤ lim ∧ newW σ (.list (xs ++ ys)) Q
      | _ => False
    | _ => False
  | .sub => int2 a b fun i j => Q (.int (i - j)) σ
  | .mul => match a with
    | .str x => match b with | .int n => 0 ≤ n ∧ n ≤ 1 ∧ x.length ≤ lim ∧ Q (.str (if n < 1 then Str.empty else x)) σ | _ => False
    | .ref x => match b with
      | .int n => onL (σ x) fun xs => xs.length ≤ 1000 ∧ 0 ≤ n ∧ n ≤ 6 ∧ newW σ (.list (List.replicate n.toNat xs).flatten) Q
      | _ => False
    | a => int2 a b fun i j => ((-lim ≤ i ∧ i ≤ lim) ∨ (-lim ≤ j ∧ j ≤ lim)) ∧ Q (.int (i * j)) σ
  | .fdiv => int2 a b fun i j => 0 < j ∧ j ≤ lim ∧ Q (.int (i / j)) σ
  | .mod => int2 a b fun i j => 0 < j ∧ j ≤ lim ∧ Q (.int (i % j)) σ

/-- whether two values are one thing, where one of them is None, True or False -/
noncomputable def isW (v w : Val) (K : Bool → Prop) : Prop :=
  match v, w with
  | v, .none => K (decide (v = .none))
  | v, .bool b => K (decide (v = .bool b))
  | _, _ => False

noncomputable def cmpW (op : OpC) (v w : Val) (σ : Sto) (Q : Bool → Prop) : Prop :=
  match op with
  | .eq => ∃ d e, Has σ d v ∧ Has σ e w ∧ dOk 9 d = true ∧ dOk 9 e = true ∧ Q (pyEq d e)
  | .ne => ∃ d e, Has σ d v ∧ Has σ e w ∧ dOk 9 d = true ∧ dOk 9 e = true ∧ Q (!pyEq d e)
  | .lt => int2 v w fun i j => Q (decide (i < j))
  | .le => int2 v w fun i j => Q (decide (i ≤ j))
  | .gt => int2 v w fun i j => Q (decide (i > j))
  | .ge => int2 v w fun i j => Q (decide (i ≥ j))
  | .isNot => isW v w fun b => Q (!b)

noncomputable def getIdx {α : Type} (xs : List α) (k : Int) : Option α :=
  if 0 ≤ k then xs[k.toNat]? else if -(xs.length : Int) ≤ k then xs[(xs.length + k).toNat]? else none

noncomputable def subW (v i : Val) (σ : Sto) (Q : KV) : Prop :=
  match v, i with
  | .ref a, i => match σ a with
    | some (.list xs) => match i with | .int k => match getIdx xs k with | some x => Q x σ | none => False
                                      | _ => False
    | some (.tup xs) => match i with | .int k => match getIdx xs k with | some x => Q x σ | none => False
                                     | _ => False
    | _ => False
  | _, _ => False

/-- a slice's bound, as it falls on a length -/
noncomputable def bnd (n : Nat) (dflt : Nat) : Val → Option Nat
  | .none => some dflt
  | .int i => some (max 0 (min (if i < 0 then i + n else i) n)).toNat
  | _ => none

noncomputable def cut {α : Type} (xs : List α) (i j : Nat) : List α := (xs.drop i).take (j - i)

noncomputable def sliced {α : Type} (xs : List α) (lo hi st : Val) : Option (List α) :=
  match st with
  | .none => match bnd xs.length 0 lo, bnd xs.length xs.length hi with
    | some i, some j => some (cut xs i j)
    | _, _ => none
  | _ => none

/-- a list that may be read -/
noncomputable def listOr (σ : Sto) (a : Nat) : Option (List Val) :=
  match σ a with
  | some (.list xs) => some xs
  | some (.ro xs) => some xs
  | _ => none

noncomputable def sliceW (v lo hi st : Val) (σ : Sto) (Q : KV) : Prop :=
  match v with
  | .ref a => match listOr σ a with
    | some xs => match sliced xs lo hi st with | some ys => newW σ (.list ys) Q | none => False
    | _ => False
  | _ => False

noncomputable def attrNames : List String := ["looks", "deeds", "wished"]
noncomputable def attrW (v : Val) (x : String) (σ : Sto) (Q : KV) : Prop :=
  x ∈ attrNames ∧ match v with
  | .ref a => match σ a with
    | some (.inst _ dx) => match σ dx with
      | some (.attrs fs) => match fs.lookup x with | some y => Q y σ | none => False
      | _ => False
    | _ => False
  | _ => False


/-- the classes of our own exceptions -/
noncomputable def excSub (c d : String) : Bool := c == d || d == "HouseError" || d == "ValueError"

/-- isinstance of a type's name -/
noncomputable def Ty.isB : Ty → Bool | .bool => true | .int => true | _ => false
noncomputable def Ty.isI : Ty → Bool | .int => true | _ => false
noncomputable def Ty.isL : Ty → Bool | .list => true | _ => false
noncomputable def Ty.plain : Ty → Bool | .valueError => false | .own _ => false | _ => true
noncomputable def isiW (v : Val) (t : Ty) (σ : Sto) (K : Bool → Prop) : Prop :=
  t.plain = true ∧ match v with
  | .none => K false
  | .bool _ => K t.isB
  | .int _ => K t.isI
  | .str _ => K false
  | .ref a => match σ a with
    | some (.list _) => K t.isL
    | some (.tup _) => K false
    | _ => False

/-- what is met, turn by turn, by a loop over v with k targets -/
noncomputable def irange (lo hi : Int) : List Int := (List.range (hi - lo).toNat).map fun i : Nat => lo + (i : Int)

noncomputable def turnsOf (σ : Sto) (v : Val) (k : Nat) : Option (List (List Val)) :=
  match v with
  | .ref a => match σ a, k with
    | some (.list xs), 1 => some (xs.map fun x => [x])
    | some (.tup xs), 1 => some (xs.map fun x => [x])
    | some (.range lo hi), 1 => some ((irange lo hi).map fun i => [.int i])
    | _, _ => none
  | _ => none

/-- what is looped over is as it was -/
noncomputable def stay (σ₁ : Sto) (v : Val) (k : Nat) (turns : List (List Val)) (σ' : Sto) : Prop := (∀ a, v = .ref a → σ' a = σ₁ a) ∧ turnsOf σ' v k = some turns

noncomputable def bindT (xs : List String) (vs : List Val) (ρ : Loc) : Loc :=
  match xs, vs with
  | x :: xs, v :: vs => bindT xs vs (upd ρ x v)
  | _, _ => ρ

noncomputable def wpFor (B : Loc → Sto → (Fl → Loc → Sto → Prop) → Prop) (it : Sto → Prop) (xs : List String) :
    List (List Val) → Loc → Sto → (Fl → Loc → Sto → Prop) → Prop
  | [], ρ, σ, Q => it σ ∧ Q .next ρ σ
  | vs :: r, ρ, σ, Q => it σ ∧ B (bindT xs vs ρ) σ fun fl ρ' σ' => match fl with
    | .next => wpFor B it xs r ρ' σ' Q
    | .ret v => Q (.ret v) ρ' σ'

noncomputable def wpComp (C : Loc → Sto → (Bool → Sto → Prop) → Prop) (B : Loc → Sto → KV → Prop) (it : Sto → Prop) (xs : List String) :
    List (List Val) → List Val → Loc → Sto → (List Val → Sto → Prop) → Prop
  | [], acc, _, σ, K => it σ ∧ K acc σ
  | vs :: r, acc, ρ, σ, K => it σ ∧ C (bindT xs vs ρ) σ fun b σ₁ =>
    if b = true then B (bindT xs vs ρ) σ₁ fun y σ₂ => wpComp C B it xs r (acc ++ [y]) ρ σ₂ K
    else wpComp C B it xs r acc ρ σ₁ K

noncomputable def bcallW (f : BI) (vs : List Val) (σ : Sto) (Q : KV) : Prop :=
  match f with
  | .len => ref1 vs fun a => match σ a with
    | some (.list xs) => Q (.int xs.length) σ
    | some (.tup xs) => Q (.int xs.length) σ
    | _ => False
  | .all => ref1 vs fun a => onL (σ a) fun xs => ∃ bs : List Bool, xs = bs.map .bool ∧ Q (.bool (bs.all id)) σ
  | .list => ref1 vs fun a => match σ a with
    | some (.list xs) => newW σ (.list xs) Q
    | some (.range lo hi) => newW σ (.list ((irange lo hi).map .int)) Q
    | _ => False
  | .range => match vs with
    | v :: r => match r with | [] => (match v with | .int n => -lim ≤ n ∧ n ≤ lim ∧ newW σ (.range 0 n) Q | _ => False) | _ => False
    | _ => False
  | .max => match vs with
    | v :: r => match r with | w :: r => (match r with | [] => int2 v w fun a b => Q (.int (max a b)) σ | _ => False) | _ => False
    | _ => False
  | .tuple => ref1 vs fun a => onL (σ a) fun xs => newW σ (.tup xs) Q
  | .int => match vs with
    | v :: r => match r with | [] => (match v with | .bool b => Q (.int (if b then 1 else 0)) σ | _ => False) | _ => False
    | _ => False

noncomputable def methW (m : ME) (o : Val) (vs : List Val) (σ : Sto) (Q : KV) : Prop :=
  match o with
  | .ref a => onL (σ a) fun xs => match m with
    | .append => match vs with
      | x :: r => match r with | [] => xs.length < lim ∧ Q .none (σ.set a (.list (xs ++ [x]))) | _ => False
      | _ => False
  | _ => False

/-- the method is one of the value's -/
noncomputable def methOn (v : Val) (σ : Sto) : Prop := ∃ a xs, v = .ref a ∧ σ a = some (.list xs)

noncomputable def setAttrW (v : Val) (n : String) (x : Val) (σ : Sto) (K : Sto → Prop) : Prop :=
  n ∈ attrNames ∧ match v with
  | .ref a => match σ a with
    | some (.inst _ dx) => match σ dx with
      | some (.attrs fs) => (fs.lookup n = none) ∧ fs.length < 100 ∧ K (σ.set dx (.attrs (fs ++ [(n, x)])))
      | _ => False
    | _ => False
  | _ => False

/-! ## weakest preconditions -/
/-- how calls of the text's own are met: within a handler or not, the name, the arguments -/
structure Glo where
  gv : String → Option Val
  cf : String → Bool
  ex : String → Bool

/-- isinstance of an exception -/
noncomputable def isxW (v : Val) (σ : Sto) (f : String → Bool) (K : Bool → Prop) : Prop :=
  match v with
  | .ref a => match σ a with
    | some (.exc c) => K (f c)
    | _ => False
  | _ => False
noncomputable def isiAny (gv : Glo) (v : Val) (t : Ty) (σ : Sto) (K : Bool → Prop) : Prop :=
  match t with
  | .own d => gv.ex d = true ∧ isxW v σ (fun c => excSub c d) K
  | .valueError => isxW v σ (fun _ => true) K
  | t => isiW v t σ K

abbrev CallW := Bool → String → List Val → Sto → KV → KE → Prop

mutual
noncomputable def wpE (F : CallW) (gv : Glo) (hd : Bool) : Ex → Loc → Sto → KV → KE → Prop
  | .none_, _, σ, Q, _ => Q .none σ
  | .bool_ b, _, σ, Q, _ => Q (.bool b) σ
  | .int_ i, _, σ, Q, _ => Q (.int i) σ
  | .str_ s, _, σ, Q, _ => Q (.str (Str.ofString s)) σ
  | .var x, ρ, σ, Q, _ => match ρ x with | some v => Q v σ | none => False
  | .glob x, _, σ, Q, _ => match gv.gv x with | some v => Q v σ | none => False
  | .bin op l r, ρ, σ, Q, E => wpE F gv hd l ρ σ (fun a σ₁ => wpE F gv hd r ρ σ₁ (fun b σ₂ => binW op a b σ₂ Q) E) E
  | .not_ e, ρ, σ, Q, E => wpE F gv hd e ρ σ (fun v σ₁ => truthyW σ₁ v fun b => Q (.bool (!b)) σ₁) E
  | .neg e, ρ, σ, Q, E => wpE F gv hd e ρ σ (fun v σ₁ => match v with | .int i => Q (.int (-i)) σ₁ | _ => False) E
  | .ite c t e, ρ, σ, Q, E => wpE F gv hd c ρ σ (fun v σ₁ => truthyW σ₁ v fun b => if b = true then wpE F gv hd t ρ σ₁ Q E else wpE F gv hd e ρ σ₁ Q E) E
  | .and_ es, ρ, σ, Q, E => wpAnd F gv hd es ρ σ Q E
  | .or_ es, ρ, σ, Q, E => wpOr F gv hd es ρ σ Q E
  | .cmp l ops rs, ρ, σ, Q, E => wpE F gv hd l ρ σ (fun v σ₁ => wpCmp F gv hd v ops rs ρ σ₁ Q E) E
  | .list es, ρ, σ, Q, E => wpEs F gv hd es ρ σ (fun vs σ₁ => vs.length ≤ lim ∧ newW σ₁ (.list vs) Q) E
  | .tup es, ρ, σ, Q, E => wpEs F gv hd es ρ σ (fun vs σ₁ => vs.length ≤ lim ∧ newW σ₁ (.tup vs) Q) E
  | .call f as, ρ, σ, Q, E => gv.cf f = true ∧ wpEs F gv hd as ρ σ (fun vs σ₁ => F hd f vs σ₁ Q E) E
  | .bcall f as, ρ, σ, Q, E => (hd = false ∨ f = .int) ∧ wpEs F gv hd as ρ σ (fun vs σ₁ => bcallW f vs σ₁ Q) E
  | .isi e t, ρ, σ, Q, E => wpE F gv hd e ρ σ (fun v σ₁ => isiAny gv v t σ₁ fun b => Q (.bool b) σ₁) E
  | .meth o m as, ρ, σ, Q, E => wpE F gv hd o ρ σ (fun v σ₁ => methOn v σ₁ ∧ wpEs F gv hd as ρ σ₁ (fun vs σ₂ => methW m v vs σ₂ Q) E) E
  | .sub o i, ρ, σ, Q, E => wpE F gv hd o ρ σ (fun v σ₁ => wpE F gv hd i ρ σ₁ (fun k σ₂ => subW v k σ₂ Q) E) E
  | .slice o lo hi st, ρ, σ, Q, E => wpE F gv hd o ρ σ (fun v σ₁ => wpE F gv hd lo ρ σ₁ (fun l σ₂ => wpE F gv hd hi ρ σ₂ (fun u σ₃ =>
      wpE F gv hd st ρ σ₃ (fun s σ₄ => sliceW v l u s σ₄ Q) E) E) E) E
  | .attr o a, ρ, σ, Q, E => wpE F gv hd o ρ σ (fun v σ₁ => attrW v a σ₁ Q) E
  | .comp elt xs it ifs, ρ, σ, Q, E => hd = false ∧ wpE F gv hd it ρ σ (fun v σ₁ => ∃ turns, turnsOf σ₁ v xs.length = some turns ∧ turns.length ≤ lim ∧
      wpComp (fun ρ' σ' K => wpIfs F gv hd ifs ρ' σ' K (fun _ _ => False)) (fun ρ' σ' K => wpE F gv hd elt ρ' σ' K (fun _ _ => False)) (stay σ₁ v xs.length turns) xs turns [] ρ σ₁
        (fun ys σ' => newW σ' (.list ys) Q)) (fun _ _ => False)
noncomputable def wpEs (F : CallW) (gv : Glo) (hd : Bool) : List Ex → Loc → Sto → (List Val → Sto → Prop) → KE → Prop
  | [], _, σ, Q, _ => Q [] σ
  | e :: es, ρ, σ, Q, E => wpE F gv hd e ρ σ (fun v σ₁ => wpEs F gv hd es ρ σ₁ (fun vs σ₂ => Q (v :: vs) σ₂) E) E
noncomputable def wpAnd (F : CallW) (gv : Glo) (hd : Bool) : List Ex → Loc → Sto → KV → KE → Prop
  | [], _, _, _, _ => False
  | [e], ρ, σ, Q, E => wpE F gv hd e ρ σ Q E
  | e :: e' :: es, ρ, σ, Q, E => wpE F gv hd e ρ σ (fun v σ₁ => truthyW σ₁ v fun b => if b = true then wpAnd F gv hd (e' :: es) ρ σ₁ Q E else Q v σ₁) E
noncomputable def wpOr (F : CallW) (gv : Glo) (hd : Bool) : List Ex → Loc → Sto → KV → KE → Prop
  | [], _, _, _, _ => False
  | [e], ρ, σ, Q, E => wpE F gv hd e ρ σ Q E
  | e :: e' :: es, ρ, σ, Q, E => wpE F gv hd e ρ σ (fun v σ₁ => truthyW σ₁ v fun b => if b = true then Q v σ₁ else wpOr F gv hd (e' :: es) ρ σ₁ Q E) E
noncomputable def wpCmp (F : CallW) (gv : Glo) (hd : Bool) (v : Val) : List OpC → List Ex → Loc → Sto → KV → KE → Prop
  | [op], [r], ρ, σ, Q, E => wpE F gv hd r ρ σ (fun w σ₁ => cmpW op v w σ₁ fun b => Q (.bool b) σ₁) E
  | op :: ops, r :: rs, ρ, σ, Q, E => wpE F gv hd r ρ σ (fun w σ₁ => cmpW op v w σ₁ fun b => if b = true then wpCmp F gv hd w ops rs ρ σ₁ Q E else Q (.bool b) σ₁) E
  | _, _, _, _, _, _ => False
noncomputable def wpIfs (F : CallW) (gv : Glo) (hd : Bool) : List Ex → Loc → Sto → (Bool → Sto → Prop) → KE → Prop
  | [], _, σ, K, _ => K true σ
  | e :: es, ρ, σ, K, E => wpE F gv hd e ρ σ (fun v σ₁ => truthyW σ₁ v fun b => if b = true then wpIfs F gv hd es ρ σ₁ K E else K false σ₁) E
end

abbrev KS := Fl → Loc → Sto → Prop
abbrev KX := String → Loc → Sto → Prop

mutual
noncomputable def wpS (F : CallW) (gv : Glo) (hd : Bool) : St → Loc → Sto → KS → KX → Prop
  | .assign x e, ρ, σ, Q, E => wpE F gv hd e ρ σ (fun v σ₁ => Q .next (upd ρ x v) σ₁) (fun c σ₁ => E c ρ σ₁)
  | .assignT xs y, ρ, σ, Q, _ => hd = false ∧ ∃ a vs, ρ y = some (.ref a) ∧ σ a = some (.tup vs) ∧ vs.length = xs.length ∧ Q .next (bindT xs vs ρ) σ
  | .assignAttr o a e, ρ, σ, Q, E => wpE F gv hd e ρ σ (fun x σ₁ => wpE F gv hd o ρ σ₁ (fun v σ₂ => setAttrW v a x σ₂ fun σ₃ => Q .next ρ σ₃)
      (fun c σ' => E c ρ σ')) (fun c σ' => E c ρ σ')
  | .expr e, ρ, σ, Q, E => wpE F gv hd e ρ σ (fun _ σ₁ => Q .next ρ σ₁) (fun c σ' => E c ρ σ')
  | .ret e, ρ, σ, Q, E => wpE F gv hd e ρ σ (fun v σ₁ => Q (.ret v) ρ σ₁) (fun c σ' => E c ρ σ')
  | .if_ c t e, ρ, σ, Q, E => wpE F gv hd c ρ σ (fun v σ₁ => truthyW σ₁ v fun b => if b = true then wpSs F gv hd t ρ σ₁ Q E else wpSs F gv hd e ρ σ₁ Q E) (fun c σ' => E c ρ σ')
  | .for_ xs it body, ρ, σ, Q, E => hd = false ∧ wpE F gv hd it ρ σ (fun v σ₁ => ∃ turns, turnsOf σ₁ v xs.length = some turns ∧
      wpFor (fun ρ' σ' K => wpSs F gv hd body ρ' σ' K (fun _ _ _ => False)) (stay σ₁ v xs.length turns) xs turns ρ σ₁ Q) (fun c σ' => E c ρ σ')
  | .raise cls _, ρ, σ, _, E => hd = false ∧ gv.ex cls = true ∧ E cls ρ σ
  | .try_ body cls x h, ρ, σ, Q, _ => hd = false ∧ gv.ex cls = true ∧ wpSs F gv hd body ρ σ Q (fun c ρ' σ' => excSub c cls = true ∧ ∀ a, σ' a = none →
      wpSs F gv true h (upd ρ' x (.ref a)) (σ'.set a (.exc c)) (fun fl _ σ'' => Q fl (fun _ => none) σ'') (fun _ _ _ => False))
noncomputable def wpSs (F : CallW) (gv : Glo) (hd : Bool) : List St → Loc → Sto → KS → KX → Prop
  | [], ρ, σ, Q, _ => Q .next ρ σ
  | s :: r, ρ, σ, Q, E => wpS F gv hd s ρ σ (fun fl ρ' σ' => match fl with
      | .next => wpSs F gv hd r ρ' σ' Q E
      | .ret v => Q (.ret v) ρ' σ') E
end
end BP

/-! ## GMatch -/
namespace BP
open PySem

abbrev Nms := List (Str × NameKind)
noncomputable def isVar (nm : Nms) (x : String) : Bool :=
  x != ".0" && Str.ofString x != ("__debug__" : Str) && (nm.lookup (Str.ofString x) == some .local || nm.lookup (Str.ofString x) == some .cell)
noncomputable def isGlob (nm : Nms) (x : Str) : Bool := x != ("__debug__" : Str) && nm.lookup x == some .globalImplicit

noncomputable def OpB.py : OpB → Operator
  | .add => .Add | .sub => .Sub | .mul => .Mult | .fdiv => .FloorDiv | .mod => .Mod
noncomputable def OpC.py : OpC → CmpOp
  | .eq => .Eq | .ne => .NotEq | .lt => .Lt | .le => .LtE | .gt => .Gt | .ge => .GtE | .isNot => .IsNot
noncomputable def BI.py : BI → String
  | .len => "len" | .all => "all" | .list => "list" | .tuple => "tuple" | .range => "range" | .max => "max" | .int => "int"
noncomputable def ME.py : ME → String
  | .append => "append"
noncomputable def Ty.py : Ty → String
  | .list => "list" | .int => "int" | .bool => "bool" | .valueError => "ValueError" | .own c => c

noncomputable def relab (nm : Nms) : Nms := nm.map fun x => (x.1, if x.2 == .free then .cell else x.2)
noncomputable def plainBase : PySem.Expr → Bool
  | .Call (.Name ..) [] [] _ => false
  | _ => true

/-- a comprehension's table of names, under the table around it -/
noncomputable def compOk (nm : Nms) (sc : Scope) (xs : List String) : Bool :=
  sc.kind == .function && sc.names.all (fun x => x.2 == .local || x.2 == .globalImplicit || x.2 == .free) &&
  sc.names.all (fun x => sc.names.lookup x.1 == some x.2) && xs.all (fun x => sc.names.lookup (Str.ofString x) == some .local) &&
  sc.names.all (fun x => x.2 != .free || nm.lookup x.1 == some .cell) && sc.names.all (fun y => y.2 != .local || y.1 == (".0" : Str) || xs.any fun x => Str.ofString x == y.1)

noncomputable def mTgt (xs : List String) (t : PySem.Expr) : Bool := match t with
  | .Name y _ => decide (xs.map Str.ofString = [y])
  | _ => false

noncomputable def isNone_ : Ex → Bool
  | .none_ => true
  | _ => false

noncomputable def mCon (k : PySem.Const → Bool) (e : PySem.Expr) : Bool := match e with
  | .Constant c _ _ => k c
  | _ => false

mutual
noncomputable def mE (nm : Nms) : Ex → PySem.Expr → Bool
  | .none_ => mCon fun c => match c with | .none => true | _ => false
  | .bool_ b => mCon fun c => match c with | .bool c => b == c | _ => false
  | .int_ i => mCon fun c => match c with | .int j => i == j | _ => false
  | .str_ s => mCon fun c => match c with | .str t => Str.ofString s == t | _ => false
  | .var x => fun e => match e with | .Name y _ => Str.ofString x == y && isVar nm x | _ => false
  | .glob x => fun e => match e with | .Name y _ => Str.ofString x == y && isGlob nm y | _ => false
  | .bin op l r => fun e => match e with | .BinOp l' op' r' _ => decide (op.py = op') && mE nm l l' && mE nm r r' | _ => false
  | .not_ x => fun e => match e with | .UnaryOp o e' _ => decide (o = .Not) && mE nm x e' | _ => false
  | .neg x => fun e => match e with | .UnaryOp o e' _ => decide (o = .USub) && mE nm x e' | _ => false
  | .ite c t f => fun e => match e with | .IfExp c' t' f' _ => mE nm c c' && mE nm t t' && mE nm f f' | _ => false
  | .and_ es => fun e => match e with | .BoolOp o es' _ => decide (o = .And) && mEs nm es es' | _ => false
  | .or_ es => fun e => match e with | .BoolOp o es' _ => decide (o = .Or) && mEs nm es es' | _ => false
  | .cmp l ops rs => fun e => match e with | .Compare l' ops' rs' _ => mE nm l l' && decide (ops.map OpC.py = ops') && mEs nm rs rs' && ops.length == rs.length | _ => false
  | .list es => fun e => match e with | .List es' _ => mEs nm es es' | _ => false
  | .tup es => fun e => match e with | .Tuple es' _ _ => mEs nm es es' | _ => false
  | .call f as => fun e => match e with
    | .Call fe as' kw _ => (match fe with | .Name f' _ => kw.isEmpty && (Str.ofString f == f' && isGlob nm f' && mEs nm as as' && decide (as.length < 25)) | _ => false)
    | _ => false
  | .bcall f as => fun e => match e with
    | .Call fe as' kw _ => (match fe with | .Name f' _ => kw.isEmpty && (Str.ofString f.py == f' && isGlob nm f' && mEs nm as as' && decide (as.length < 25)) | _ => false)
    | _ => false
  | .isi x t => fun e => match e with
    | .Call fe as' kw _ => (match fe with
      | .Name f' _ => (match as' with
        | [] => false
        | e' :: r => (match r with
          | [] => false
          | te :: r => (match te with
            | .Name t' _ => r.isEmpty && kw.isEmpty && (f' == ("isinstance" : Str) && isGlob nm f' && Str.ofString t.py == t' && isGlob nm t' && mE nm x e')
            | _ => false)))
      | _ => false)
    | _ => false
  | .meth o m as => fun e => match e with
    | .Call fe as' kw p => (match fe with | .Attribute o' m' ap => kw.isEmpty && (Str.ofString m.py == m' && mE nm o o' && mEs nm as as' && plainBase o' && ap.endLine == p.line && decide (as.length < 25)) | _ => false)
    | _ => false
  | .slice o lo hi st => fun e => match e with
    | .Subscript o' i' _ => (match i' with
      | .Slice lo' hi' st' _ => mE nm o o' && (match lo' with | none => isNone_ lo | some x => mE nm lo x) && (match hi' with | none => isNone_ hi | some x => mE nm hi x) && (match st' with | none => isNone_ st | some x => mE nm st x)
      | _ => false)
    | _ => false
  | .sub o i => fun e => match e with | .Subscript o' i' _ => mE nm o o' && mE nm i i' | _ => false
  | .attr o a => fun e => match e with | .Attribute o' a' _ => Str.ofString a == a' && mE nm o o' && plainBase o' | _ => false
  | .comp elt xs it ifs => fun e => match e with
    | .ListComp elt' gs sc _ => (match gs with
      | [] => false
      | g :: r => r.isEmpty && g.is_async == 0 && (compOk nm sc xs && mTgt xs g.target && mE nm it g.iter && mE (relab sc.names) elt elt' && mEs (relab sc.names) ifs g.ifs))
    | _ => false
noncomputable def mEs (nm : Nms) : List Ex → List PySem.Expr → Bool
  | [] => fun l => l.isEmpty
  | e :: es => fun l => match l with | e' :: es' => mE nm e e' && mEs nm es es' | [] => false
end
theorem and2 {a b : Bool} (h : (a && b) = true) : a = true ∧ b = true := (Bool.and_eq_true a b).mp h
theorem and3 {a b c : Bool} (h : (a && b && c) = true) : (a = true ∧ b = true) ∧ c = true := ⟨and2 (and2 h).1, (and2 h).2⟩
theorem and4 {a b c d : Bool} (h : (a && b && c && d) = true) : ((a = true ∧ b = true) ∧ c = true) ∧ d = true := ⟨and3 (and2 h).1, (and2 h).2⟩
theorem and5 {a b c d e : Bool} (h : (a && b && c && d && e) = true) : (((a = true ∧ b = true) ∧ c = true) ∧ d = true) ∧ e = true := ⟨and4 (and2 h).1, (and2 h).2⟩
theorem and6 {a b c d e f : Bool} (h : (a && b && c && d && e && f) = true) : ((((a = true ∧ b = true) ∧ c = true) ∧ d = true) ∧ e = true) ∧ f = true := ⟨and5 (and2 h).1, (and2 h).2⟩
theorem one_of {xs : List String} {tg : PySem.Expr} (h : mTgt xs tg = true) : ∃ x px, xs = [x] ∧ tg = .Name (Str.ofString x) px := by
  cases tg <;> try exact Bool.noConfusion h
  have h := of_decide_eq_true h
  cases xs with
  | nil => cases h
  | cons x r => cases r with
    | nil => cases h; exact ⟨x, _, rfl, rfl⟩
    | cons _ _ => cases h
/-- a comprehension's shape -/
theorem mE_comp {nm : Nms} {elt it : Ex} {xs : List String} {ifs : List Ex} {v : PySem.Expr} (h : mE nm (.comp elt xs it ifs) v = true) :
    ∃ z px elt' it' ifs' sc pos, xs = [z] ∧ v = .ListComp elt' [⟨.Name (Str.ofString z) px, it', ifs', 0⟩] sc pos ∧ compOk nm sc [z] = true ∧ mE nm it it' = true ∧ mE (relab sc.names) elt elt' = true ∧ mEs (relab sc.names) ifs ifs' = true := by
  refine Classical.byContradiction fun hG => ?_
  obtain ⟨y, hy⟩ : ∃ y, y = v := ⟨v, rfl⟩
  rw [← hy] at h
  cases y <;> try exact Bool.noConfusion h
  rename_i elt' gs sc pos
  cases gs with
  | nil => exact Bool.noConfusion h
  | cons g r => cases r with
    | cons _ _ => exact Bool.noConfusion h
    | nil =>
      obtain ⟨h0, h⟩ := and2 h
      obtain ⟨⟨⟨⟨hok, htg⟩, m0⟩, m1⟩, m2⟩ := and5 h
      obtain ⟨tg, it', ifs', as⟩ := g
      have h0 : as = 0 := beq_iff_eq.mp (and2 h0).2
      subst h0
      obtain ⟨z, px, rfl, rfl⟩ := one_of htg
      exact hG ⟨z, px, elt', it', ifs', sc, pos, rfl, hy.symm, hok, m0, m1, m2⟩
noncomputable def mO (nm : Nms) (e : Ex) (o : Option PySem.Expr) : Bool := match o with
  | none => isNone_ e
  | some e' => mE nm e e'
theorem mE_slice {nm : Nms} {o lo hi st : Ex} {o' : PySem.Expr} {lo' hi' st' : Option PySem.Expr} {p q : Pos} : mE nm (.slice o lo hi st) (.Subscript o' (.Slice lo' hi' st' p) q) = (mE nm o o' && mO nm lo lo' && mO nm hi hi' && mO nm st st') := rfl

noncomputable def isComp : Ex → Bool
  | .comp .. => true
  | _ => false

/-- the call that a raise makes -/
noncomputable def mRaise (nm : Nms) (cls msg : String) (e : Option PySem.Expr) : Bool := match e with
  | none => false
  | some e => match e with
    | .Call fe as kw _ => (match fe with
      | .Name c _ => (match as with
        | [] => false
        | a :: r => (match a with
          | .Constant k _ _ => (match k with | .str m => r.isEmpty && kw.isEmpty && (Str.ofString cls == c && isGlob nm c && Str.ofString msg == m) | _ => false)
          | _ => false))
      | _ => false)
    | _ => false
theorem raise_of {nm : Nms} {cls msg : String} {e : Option PySem.Expr} (h : mRaise nm cls msg e = true) :
    ∃ p1 k p2 p3, e = some (.Call (.Name (Str.ofString cls) p1) [.Constant (.str (Str.ofString msg)) k p2] [] p3) ∧ isGlob nm (Str.ofString cls) = true := by
  refine Classical.byContradiction fun hG => ?_
  obtain ⟨y, hy⟩ : ∃ y, y = e := ⟨e, rfl⟩
  rw [← hy] at h
  cases y with
  | none => exact Bool.noConfusion h
  | some y =>
    cases y <;> try exact Bool.noConfusion h
    rename_i fe as kw p3
    cases fe <;> try exact Bool.noConfusion h
    cases as with
    | nil => exact Bool.noConfusion h
    | cons a r =>
      cases a <;> try exact Bool.noConfusion h
      rename_i c p1 k kk p2
      cases k <;> try exact Bool.noConfusion h
      cases r <;> try exact Bool.noConfusion h
      cases kw <;> try exact Bool.noConfusion h
      obtain ⟨⟨h1, h2⟩, h3⟩ := and3 h
      cases beq_iff_eq.mp h1
      cases beq_iff_eq.mp h3
      exact hG ⟨_, _, _, _, hy.symm, h2⟩
/-- a handler's head -/
noncomputable def mHand (nm : Nms) (cls x : String) (hs : List PySem.ExceptHandler) : Option (List PySem.Stmt) := match hs with
  | [] => none
  | h :: r => match h with
    | .ExceptHandler t n b _ => match t with
      | none => none
      | some t => match t with
        | .Name c _ => match n with
          | none => none
          | some n => if r.isEmpty && Str.ofString cls == c && isGlob nm c && Str.ofString x == n && (isVar nm x && nm.lookup n == some .local && !b.isEmpty) then some b else none
        | _ => none
theorem hand_of {nm : Nms} {cls x : String} {hs : List PySem.ExceptHandler} {b : List PySem.Stmt} (h : mHand nm cls x hs = some b) :
    ∃ p1 p2, hs = [.ExceptHandler (some (.Name (Str.ofString cls) p1)) (some (Str.ofString x)) b p2] ∧ isGlob nm (Str.ofString cls) = true ∧ isVar nm x = true ∧ nm.lookup (Str.ofString x) = some .local ∧ b.isEmpty = false := by
  refine Classical.byContradiction fun hG => ?_
  obtain ⟨y, hy⟩ : ∃ y, y = hs := ⟨hs, rfl⟩
  rw [← hy] at h
  cases y with
  | nil => cases h
  | cons g r =>
    obtain ⟨t, n, b', p2⟩ := g
    cases t with
    | none => cases h
    | some t =>
      cases t <;> try cases h
      rename_i c p1
      cases n with
      | none => cases h
      | some n =>
        have h : (if r.isEmpty && Str.ofString cls == c && isGlob nm c && Str.ofString x == n && (isVar nm x && nm.lookup n == some .local && !b'.isEmpty) then some b' else none) = some b := h
        split at h
        · rename_i q
          have hb := Option.some.inj h
          subst hb
          obtain ⟨⟨⟨⟨h1, h2⟩, h3⟩, h4⟩, h5⟩ := and5 q
          cases r with
          | cons _ _ => exact Bool.noConfusion h1
          | nil =>
            cases beq_iff_eq.mp h2
            cases beq_iff_eq.mp h4
            exact hG ⟨_, _, hy.symm, h3, (and3 h5).1.1, beq_iff_eq.mp (and3 h5).1.2, by simpa using (and3 h5).2⟩
        · cases h

noncomputable def mTup : List String → List PySem.Expr → Bool
  | [] => fun l => l.isEmpty
  | x :: xs => fun l => match l with
    | t :: ts => (match t with | .Name y _ => Str.ofString x == y && mTup xs ts | _ => false)
    | [] => false
mutual
noncomputable def mS (nm : Nms) : St → PySem.Stmt → Bool
  | .assign x e => fun s => match s with
    | .Assign ts e' _ => (match ts with
      | [] => false
      | t :: r => (match t with | .Name y _ => r.isEmpty && (Str.ofString x == y && isVar nm x && mE nm e e') | _ => false))
    | _ => false
  | .assignT xs y => fun s => match s with
    | .Assign ts e' _ => (match ts with
      | [] => false
      | t :: r => (match t with
        | .Tuple us _ _ => (match e' with | .Name z _ => r.isEmpty && (mTup xs us && xs.all (isVar nm) && (Str.ofString y == z) && isVar nm y) | _ => false)
        | _ => false))
    | _ => false
  | .assignAttr o a e => fun s => match s with
    | .Assign ts e' _ => (match ts with
      | [] => false
      | t :: r => (match t with | .Attribute o' a' _ => r.isEmpty && (Str.ofString a == a' && mE nm o o' && mE nm e e') | _ => false))
    | _ => false
  | .expr e => fun s => match s with | .Expr e' _ => !isComp e && mE nm e e' | _ => false
  | .ret e => fun s => match s with | .Return e' _ => (match e' with | some e' => mE nm e e' | none => false) | _ => false
  | .if_ c t e => fun s => match s with | .If c' t' e' _ => mE nm c c' && mSs nm t t' && mSs nm e e' | _ => false
  | .for_ xs it b => fun s => match s with | .For tg it' b' oe _ => oe.isEmpty && (mTgt xs tg && xs.all (isVar nm) && mE nm it it' && mSs nm b b') | _ => false
  | .raise cls msg => fun s => match s with | .Raise e c _ => c.isNone && mRaise nm cls msg e | _ => false
  | .try_ b cls x h => fun s => match s with
    | .Try b' hs oe fb _ => (match mHand nm cls x hs with | some h' => oe.isEmpty && fb.isEmpty && (mSs nm b b' && mSs nm h h') | none => false)
    | _ => false
noncomputable def mSs (nm : Nms) : List St → List PySem.Stmt → Bool
  | [] => fun l => l.isEmpty
  | s :: r => fun l => match l with | s' :: r' => mS nm s s' && mSs nm r r' | [] => false
end

noncomputable def mFn (df : List String × List St) (ps : Arguments) (body : List PySem.Stmt) (sc : Scope) : Bool :=
  ps.posonlyargs.isEmpty && ps.vararg.isNone && ps.kwonlyargs.isEmpty && ps.kwarg.isNone && ps.defaults.isEmpty && ps.kw_defaults.isEmpty &&
  decide (df.1.map Str.ofString = ps.args.map (·.arg)) && sc.kind == .function && !sc.isCoroutine && !sc.isGenerator &&
  sc.names.all (fun x => x.2 == .local || x.2 == .globalImplicit || x.2 == .cell) && sc.names.all (fun x => sc.names.lookup x.1 == some x.2) &&
  df.1.all (isVar sc.names) && decide df.1.Nodup && mSs sc.names df.2 body
end BP

/-! ## BExc1 -/
set_option maxRecDepth 100000
set_option linter.unusedVariables false
namespace BP
open PySem

/-! ## exceptions of one's own classes: their look-ups, isinstance, except -/
noncomputable def xNames : List Str := ["__init__", "__getattribute__", "__getattr__", "__class__"]

inductive TailX (h : Heap) (bmB : List Value) : List Value → Prop
  | base : TailX h bmB bmB
  | own {A : Addr} {c0 : Value} {dd : Option Addr} {cd : ClassData} {sl : Array (Option Value)} {mA : Str → Option Value} {tl : List Value} :
      h.get? A = some { cls := c0, dict := dd, data := .cls cd, slots := sl } → h.Ns cd.ns mA → (∀ n ∈ xNames, mA n = none) → TailX h bmB tl → TailX h bmB (.ref A :: tl)

theorem TailX.tail {h : Heap} {bmB tl : List Value} (T : TailX h bmB tl) : OwnTail h bmB tl := by
  induction T with
  | base => exact .base
  | own hA hN hq _ ih => exact .own hA hN (hq _ (.head _)) ih
theorem TailX.keeps {h h' : Heap} {bmB tl : List Value} (T : TailX h bmB tl) (hk : ∀ b o, h.get? b = some o → h'.get? b = some o) : TailX h' bmB tl := by
  induction T with
  | base => exact .base
  | own hA hN hq _ ih => exact .own (hk _ _ hA) (hN.keeps hk) hq ih

/-- an exception class of the text's own -/
noncomputable def XCls (h : Heap) (C : Addr) (bm bmB : List Value) (newId : String) : Prop :=
  ∃ N nm q bs hdct sn sub ab col dd k0 k1 k2 k3 k5 mN, h.get? C = some (excClassObj nm q C N bs bm hdct sn sub ab col dd k0 k1 k2 k3 k5 newId) ∧ h.Ns N mN ∧ (∀ n ∈ xNames, mN n = none) ∧ TailX h bmB bm
theorem XCls.keeps {h h' : Heap} {C : Addr} {bm bmB : List Value} {newId : String} (X : XCls h C bm bmB newId) (hk : ∀ b o, h.get? b = some o → h'.get? b = some o) : XCls h' C bm bmB newId := by
  obtain ⟨N, nm, q, bs, hdct, sn, sub, ab, col, dd, k0, k1, k2, k3, k5, mN, h1, h2, h3, h4⟩ := X
  exact ⟨N, nm, q, bs, hdct, sn, sub, ab, col, dd, k0, k1, k2, k3, k5, mN, hk _ _ h1, h2.keeps hk, h3, h4.keeps hk⟩

section
variable {M : Model} {A : Around} {E : Value → Shared → Prop} {h : Heap} {g : Array GenState} {d : Drawn} {t : Nat} {os : OsState} {C : Addr} {bm bmB : List Value} {newId B : String}

theorem lookupAlong_x {tl : List Value} {n : Str} {y : Option Value} {Q : Option Value → Shared → Prop} (hn : n ∈ xNames) (T : TailX h bmB tl) (hrest : lookupAlong bmB n = pure y) (hq : Q y ⟨h, g, d, t, os⟩) :
    wpAny M A (lookupAlong tl n) Q E ⟨h, g, d, t, os⟩ := by
  induction T with
  | base => rw [hrest]; exact wpAny_pure hq
  | own hA hN hni _ ih =>
    rw [lookupAlong_cons]
    refine wpAny_bind (wpAny_classOwn_cls hA hN ?_)
    rw [hni n hn]
    exact ih

theorem typeLookup_x {n : Str} {y : Option Value} {Q : Option Value → Shared → Prop} (hn : n ∈ xNames) (X : XCls h C bm bmB newId) (hbm : mroOf (.type B) = pure bmB) (hB : typeLookup (.type B) n = pure y) (hq : Q y ⟨h, g, d, t, os⟩) :
    wpAny M A (typeLookup (.ref C) n) Q E ⟨h, g, d, t, os⟩ := by
  have hrest : lookupAlong bmB n = pure y := by rw [typeLookup_eq, hbm] at hB; exact hB
  obtain ⟨N, nm, q, bs, hdct, sn, sub, ab, col, dd, k0, k1, k2, k3, k5, mN, hC, hN, hmN, T⟩ := X
  rw [typeLookup_eq]
  refine wpAny_bind (wpAny_mroOf_exc hC ?_)
  rw [lookupAlong_cons]
  refine wpAny_bind (wpAny_classOwn_exc hC hN ?_)
  rw [hmN n hn]
  exact lookupAlong_x hn T hrest hq

theorem isSubtype_x {base : Value} {Q : Bool → Shared → Prop} (X : XCls h C bm bmB newId) (hq : Q ((Value.ref C :: bm).contains base) ⟨h, g, d, t, os⟩) : wpAny M A (isSubtype (.ref C) base) Q E ⟨h, g, d, t, os⟩ := by
  obtain ⟨N, nm, q, bs, hdct, sn, sub, ab, col, dd, k0, k1, k2, k3, k5, mN, hC, hN, hmN, T⟩ := X
  exact wpAny_isSubtype_exc hC hq
end

/-- what is used of ValueError -/
structure XBase (B : String) (bmB : List Value) : Prop extends ExcAttrBase B bmB where
  hasObj : bmB.contains (.type "object") = true
  lkClass : typeLookup (.type B) "__class__" = pure (some (.builtin "object.__class__"))

section
variable {prog : Program} {w : World} {A : Around} {E : Value → Shared → Prop} {h : Heap} {g : Array GenState} {d : Drawn} {t : Nat} {os : OsState} {a C : Addr} {o : Obj} {bm bmB : List Value} {newId B : String}

theorem class_get_x {R : Result → Shared → Prop} (FB : XBase B bmB) (X : XCls h C bm bmB newId) (hx : h.get? a = some o) (hc : o.cls = .ref C) (hq : R (.ok (.ret (.ref C))) ⟨h, g, d, t, os⟩) :
    codeAny (model prog w) A (.call (.builtin "getset_descriptor.__get__") ⟨[.builtin "object.__class__", .ref a, .ref C], []⟩) R ⟨h, g, d, t, os⟩ := by
  have hT5 : (⟨h, g, d, t, os⟩ : Shared).TypeIs (.builtin "object.__class__") "getset_descriptor" := F.typeOf_object_class
  have hcB : (Value.ref C :: bm).contains (.type (".".intercalate ("object.__class__".cutAt '.').dropLast)) = true := by
    obtain ⟨N, nm, q, bs, hdct, sn, sub, ab, col, dd, k0, k1, k2, k3, k5, mN, hC, hN, hmN, T⟩ := X
    rw [F.owner_object_class, List.contains_cons, T.tail.hasType FB.hasObj]; rfl
  refine codeAny_call_builtin F.slot_gs_get.plain F.entry_gs_get (F.slot_gs_get.check _ _ _ _ _ _ _ _ hT5 (F.args_gs_get _ _ _) ?_)
  repeat (any_goals (first | assumption | (with_reducible refine wpAny_loadPart_at hx ?_; rw [hc]) | (with_reducible refine isSubtype_x X ?_; rw [hcB]) | wp_step))
  refine ⟨Code.quiet_builtin _ (by decide +kernel), codeAny_builtin F.entry_object_class ?_⟩
  repeat (any_goals (first | assumption | (with_reducible refine wpAny_loadPart_at hx ?_; rw [hc]) | wp_step))

theorem check_ga_x {M : Model} {nameV : Value} {Q : Unit → Shared → Prop} (FB : XBase B bmB) (X : XCls h C bm bmB newId)
    (hx : h.get? a = some o) (hc : o.cls = .ref C) (hq : Q () ⟨h, g, d, t, os⟩) : wpAny M A (checkBuiltinCall "BaseException.__getattribute__" ⟨[.ref a, nameV], []⟩) Q E ⟨h, g, d, t, os⟩ := by
  have hk : builtinKind "BaseException.__getattribute__" = some .slot := by decide +kernel
  have hsplit : splitId "BaseException.__getattribute__" = some ("BaseException", "__getattribute__") := by decide +kernel
  have hcB : (Value.ref C :: bm).contains (.type "BaseException") = true := by
    obtain ⟨N, nm, q, bs, hdct, sn, sub, ab, col, dd, k0, k1, k2, k3, k5, mN, hC, hN, hmN, T⟩ := X
    rw [List.contains_cons, T.tail.hasType FB.hasBase]; rfl
  have ha := F.args_bexc_ga (.ref a) nameV
  simp only [checkBuiltinCall, hk, hsplit]
  refine wpAny_bind ?_
  · unfold isInstance
    repeat (first | (with_reducible refine wpAny_loadPart_at hx ?_; rw [hc]) | (with_reducible refine isSubtype_x X ?_; rw [hcB]) | wp_step)
    exact hq

theorem class_entry_x {tk : Tok} {Q : Fin → Shared → Prop} (FB : XBase B bmB) (X : XCls h C bm bmB newId) (hx : h.get? a = some o) (hc : o.cls = .ref C) (hq : Q (.done (.ret (.ref C))) ⟨h, g, d, t, os⟩) :
    wpAny (model prog w) A (Builtin.«object.__getattribute__» ⟨[.ref a, .str "__class__" tk], []⟩) Q E ⟨h, g, d, t, os⟩ := by
  have hT5 : (⟨h, g, d, t, os⟩ : Shared).TypeIs (.builtin "object.__class__") "getset_descriptor" := F.typeOf_object_class
  have f5 := F.typeOf_object_class
  have f6 := F.slot_gs_get.lookup
  have f7 := F.slot_gs_set.lookup
  have hmA : ("__class__" : Str) ∈ xNames := .tail _ (.tail _ (.tail _ (.head _)))
  repeat (any_goals (first | assumption | (with_reducible refine wpAny_loadPart_at hx ?_; rw [hc]) | with_reducible refine typeLookup_x hmA X FB.mro FB.lkClass ?_ | wp_step))
  refine class_get_x FB X hx hc ?_
  repeat (any_goals (first | assumption | wp_step))

theorem class_call_x {tk : Tok} {R : Result → Shared → Prop} (FB : XBase B bmB) (X : XCls h C bm bmB newId) (hx : h.get? a = some o) (hc : o.cls = .ref C) (hq : R (.ok (.ret (.ref C))) ⟨h, g, d, t, os⟩) :
    codeAny (model prog w) A (.call (.builtin "BaseException.__getattribute__") ⟨[.ref a, .str "__class__" tk], []⟩) R ⟨h, g, d, t, os⟩ :=
  codeAny_call_builtin FB.ga.plain F.entry_bexc_ga (check_ga_x FB X hx hc (class_entry_x FB X hx hc hq))

theorem class_by_x {tk : Tok} {fill expr : Bool} {Q : Value → Shared → Prop} (FB : XBase B bmB) (X : XCls h C bm bmB newId) (hx : h.get? a = some o) (hc : o.cls = .ref C) (hq : Q (.ref C) ⟨h, g, d, t, os⟩) :
    wpAny (model prog w) A (getAttrBy (.ref a) (.str "__class__" tk) fill expr) Q E ⟨h, g, d, t, os⟩ := by
  have f3 := FB.ga.bind (.ref a)
  have hx0 : (expr && onTheHeap (Value.builtin "BaseException.__getattribute__")) = false := by cases expr <;> rfl
  have hx2 : (Value.builtin "BaseException.__getattribute__" == Value.builtin "object.__getattribute__") = false := by decide +kernel
  have hx1 : (onTheHeap (Value.ref C) && Value.builtin "BaseException.__getattribute__" == Value.builtin "object.__getattribute__") = false := by rw [hx2]; rfl
  have hm1 : ("__getattribute__" : Str) ∈ xNames := .tail _ (.head _)
  have hm2 : ("__getattr__" : Str) ∈ xNames := .tail _ (.tail _ (.head _))
  repeat (any_goals (first | assumption | (with_reducible refine wpAny_loadPart_at hx ?_; rw [hc]) | with_reducible refine typeLookup_x hm1 X FB.mro FB.ga.lookup ?_ | with_reducible refine typeLookup_x hm2 X FB.mro FB.noGetattr ?_ | wp_step))
  refine class_call_x FB X hx hc ?_
  repeat (any_goals (first | assumption | wp_step))

theorem class_attr_x {Q : Option Value → Shared → Prop} (FB : XBase B bmB) (X : XCls h C bm bmB newId) (hx : h.get? a = some o) (hc : o.cls = .ref C) (hq : Q (some (.ref C)) ⟨h, g, d, t + 1, os⟩) :
    wpAny (model prog w) A (getAttr? (.ref a) "__class__") Q E ⟨h, g, d, t, os⟩ := by
  unfold getAttr? getAttrBy?
  repeat (any_goals (first | assumption | with_reducible apply class_by_x FB X hx hc | wp_step))
end
end BP

/-! ## BExc2 -/
set_option maxRecDepth 100000
set_option linter.unusedVariables false
namespace BP
open PySem

section
variable {prog : Program} {w : World} {A : Around} {E : Value → Shared → Prop} {h : Heap} {g : Array GenState} {d : Drawn} {t : Nat} {os : OsState} {a C D : Addr} {o : Obj} {bm bmB bmD : List Value} {newId newD B : String}

theorem XCls.obj (X : XCls h C bm bmB newId) : ∃ o, h.get? C = some o ∧ o.cls = .type "type" ∧ ∃ cd, o.data = .cls cd := by
  obtain ⟨N, nm, q, bs, hdct, sn, sub, ab, col, dd, k0, k1, k2, k3, k5, mN, hC, hN, hmN, T⟩ := X
  exact ⟨_, hC, rfl, _, rfl⟩

theorem nested_x_type_no {T : String} {dep : Int} {tk : Tok} {Q : Fin → Shared → Prop} (FB : XBase B bmB) (X : XCls h C bm bmB newId) (hx : h.get? a = some o) (hc : o.cls = .ref C)
    (hty : typeOf (.type T) = pure (.type "type")) (hsub : (Value.ref C :: bm).contains (.type T) = false) (hq : Q (.done (.ret (.bool false))) ⟨h, g, d, t + 1, os⟩) :
    wpAny (model prog w) A (Builtin.«isinstance.nested» ⟨[.ref a, .type T, .int dep tk], []⟩) Q E ⟨h, g, d, t, os⟩ := by
  have hne : (Value.ref C == Value.type T) = false := by simp
  obtain ⟨oC, hC, hCc, cdC, hCd⟩ := X.obj
  repeat (any_goals (first | assumption | (with_reducible refine wpAny_loadPart_at hx ?_; rw [hc]) | (with_reducible refine isSubtype_x X ?_; rw [hsub]) | with_reducible apply class_attr_x FB X hx hc | (with_reducible refine wpAny_loadPart_at hC ?_; rw [hCd]) | wp_step))

theorem nested_x_type_yes {T : String} {dep : Int} {tk : Tok} {Q : Fin → Shared → Prop} (X : XCls h C bm bmB newId) (hx : h.get? a = some o) (hc : o.cls = .ref C)
    (hty : typeOf (.type T) = pure (.type "type")) (hsub : (Value.ref C :: bm).contains (.type T) = true) (hq : Q (.done (.ret (.bool true))) ⟨h, g, d, t, os⟩) :
    wpAny (model prog w) A (Builtin.«isinstance.nested» ⟨[.ref a, .type T, .int dep tk], []⟩) Q E ⟨h, g, d, t, os⟩ := by
  have hne : (Value.ref C == Value.type T) = false := by simp
  repeat (any_goals (first | assumption | (with_reducible refine wpAny_loadPart_at hx ?_; rw [hc]) | (with_reducible refine isSubtype_x X ?_; rw [hsub]) | wp_step))

theorem nested_x_own_no {dep : Int} {tk : Tok} {Q : Fin → Shared → Prop} (FB : XBase B bmB) (X : XCls h C bm bmB newId) (XD : XCls h D bmD bmB newD) (hx : h.get? a = some o) (hc : o.cls = .ref C)
    (hsub : (Value.ref C :: bm).contains (.ref D) = false) (hq : Q (.done (.ret (.bool false))) ⟨h, g, d, t + 1, os⟩) :
    wpAny (model prog w) A (Builtin.«isinstance.nested» ⟨[.ref a, .ref D, .int dep tk], []⟩) Q E ⟨h, g, d, t, os⟩ := by
  have hne : (Value.ref C == Value.ref D) = false := by
    rw [List.contains_cons] at hsub
    have h1 := (Bool.or_eq_false_iff.mp hsub).1
    rw [beq_eq_false_iff_ne] at h1 ⊢
    exact fun e => h1 e.symm
  obtain ⟨oC, hC, hCc, cdC, hCd⟩ := X.obj
  obtain ⟨oD, hD, hDc, cdD, hDd⟩ := XD.obj
  have hTD : (⟨h, g, d, t, os⟩ : Shared).TypeIs (.ref D) "type" := ⟨_, hD, hDc⟩
  repeat (any_goals (first | assumption | (with_reducible refine wpAny_loadPart_at hx ?_; rw [hc]) | (with_reducible refine isSubtype_x X ?_; rw [hsub]) | with_reducible apply class_attr_x FB X hx hc | (with_reducible refine wpAny_loadPart_at hC ?_; rw [hCd]) | (with_reducible refine wpAny_loadPart_at hD ?_; first | rw [hDd] | rw [hDc]) | wp_step))

theorem nested_x_own_yes {dep : Int} {tk : Tok} {Q : Fin → Shared → Prop} (X : XCls h C bm bmB newId) (XD : XCls h D bmD bmB newD) (hx : h.get? a = some o) (hc : o.cls = .ref C)
    (hsub : (Value.ref C :: bm).contains (.ref D) = true) (hq : Q (.done (.ret (.bool true))) ⟨h, g, d, t, os⟩) :
    wpAny (model prog w) A (Builtin.«isinstance.nested» ⟨[.ref a, .ref D, .int dep tk], []⟩) Q E ⟨h, g, d, t, os⟩ := by
  obtain ⟨oD, hD, hDc, cdD, hDd⟩ := XD.obj
  have hTD : (⟨h, g, d, t, os⟩ : Shared).TypeIs (.ref D) "type" := ⟨_, hD, hDc⟩
  by_cases he : C = D
  · subst he
    have hne : (Value.ref C == Value.ref C) = true := by simp
    repeat (any_goals (first | assumption | (with_reducible refine wpAny_loadPart_at hx ?_; rw [hc]) | wp_step))
  · have hne : (Value.ref C == Value.ref D) = false := by simpa using he
    repeat (any_goals (first | assumption | (with_reducible refine wpAny_loadPart_at hx ?_; rw [hc]) | (with_reducible refine isSubtype_x X ?_; rw [hsub]) | (with_reducible refine wpAny_loadPart_at hD ?_; first | rw [hDd] | rw [hDc]) | wp_step))

theorem excMatches_x {M : Model} {Q : Bool → Shared → Prop} (FB : XBase B bmB) (X : XCls h C bm bmB newId) (XD : XCls h D bmD bmB newD) (hx : h.get? a = some o) (hc : o.cls = .ref C)
    (hq : Q ((Value.ref C :: bm).contains (.ref D)) ⟨h, g, d, t, os⟩) : wpAny M A (excMatches (.ref a) (.ref D)) Q E ⟨h, g, d, t, os⟩ := by
  have hDB : (Value.ref D :: bmD).contains (.type "BaseException") = true := by
    obtain ⟨N, nm, q, bs, hdct, sn, sub, ab, col, dd, k0, k1, k2, k3, k5, mN, hC, hN, hmN, T⟩ := XD
    rw [List.contains_cons, T.tail.hasType FB.hasBase]; rfl
  obtain ⟨oD, hD, hDc, cdD, hDd⟩ := XD.obj
  have f := tc_notTuple
  unfold excMatches
  repeat (first | (with_reducible refine wpAny_loadPart_at hx ?_; rw [hc]) | (with_reducible refine wpAny_loadPart_at hD ?_; first | rw [hDd] | rw [hDc]) | (with_reducible refine isSubtype_x XD ?_; rw [hDB]) | (with_reducible refine isSubtype_x X ?_) | wp_step)
  cases hb : (Value.ref C :: bm).contains (.ref D) <;> (rw [hb] at hq; wp_walk; exact hq)
end
end BP

/-! ## GAt -/
set_option linter.unusedVariables false
namespace BP
open PySem

theorem ofString_inj {a b : String} (h : Str.ofString a = Str.ofString b) : a = b := by
  rw [Str.ofString_eq_toList, Str.ofString_eq_toList] at h
  have h1 : a.toList.map Char.toNat = b.toList.map Char.toNat := by
    have := congrArg (fun s : Str => s.cps.toList) h
    simpa using this
  have h2 : a.toList = b.toList := by
    refine (List.map_inj_right (f := Char.toNat) fun x y e => ?_).mp h1
    exact Char.ext (UInt32.toNat_inj.mp e)
  exact String.toList_inj.mp h2

noncomputable def vval : Value → Option Val
  | .none => some .none
  | .bool b => some (.bool b)
  | .int i _ => some (.int i)
  | .str s _ => if strOk s then some (.str s) else none
  | .ref a => some (.ref a)
  | _ => none

noncomputable def VsR (vs : List Value) (xs : List Val) : Prop := vs.map vval = xs.map some

abbrev bNames : List String := ["len", "all", "list", "tuple", "range", "max", "int", "bool", "isinstance", "ValueError"]

noncomputable def veMro : List Value := [.type "ValueError", .type "Exception", .type "BaseException", .type "object"]
/-- what stands throughout a law's call -/
structure Gd where
  prog : Program
  w : World
  base : Heap
  mg : Str → Option Value
  mb : Str → Option Value
  os : OsState
  gens : Array GenState
  cls : String → Option Addr
  g : base.Ns mainGlobals mg
  b : base.Ns builtinsNs mb
  bi : ∀ x : Str, x ≠ "__name__" → mb x = bootBuiltins x
  nolimit : base.NoLimit
  free : ∀ x ∈ bNames, mg (Str.ofString x) = none
  K : W.Frag
  kin : K.In base
  clsOk : ∀ c C, cls c = some C → W.plainGet K C "" = true ∧ W.hasDictIn K C = true ∧ W.plainOver K C = true ∧ W.findIn K (.ref C) "__setattr__" = some (some (.builtin "object.__setattr__")) ∧ ∀ a ∈ attrNames, W.findIn K (.ref C) (Str.ofString a) = some none
  exc : String → Option Addr
  excOk : ∀ c C, exc c = some C → mg (Str.ofString c) = some (.ref C) ∧ ∃ bm, XCls base C bm veMro "ValueError.__new__" ∧ ∀ d D, exc d = some D → (Value.ref C :: bm).contains (.ref D) = excSub c d
  mods : ∃ o, base.get? sysModules = some o
  fns : List String
  callee : ∀ f ∈ fns, ∃ fv, mg (Str.ofString f) = some fv ∧ ∀ (M : Model) (A : Around) (s : Shared) (Q : Keeper → Shared → Prop) (E : Value → Shared → Prop), base.StaysIn s.heap →
    (∀ k, k = .frame ∨ k = .machine → Q k s) → wpAny M A (keeperOf fv) Q E s

noncomputable def Gd.gv (G : Gd) : Glo := ⟨fun x => (G.mg (Str.ofString x)).bind vval, fun f => G.fns.contains f, fun c => (G.exc c).isSome⟩

/-- a dict's entry bears its key's hash -/
noncomputable def EntR (G : Gd) (e : DictEntry) (p : Val × Val) : Prop := vval e.key = some p.1 ∧ vval e.val = some p.2

inductive AttR : List DictEntry → List (String × Val) → Prop
  | nil : AttR [] []
  | cons {e es a V fs} : (∃ t, e.key = .str (Str.ofString a) t) → vval e.val = some V → AttR es fs → AttR (e :: es) ((a, V) :: fs)

noncomputable def ObR (G : Gd) : Ob → Obj → Prop
  | .list xs, o => ∃ vs n, o = ⟨.type "list", none, .seq vs n, #[]⟩ ∧ VsR vs.toList xs ∧ xs.length ≤ 2 * lim
  | .tup xs, o => ∃ vs n, o = ⟨.type "tuple", none, .seq vs n, #[]⟩ ∧ VsR vs.toList xs ∧ xs.length ≤ 2 * lim
  | .range lo hi, o => (-lim ≤ lo ∧ lo ≤ lim ∧ -lim ≤ hi ∧ hi ≤ lim) ∧ ∃ t u v, o = ⟨.type "range", none, .fields #[.int lo t, .int hi u, .int 1 v], #[]⟩
  | .inst c dx, o => ∃ C, G.cls c = some C ∧ o = ⟨.ref C, some dx, .plain, #[]⟩
  | .ro xs, o => ∃ vs n, o.cls = .type "list" ∧ o.data = .seq vs n ∧ VsR vs.toList xs ∧ xs.length ≤ lim
  | .attrs fs, o => ∃ es n, o = W.dictOf es n ∧ AttR es fs ∧ fs.length ≤ 100
  | .exc c, o => ∃ C vs, G.exc c = some C ∧ o.cls = .ref C ∧ o.data = .fields vs

structure Cx where
  G : Gd
  d : Nat
  hd : Bool
  A : Around
  fr : List Env
  env : Env
  own : Addr → Prop
  σ₀ : Sto
  h₀ : Heap

structure EnvR (G : Gd) (env : Env) (ρ : Loc) (σ : Sto) (h : Heap) : Prop where
  kind : env.scope.kind = .function
  glob : env.globals = mainGlobals
  blt : env.builtins = builtinsNs
  loc : ∃ m, h.Ns env.locals m ∧ ∀ (x : String) (V : Val), x ≠ ".0" → env.kindOf (Str.ofString x) = some .local → ρ x = some V → ∃ v, m (Str.ofString x) = some v ∧ vval v = some V
  locN : σ env.locals = none
  locB : G.base.get? env.locals = none
  cel : ∀ x : Str, env.kindOf x = some .cell → ∃ c v, env.cells.lookup x = some c ∧ h.IsCell c v ∧ σ c = none ∧ G.base.get? c = none ∧
    ∀ (y : String) (V : Val), Str.ofString y = x → ρ y = some V → ∃ v', v = some v' ∧ vval v' = some V
  inj : ∀ x y c, env.cells.lookup x = some c → env.cells.lookup y = some c → x = y

/-- a frame on the stack -/
noncomputable def Fb (c : Cx) (b : Addr) : Prop := ∃ e ∈ c.fr, e.frame = some b
/-- the same object; a frame's slots may have been laid -/
noncomputable def Same (P : Prop) (o o' : Obj) : Prop := o' = o ∨ (P ∧ ∃ sl, o' = { o with slots := sl })
theorem Same.refl {P : Prop} (o : Obj) : Same P o o := .inl rfl
theorem Same.data {P : Prop} {o o' : Obj} (h : Same P o o') : o'.data = o.data := by rcases h with rfl | ⟨_, sl, rfl⟩ <;> rfl
theorem Same.trans {P : Prop} {o o' o'' : Obj} (h : Same P o o') (h' : Same P o' o'') : Same P o o'' := by
  rcases h with rfl | ⟨hc, sl, rfl⟩
  · exact h'
  · rcases h' with rfl | ⟨_, sl', rfl⟩
    · exact .inr ⟨hc, sl, rfl⟩
    · exact .inr ⟨hc, sl', rfl⟩
theorem Same.exact {P : Prop} {o o' : Obj} (h : Same P o o') (hc : ¬ P) : o' = o := by rcases h with rfl | ⟨q, _⟩; rfl; exact absurd q hc
theorem Same.mono {P P' : Prop} {o o' : Obj} (h : Same P o o') (hp : P → P') : Same P' o o' := by rcases h with h | ⟨q, h⟩; exact .inl h; exact .inr ⟨hp q, h⟩

structure At (c : Cx) (ρ : Loc) (σ : Sto) (s : Shared) : Prop where
  stays : c.G.base.StaysIn s.heap
  os : s.os = c.G.os
  gens : s.gens = c.G.gens
  sto : ∀ a ob, σ a = some ob → (c.G.base.get? a = none ∨ ob.isRo = true) ∧ ∃ o, s.heap.get? a = some o ∧ ObR c.G ob o
  env : EnvR c.G c.env ρ σ s.heap
  frs : s.heap.FunFrames c.G.base c.fr
  frN : ∀ e ∈ c.fr, ∀ L, e.frame = some L → σ L = none
  keep : ∀ b o, c.h₀.get? b = some o → c.σ₀ b = none → ¬ c.own b → ∃ o', s.heap.get? b = some o' ∧ Same (Fb c b) o o'
  alive : ∀ b o, c.h₀.get? b = some o → ∃ o', s.heap.get? b = some o'
  fresh : ∀ b ob, σ b = some ob → c.σ₀ b ≠ none ∨ c.h₀.get? b = none

structure CxOk (c : Cx) : Prop where
  baseIn : c.G.base.StaysIn c.h₀
  old : ∀ b, c.h₀.get? b = none → b ≠ c.env.locals ∧ (∀ x, c.env.cells.lookup x ≠ some b) ∧ ∀ e ∈ c.fr, e.frame ≠ some b
  frames : c.A.frames = some c.fr
  room : c.A.depth + 2 * c.d ≤ 900
  units : c.A.units + 20 * c.d ≤ 9000
  handled : c.hd = false → c.A.handled = none

theorem ns_slots {h h' : Heap} {a : Addr} {m : Str → Option Value} (x : h.Ns a m) (hk : ∀ o, h.get? a = some o → ∃ o', h'.get? a = some o' ∧ o'.data = o.data) : h'.Ns a m := by
  obtain ⟨o, es, ep, ho, hd, hs, hf⟩ := x
  obtain ⟨o', e, q⟩ := hk o ho
  exact ⟨_, es, ep, e, q.trans hd, hs, hf⟩
theorem cell_slots {h h' : Heap} {a : Addr} {v : Option Value} (x : h.IsCell a v) (hk : ∀ o, h.get? a = some o → ∃ o', h'.get? a = some o' ∧ o'.data = o.data) : h'.IsCell a v := by
  obtain ⟨o, ho, hd⟩ := x
  obtain ⟨o', e, q⟩ := hk o ho
  exact ⟨_, e, q.trans hd⟩

section
variable {c : Cx} {ρ : Loc} {σ : Sto} {s : Shared}

theorem Sto.set_same (σ : Sto) (a : Nat) (o : Ob) : σ.set a o a = some o := by simp [Sto.set]
theorem Sto.set_other (σ : Sto) {a b : Nat} (o : Ob) (h : b ≠ a) : σ.set a o b = σ b := by simp [Sto.set, h]

theorem EnvR.mono {G : Gd} {env : Env} {h h' : Heap} {σ' : Sto} (x : EnvR G env ρ σ h)
    (hk : ∀ b o, h.get? b = some o → σ b = none → ∃ o', h'.get? b = some o' ∧ o'.data = o.data)
    (hσ : ∀ b o, h.get? b = some o → σ b = none → σ' b = none) : EnvR G env ρ σ' h' := by
  obtain ⟨m, hm, hl⟩ := x.loc
  have hlN := x.locN
  obtain ⟨oL, _, _, hoL, _⟩ := id hm
  refine ⟨x.kind, x.glob, x.blt, ⟨m, ns_slots hm (fun o ho => hk _ _ ho hlN), hl⟩, hσ _ _ hoL hlN, x.locB, fun y hy => ?_, x.inj⟩
  obtain ⟨cc, v, h1, h2, h3, h4, h5⟩ := x.cel y hy
  obtain ⟨oc, hoc, _⟩ := id h2
  exact ⟨cc, v, h1, cell_slots h2 (fun o ho => hk _ _ ho h3), hσ _ _ hoc h3, h4, h5⟩

/-- what changes nothing that is known -/
theorem At.grow (x : At c ρ σ s) {s' : Shared} (hk : ∀ b o, s.heap.get? b = some o → s'.heap.get? b = some o)
    (ho : s'.os = s.os := by rfl) (hg : s'.gens = s.gens := by rfl) : At c ρ σ s' where
  stays := fun b o e => hk _ _ (x.stays b o e)
  os := ho.trans x.os
  gens := hg.trans x.gens
  sto := fun a ob e => let ⟨h1, o, h2, h3⟩ := x.sto a ob e; ⟨h1, o, hk _ _ h2, h3⟩
  env := x.env.mono (fun b o e _ => ⟨o, hk _ _ e, rfl⟩) fun _ _ _ e => e
  frs := x.frs.of_keeps fun b o e _ => ⟨o, hk _ _ e, rfl⟩
  frN := x.frN
  keep := fun b o e h1 h2 => let ⟨o', h3, h4⟩ := x.keep b o e h1 h2; ⟨o', hk _ _ h3, h4⟩
  alive := fun b o e => let ⟨o', h⟩ := x.alive b o e; ⟨o', hk _ _ h⟩
  fresh := x.fresh

theorem At.none_of_fresh (x : At c ρ σ s) {a : Addr} (h : s.heap.get? a = none) : σ a = none := by
  cases e : σ a with
  | none => rfl
  | some ob => obtain ⟨_, o, h2, _⟩ := x.sto a ob e; rw [h] at h2; cases h2
theorem At.size_none (x : At c ρ σ s) : s.heap.get? s.heap.objs.size = none := by
  cases e : s.heap.get? s.heap.objs.size with
  | none => rfl
  | some o => exact absurd (Heap.lt_size e) (Nat.lt_irrefl _)

/-- a new object -/
theorem At.alloc (x : At c ρ σ s) {s' : Shared} {a : Addr} {ob : Ob} {o : Obj} (hn : s.heap.get? a = none)
    (hk : ∀ b o, s.heap.get? b = some o → s'.heap.get? b = some o) (ha : s'.heap.get? a = some o) (hr : ObR c.G ob o)
    (ho : s'.os = s.os := by rfl) (hg : s'.gens = s.gens := by rfl) : At c ρ (σ.set a ob) s' := by
  have hsa := x.none_of_fresh hn
  have hba : c.G.base.get? a = none := by
    cases e : c.G.base.get? a with
    | none => rfl
    | some o' => have := x.stays a o' e; rw [hn] at this; cases this
  have hha : c.h₀.get? a = none := by
    cases e : c.h₀.get? a with
    | none => rfl
    | some o' => obtain ⟨o'', h⟩ := x.alive a o' e; rw [hn] at h; cases h
  have ne : ∀ b o, s.heap.get? b = some o → b ≠ a := fun b o e q => by rw [q, hn] at e; cases e
  refine ⟨fun b o e => hk _ _ (x.stays b o e), ho.trans x.os, hg.trans x.gens, fun b ob' e => ?_, ?_, ?_, fun e he L hL => ?_, fun b o e h1 h2 => ?_, fun b o e => ?_, fun b ob' e => ?_⟩
  · by_cases hb : b = a
    · subst hb; rw [Sto.set_same] at e; cases e; exact ⟨.inl hba, o, ha, hr⟩
    · rw [Sto.set_other _ _ hb] at e
      obtain ⟨h1, o, h2, h3⟩ := x.sto b ob' e; exact ⟨h1, o, hk _ _ h2, h3⟩
  · exact x.env.mono (fun b o e _ => ⟨o, hk _ _ e, rfl⟩) fun b o e h => by rw [Sto.set_other _ _ (ne b o e)]; exact h
  · exact x.frs.of_keeps fun b o e _ => ⟨o, hk _ _ e, rfl⟩
  · obtain ⟨o', ho', _⟩ := (x.frs.mem (List.mem_filterMap.mpr ⟨e, he, hL⟩)).2
    rw [Sto.set_other _ _ (ne L o' ho')]; exact x.frN e he L hL
  · obtain ⟨o', h3, h4⟩ := x.keep b o e h1 h2; exact ⟨o', hk _ _ h3, h4⟩
  · obtain ⟨o', h⟩ := x.alive b o e; exact ⟨o', hk _ _ h⟩
  · by_cases hb : b = a
    · exact Or.inr (by rw [hb]; exact hha)
    · rw [Sto.set_other _ _ hb] at e; exact x.fresh b ob' e

/-- a known object changed -/
theorem At.update (x : At c ρ σ s) {s' : Shared} {a : Addr} {ob ob' : Ob} {o : Obj} (hσ : σ a = some ob)
    (hk : ∀ b o, b ≠ a → s.heap.get? b = some o → s'.heap.get? b = some o) (ha : s'.heap.get? a = some o) (hr : ObR c.G ob' o)
    (ho : s'.os = s.os := by rfl) (hg : s'.gens = s.gens := by rfl) (hnr : ob.isRo = false := by rfl) : At c ρ (σ.set a ob') s' := by
  obtain ⟨hba', oa, hoa, _⟩ := x.sto a ob hσ
  have hba : c.G.base.get? a = none := by
    rcases hba' with h | h
    · exact h
    · rw [hnr] at h; cases h
  have ne : ∀ b, σ b = none → b ≠ a := fun b e q => by rw [q, hσ] at e; cases e
  refine ⟨fun b o e => hk _ _ (fun q => by rw [q, hba] at e; cases e) (x.stays b o e), ho.trans x.os, hg.trans x.gens, fun b ob'' e => ?_, ?_, ?_, fun e he L hL => ?_, fun b o e h1 h2 => ?_, fun b o e => ?_, fun b ob'' e => ?_⟩
  · by_cases hb : b = a
    · subst hb; rw [Sto.set_same] at e; cases e; exact ⟨.inl hba, o, ha, hr⟩
    · rw [Sto.set_other _ _ hb] at e
      obtain ⟨h1, o, h2, h3⟩ := x.sto b ob'' e; exact ⟨h1, o, hk _ _ hb h2, h3⟩
  · exact x.env.mono (fun b o e hn => ⟨o, hk _ _ (ne b hn) e, rfl⟩) fun b o e h => by rw [Sto.set_other _ _ (ne b h)]; exact h
  · have key : ∀ l : List Env, (∀ e ∈ l, ∀ L, e.frame = some L → σ L = none) → s.heap.FunFrames c.G.base l → s'.heap.FunFrames c.G.base l := by
      intro l
      induction l with
      | nil => intro _ _; trivial
      | cons e r ih =>
        rintro hN ⟨h1, ⟨L, oL, h2, h3, h4, h5⟩, h6⟩
        exact ⟨h1, ⟨L, oL, h2, h3, hk _ _ (ne L (hN e List.mem_cons_self L h2)) h4, h5⟩, ih (fun e' he' => hN e' (List.mem_cons_of_mem _ he')) h6⟩
    exact key _ x.frN x.frs
  · have hL' := x.frN e he L hL
    rw [Sto.set_other _ _ (ne L hL')]; exact hL'
  · obtain ⟨o', h3, h4⟩ := x.keep b o e h1 h2
    have hb : b ≠ a := fun q => by
      rcases x.fresh a ob hσ with h | h
      · exact h (q ▸ h1)
      · rw [← q, e] at h; cases h
    exact ⟨o', hk _ _ hb h3, h4⟩
  · obtain ⟨o', h⟩ := x.alive b o e
    by_cases hb : b = a
    · exact ⟨_, by rw [hb]; exact ha⟩
    · exact ⟨o', hk _ _ hb h⟩
  · by_cases hb : b = a
    · subst hb; exact x.fresh b ob hσ
    · rw [Sto.set_other _ _ hb] at e; exact x.fresh b ob'' e

/-- the anchor laid anew -/
noncomputable def Cx.re (c : Cx) (σ : Sto) (h : Heap) : Cx := { c with own := fun _ => False, σ₀ := σ, h₀ := h }
theorem CxOk.re {c : Cx} (x : CxOk c) {ρ : Loc} {σ : Sto} {s : Shared} (y : At c ρ σ s) : CxOk (c.re σ s.heap) := by
  refine ⟨y.stays, fun b hb => ?_, x.frames, x.room, x.units, x.handled⟩
  have hb : s.heap.get? b = none := hb
  refine ((x.old b ?_) : _)
  cases e : c.h₀.get? b with
  | none => rfl
  | some o => obtain ⟨o', h⟩ := y.alive b o e; rw [hb] at h; cases h
theorem At.re (x : At c ρ σ s) : At (c.re σ s.heap) ρ σ s where
  stays := x.stays
  os := x.os
  gens := x.gens
  sto := x.sto
  env := x.env
  frs := x.frs
  frN := x.frN
  keep := fun b o e _ _ => ⟨o, e, .refl o⟩
  alive := fun b o e => ⟨o, e⟩
  fresh := fun b ob e => Or.inl (by rw [show (c.re σ s.heap).σ₀ = σ from rfl, e]; exact Option.some_ne_none _)

/-- back to the elder context -/
theorem At.back (x : At c ρ σ s) {c' : Cx} {ρ' : Loc} {σ' : Sto} {s' : Shared} (y : At c' ρ' σ' s') (hG : c'.G = c.G) (hfr : c'.fr = c.fr) (hh : c'.h₀ = s.heap) (hσ₀ : c'.σ₀ = σ) (ho : ∀ b, ¬ c'.own b) : At c ρ σ' s' := by
  have kp : ∀ b o, s.heap.get? b = some o → σ b = none → ∃ o', s'.heap.get? b = some o' ∧ Same (Fb c b) o o' := fun b o e h => by
    obtain ⟨o', q1, q2⟩ := y.keep b o (hh ▸ e) (hσ₀ ▸ h) (ho b)
    exact ⟨o', q1, q2.mono fun ⟨e', h1, h2⟩ => ⟨e', hfr ▸ h1, h2⟩⟩
  have fr : ∀ b o, s.heap.get? b = some o → σ b = none → σ' b = none := fun b o e h => by
    cases q : σ' b with
    | none => rfl
    | some ob =>
      rcases y.fresh b ob q with h1 | h1
      · rw [hσ₀] at h1; exact absurd h h1
      · rw [hh, e] at h1; cases h1
  refine ⟨hG ▸ y.stays, hG ▸ y.os, hG ▸ y.gens, hG ▸ y.sto, x.env.mono (fun b o e h => let ⟨o', q1, q2⟩ := kp b o e h; ⟨o', q1, q2.data⟩) fr, hG ▸ hfr ▸ y.frs, hfr ▸ y.frN, fun b o e h1 h2 => ?_, fun b o e => ?_, fun b ob e => ?_⟩
  · obtain ⟨o', h3, h4⟩ := x.keep b o e h1 h2
    have hσ : σ b = none := by
      cases q : σ b with
      | none => rfl
      | some ob => rcases x.fresh b ob q with h | h
                   · exact absurd h1 h
                   · rw [e] at h; cases h
    obtain ⟨o'', h5, h6⟩ := kp b o' h3 hσ
    exact ⟨o'', h5, h4.trans h6⟩
  · obtain ⟨o', h⟩ := x.alive b o e; exact y.alive b o' (hh ▸ h)
  · rcases y.fresh b ob e with h | h
    · rw [hσ₀] at h
      cases q : σ b with
      | none => exact absurd q h
      | some ob' => exact x.fresh b ob' q
    · rw [hh] at h
      cases q : c.h₀.get? b with
      | none => exact Or.inr rfl
      | some o => obtain ⟨o', h'⟩ := x.alive b o q
                  rw [h] at h'; cases h'

/-- what the context does not know may change -/
theorem At.priv (x : At c ρ σ s) (hc : CxOk c) {s' : Shared} {b : Addr} (hb : c.h₀.get? b = none) (hσ : σ b = none)
    (hk : ∀ b' o, b' ≠ b → s.heap.get? b' = some o → s'.heap.get? b' = some o) (ho : s'.os = s.os := by rfl) (hg : s'.gens = s.gens := by rfl) : At c ρ σ s' := by
  obtain ⟨n1, n2, n3⟩ := hc.old b hb
  have nb : ∀ b' o, c.G.base.get? b' = some o → b' ≠ b := fun b' o e q => by have := hc.baseIn b' o e; rw [q, hb] at this; cases this
  have ns : ∀ b' ob, σ b' = some ob → b' ≠ b := fun b' ob e q => by rw [q, hσ] at e; cases e
  refine ⟨fun b' o e => hk _ _ (nb b' o e) (x.stays b' o e), ho.trans x.os, hg.trans x.gens, fun a ob e => ?_, ?_, ?_, x.frN, fun b' o e h1 h2 => ?_, fun b' o e => ?_, x.fresh⟩
  · obtain ⟨h1, o, h2, h3⟩ := x.sto a ob e; exact ⟨h1, o, hk _ _ (ns a ob e) h2, h3⟩
  · obtain ⟨m, hm, hl⟩ := x.env.loc
    refine ⟨x.env.kind, x.env.glob, x.env.blt, ⟨m, ns_slots hm (fun o e => ⟨o, hk _ _ (Ne.symm n1) e, rfl⟩), hl⟩, x.env.locN, x.env.locB, fun y hy => ?_, x.env.inj⟩
    obtain ⟨cc, v, h1, h2, h3, h4, h5⟩ := x.env.cel y hy
    exact ⟨cc, v, h1, cell_slots h2 (fun o e => ⟨o, hk _ _ (fun q : cc = b => n2 y (by rw [← q]; exact h1)) e, rfl⟩), h3, h4, h5⟩
  · have key : ∀ l : List Env, (∀ e ∈ l, e.frame ≠ some b) → s.heap.FunFrames c.G.base l → s'.heap.FunFrames c.G.base l := by
      intro l
      induction l with
      | nil => intro _ _; trivial
      | cons e r ih =>
        rintro hN ⟨h1, ⟨L, oL, h2, h3, h4, h5⟩, h6⟩
        exact ⟨h1, ⟨L, oL, h2, h3, hk _ _ (fun q : L = b => hN e List.mem_cons_self (by rw [← q]; exact h2)) h4, h5⟩, ih (fun e' he' => hN e' (List.mem_cons_of_mem _ he')) h6⟩
    exact key _ n3 x.frs
  · obtain ⟨o', h3, h4⟩ := x.keep b' o e h1 h2
    exact ⟨o', hk _ _ (fun q => by rw [q, hb] at e; cases e) h3, h4⟩
  · obtain ⟨o', h⟩ := x.alive b' o e
    exact ⟨o', hk _ _ (fun q => by rw [q, hb] at e; cases e) h⟩

/-- an object of one's own becomes known -/
theorem At.publish (x : At c ρ σ s) (hc : CxOk c) {b : Addr} {ob : Ob} {o : Obj} (hb : c.h₀.get? b = none) (ho : s.heap.get? b = some o) (hr : ObR c.G ob o) : At c ρ (σ.set b ob) s := by
  obtain ⟨n1, n2, n3⟩ := hc.old b hb
  have nb : c.G.base.get? b = none := by
    cases e : c.G.base.get? b with
    | none => rfl
    | some o' => have := hc.baseIn b o' e; rw [hb] at this; cases this
  refine ⟨x.stays, x.os, x.gens, fun a ob' e => ?_, ?_, x.frs, fun e he L hL => ?_, x.keep, x.alive, fun a ob' e => ?_⟩
  · by_cases q : a = b
    · subst q; rw [Sto.set_same] at e; cases e; exact ⟨.inl nb, o, ho, hr⟩
    · rw [Sto.set_other _ _ q] at e; exact x.sto a ob' e
  · refine ⟨x.env.kind, x.env.glob, x.env.blt, x.env.loc, ?_, x.env.locB, fun y hy => ?_, x.env.inj⟩
    · rw [Sto.set_other _ _ (Ne.symm n1)]; exact x.env.locN
    · obtain ⟨cc, v, h1, h2, h3, h4, h5⟩ := x.env.cel y hy
      exact ⟨cc, v, h1, h2, by rw [Sto.set_other _ _ (fun q : cc = b => n2 y (by rw [← q]; exact h1))]; exact h3, h4, h5⟩
  · rw [Sto.set_other _ _ (fun q : L = b => n3 e he (by rw [← q]; exact hL))]; exact x.frN e he L hL
  · by_cases q : a = b
    · exact .inr (by rw [q]; exact hb)
    · rw [Sto.set_other _ _ q] at e; exact x.fresh a ob' e

/-- frames' slots laid, and things of one's own changed -/
theorem At.slots (x : At c ρ σ s) (hc : CxOk c) {X : Addr → Prop} {s' : Shared} (hX : ∀ b, X b → c.h₀.get? b = none ∧ σ b = none)
    (hk1 : ∀ b o, s.heap.get? b = some o → ¬ X b → ¬ Fb c b → s'.heap.get? b = some o) (hk2 : ∀ b o, Fb c b → s.heap.get? b = some o → ∃ sl, s'.heap.get? b = some { o with slots := sl })
    (ho : s'.os = s.os := by rfl) (hg : s'.gens = s.gens := by rfl) : At c ρ σ s' := by
  have fbN : ∀ b, Fb c b → σ b = none := fun b ⟨e, h1, h2⟩ => x.frN e h1 b h2
  have fbB : ∀ b, Fb c b → c.G.base.get? b = none := fun b ⟨e, h1, h2⟩ => (x.frs.mem (List.mem_filterMap.mpr ⟨e, h1, h2⟩)).1
  have fbX : ∀ b, Fb c b → ¬ X b := fun b ⟨e, h1, h2⟩ q => (hc.old b (hX b q).1).2.2 e h1 h2
  have any : ∀ b o, s.heap.get? b = some o → ¬ X b → ∃ o', s'.heap.get? b = some o' ∧ Same (Fb c b) o o' := fun b o e h => by
    by_cases q : Fb c b
    · obtain ⟨sl, h'⟩ := hk2 b o q e; exact ⟨_, h', .inr ⟨q, sl, rfl⟩⟩
    · exact ⟨o, hk1 b o e h q, .inl rfl⟩
  have nX : ∀ b o, c.h₀.get? b = some o → ¬ X b := fun b o e q => by rw [(hX b q).1] at e; cases e
  refine ⟨fun b o e => ?_, ho.trans x.os, hg.trans x.gens, fun a ob e => ?_, ?_, ?_, x.frN, fun b o e h1 h2 => ?_, fun b o e => ?_, x.fresh⟩
  · refine hk1 b o (x.stays b o e) (nX b o (hc.baseIn b o e)) fun q => ?_
    rw [fbB b q] at e; cases e
  · obtain ⟨h1, o, h2, h3⟩ := x.sto a ob e
    refine ⟨h1, o, hk1 a o h2 (fun q => ?_) (fun q => ?_), h3⟩
    · rw [(hX a q).2] at e; cases e
    · rw [fbN a q] at e; cases e
  · obtain ⟨m, hm, hl⟩ := x.env.loc
    refine ⟨x.env.kind, x.env.glob, x.env.blt, ⟨m, ns_slots hm (fun o e => ?_), hl⟩, x.env.locN, x.env.locB, fun y hy => ?_, x.env.inj⟩
    · obtain ⟨o', q1, q2⟩ := any _ o e fun q => (hc.old _ (hX _ q).1).1 rfl
      exact ⟨o', q1, q2.data⟩
    · obtain ⟨cc, v, h1, h2, h3, h4, h5⟩ := x.env.cel y hy
      refine ⟨cc, v, h1, cell_slots h2 (fun o e => ?_), h3, h4, h5⟩
      obtain ⟨o', q1, q2⟩ := any _ o e fun q => (hc.old _ (hX _ q).1).2.1 y h1
      exact ⟨o', q1, q2.data⟩
  · have key : ∀ l : List Env, (∀ e ∈ l, ∀ L, e.frame = some L → Fb c L) → s.heap.FunFrames c.G.base l → s'.heap.FunFrames c.G.base l := by
      intro l
      induction l with
      | nil => intro _ _; trivial
      | cons e r ih =>
        rintro hN ⟨h1, ⟨L, oL, h2, h3, h4, h5⟩, h6⟩
        obtain ⟨sl, q⟩ := hk2 L oL (hN e List.mem_cons_self L h2) h4
        exact ⟨h1, ⟨L, _, h2, h3, q, h5⟩, ih (fun e' he' => hN e' (List.mem_cons_of_mem _ he')) h6⟩
    exact key _ (fun e he L hL => ⟨e, he, hL⟩) x.frs
  · obtain ⟨o', h3, h4⟩ := x.keep b o e h1 h2
    obtain ⟨o'', h5, h6⟩ := any b o' h3 (nX b o e)
    exact ⟨o'', h5, h4.trans h6⟩
  · obtain ⟨o', h⟩ := x.alive b o e
    obtain ⟨o'', h5, _⟩ := any b o' h (nX b o e)
    exact ⟨o'', h5⟩
end
end BP

/-! ## GSnd1 -/
set_option linter.unusedVariables false
namespace BP
open PySem

/-- an exception under way -/
noncomputable def ExcAt (c : Cx) (e : Value) (cl : String) (σ : Sto) (h : Heap) : Prop :=
  ∃ ea C oe vs a0, e = .ref ea ∧ c.G.exc cl = some C ∧ h.get? ea = some oe ∧ oe.cls = .ref C ∧ oe.data = .fields vs ∧ vs[0]? = some a0 ∧ σ ea = none ∧ c.h₀.get? ea = none ∧
    (vs[1]? = some .none ∨ ∃ T oT ts fl, vs[1]? = some (.ref T) ∧ T ≠ ea ∧ h.get? T = some oT ∧ oT.data = .fields ts ∧ ts[3]? = some fl ∧ (fl = .none ∨ ∃ L, c.env.frame = some L ∧ fl = rawInt L) ∧ σ T = none ∧ c.h₀.get? T = none)
noncomputable def Good (c : Cx) (ρ : Loc) (Q : KV) : Value → Shared → Prop := fun v s' => ∃ V σ', vval v = some V ∧ At c ρ σ' s' ∧ Q V σ'
noncomputable def GoodL (c : Cx) (ρ : Loc) (Q : List Val → Sto → Prop) : List Value → Shared → Prop := fun vs s' => ∃ Vs σ', VsR vs Vs ∧ At c ρ σ' s' ∧ Q Vs σ'
noncomputable def GoodB (c : Cx) (ρ : Loc) (K : Bool → Sto → Prop) : Bool → Shared → Prop := fun b s' => ∃ σ', At c ρ σ' s' ∧ K b σ'
noncomputable def Bad (c : Cx) (ρ : Loc) (E : KE) : Value → Shared → Prop := fun e s' => ∃ cl σ', At c ρ σ' s' ∧ ExcAt c e cl σ' s'.heap ∧ E cl σ'

noncomputable def WF (G : Gd) (d : Nat) : CallW := fun hd f vs σ Q E =>
  ∀ (c : Cx) (ρ : Loc) (s : Shared) (vals : List Value) (fv : Value), c.G = G → c.d = d → c.hd = hd → CxOk c → At c ρ σ s → VsR vals vs → G.mg (Str.ofString f) = some fv →
    wpAny (model G.prog G.w) c.A (PySem.call fv vals) (Good c ρ Q) (Bad c ρ E) s

noncomputable def SndE (ex : Ex) : Prop := ∀ (c : Cx) (ρ : Loc) (σ : Sto) (s : Shared) (Q : KV) (E : KE) (e : PySem.Expr), CxOk c → At c ρ σ s → mE c.env.scope.names ex e = true →
  wpE (WF c.G c.d) c.G.gv c.hd ex ρ σ Q E → wpAny (model c.G.prog c.G.w) c.A (eval e c.env) (Good c ρ Q) (Bad c ρ E) s
noncomputable def SndT (ex : Ex) : Prop := ∀ (c : Cx) (ρ : Loc) (σ : Sto) (s : Shared) (K : Bool → Sto → Prop) (E : KE) (e : PySem.Expr), CxOk c → At c ρ σ s → mE c.env.scope.names ex e = true →
  wpE (WF c.G c.d) c.G.gv c.hd ex ρ σ (fun v σ' => truthyW σ' v fun b => K b σ') E → wpAny (model c.G.prog c.G.w) c.A (isTrue e c.env (eval e c.env)) (GoodB c ρ K) (Bad c ρ E) s
noncomputable def SndEs (es : List Ex) : Prop := ∀ (c : Cx) (ρ : Loc) (σ : Sto) (s : Shared) (Q : List Val → Sto → Prop) (E : KE) (es' : List PySem.Expr) (pos : Pos), CxOk c → At c ρ σ s → mEs c.env.scope.names es es' = true →
  wpEs (WF c.G c.d) c.G.gv c.hd es ρ σ Q E → wpAny (model c.G.prog c.G.w) c.A (spliced (backTo pos (starEach es' c.env))) (GoodL c ρ Q) (Bad c ρ E) s

section
variable {c : Cx} {ρ : Loc} {σ : Sto} {s : Shared} {Q : KV} {E : Value → Shared → Prop}

theorem At.tok (x : At c ρ σ s) (n : Nat) : At c ρ σ { s with toks := n } := x.grow (fun _ _ e => e)

theorem good_int (x : At c ρ σ s) {i : Int} {t n : Nat} (h : Q (.int i) σ) : Good c ρ Q (.int i t) { s with toks := n } := ⟨_, σ, rfl, x.tok n, h⟩
theorem good_val (x : At c ρ σ s) {v : Value} {V : Val} (hv : vval v = some V) (h : Q V σ) : Good c ρ Q v s := ⟨V, σ, hv, x, h⟩

theorem vval_int {v : Value} {i : Int} (h : vval v = some (.int i)) : ∃ t, v = .int i t := by cases v <;> simp [vval] at h; subst h; exact ⟨_, rfl⟩
theorem vval_str {v : Value} {x : Str} (h : vval v = some (.str x)) : strOk x = true ∧ ∃ t, v = .str x t := by
  cases v <;> simp [vval] at h
  obtain ⟨h1, rfl⟩ := h
  exact ⟨h1, _, rfl⟩
theorem strOk_ofString (x : String) : strOk (Str.ofString x) = true := by
  rw [Str.ofString_eq_toList]
  simp only [strOk, List.all_map, List.all_eq_true, Function.comp, decide_eq_true_eq]
  intro c _
  have := c.valid
  simp only [Char.toNat, UInt32.isValidChar, Nat.isValidChar] at *
  omega
theorem vval_bool {v : Value} {b : Bool} (h : vval v = some (.bool b)) : v = .bool b := by cases v <;> simp [vval] at h; subst h; rfl
theorem vval_none {v : Value} (h : vval v = some .none) : v = .none := by cases v <;> simp [vval] at h; rfl
theorem vval_ref {v : Value} {a : Nat} (h : vval v = some (.ref a)) : v = .ref a := by cases v <;> simp [vval] at h; subst h; rfl
end

/-! ### constants and names -/
theorem snd_none : SndE .none_ := by
  intro c ρ σ s Q E e hc ha hm hw
  refine Classical.byContradiction fun hG => ?_
  obtain ⟨y0, hy⟩ : ∃ y, y = e := ⟨e, rfl⟩
  rw [← hy] at hm
  cases y0 <;> try exact Bool.noConfusion hm
  rename_i k _ _
  cases k <;> try exact Bool.noConfusion hm
  subst hy
  refine hG ?_
  clear hG
  exact wpAny_pure (good_val ha rfl hw)
theorem snd_bool (b : Bool) : SndE (.bool_ b) := by
  intro c ρ σ s Q E e hc ha hm hw
  refine Classical.byContradiction fun hG => ?_
  obtain ⟨y0, hy⟩ : ∃ y, y = e := ⟨e, rfl⟩
  rw [← hy] at hm
  cases y0 <;> try exact Bool.noConfusion hm
  rename_i k _ _
  cases k <;> try exact Bool.noConfusion hm
  cases beq_iff_eq.mp hm
  subst hy
  refine hG ?_
  clear hG
  exact wpAny_pure (good_val ha rfl hw)
theorem snd_int (i : Int) : SndE (.int_ i) := by
  intro c ρ σ s Q E e hc ha hm hw
  refine Classical.byContradiction fun hG => ?_
  obtain ⟨y0, hy⟩ : ∃ y, y = e := ⟨e, rfl⟩
  rw [← hy] at hm
  cases y0 <;> try exact Bool.noConfusion hm
  rename_i k _ _
  cases k <;> try exact Bool.noConfusion hm
  cases beq_iff_eq.mp hm
  subst hy
  refine hG ?_
  clear hG
  exact wpAny_Constant_int (good_int ha hw)
theorem snd_str (x : String) : SndE (.str_ x) := by
  intro c ρ σ s Q E e hc ha hm hw
  refine Classical.byContradiction fun hG => ?_
  obtain ⟨y0, hy⟩ : ∃ y, y = e := ⟨e, rfl⟩
  rw [← hy] at hm
  cases y0 <;> try exact Bool.noConfusion hm
  rename_i k _ _
  cases k <;> try exact Bool.noConfusion hm
  cases beq_iff_eq.mp hm
  subst hy
  refine hG ?_
  clear hG
  show wpAny _ _ (mkText _) _ _ _
  exact fun _ _ _ => ⟨_, σ, by simp [vval, strOk_ofString], ha.tok _, hw⟩

theorem snd_var (x : String) : SndE (.var x) := by
  intro c ρ σ s Q E e hc ha hm hw
  cases e <;> try exact Bool.noConfusion hm
  rename_i y pos
  obtain ⟨h00, hv⟩ := and2 hm
  cases beq_iff_eq.mp h00
  simp only [Bool.and_eq_true, beq_iff_eq, isVar, bne_iff_ne, ne_eq, Bool.or_eq_true] at hv
  obtain ⟨⟨h0, hd⟩, hk⟩ := hv
  simp only [wpE] at hw
  cases hx : ρ x with
  | none => rw [hx] at hw; exact hw.elim
  | some V =>
    rw [hx] at hw
    refine wpAny_Name ?_ (by simpa using hd)
    rcases hk with hk | hk
    · refine Classical.byContradiction fun hG => ?_
      obtain ⟨m, hn, hl⟩ := ha.env.loc
      obtain ⟨v, h1, h2⟩ := hl x V h0 hk hx
      refine hG ?_
      clear hG
      exact wpAny_loadName_local ha.env.kind hk hn h1 (good_val ha h2 hw)
    · refine Classical.byContradiction fun hG => ?_
      obtain ⟨cc, v, h1, h2, _, _, h5⟩ := ha.env.cel _ hk
      obtain ⟨v', rfl, h6⟩ := h5 x V rfl hx
      refine hG ?_
      clear hG
      exact wpAny_loadName_cell ha.env.kind hk h1 h2 (good_val ha h6 hw)

theorem ns_at (x : At c ρ σ s) {a : Addr} {m : Str → Option Value} (h : c.G.base.Ns a m) : s.heap.Ns a m := h.keeps x.stays

theorem load_glob {c : Cx} {ρ : Loc} {σ : Sto} {s : Shared} (ha : At c ρ σ s) {x : Str} {pos : Pos} {v : Value} {Q E} (hk : isGlob c.env.scope.names x = true) (hv : c.G.mg x = some v) (h : Q v s) :
    wpAny (model c.G.prog c.G.w) c.A (eval (.Name x pos) c.env) Q E s := by
  simp only [isGlob, Bool.and_eq_true, bne_iff_ne, ne_eq, beq_iff_eq] at hk
  refine Calls.Name_function_global ha.env.kind hk.2 (Calls.loadGlobal_global (mg := c.G.mg) ?_ hv h) (by simpa using hk.1)
  rw [ha.env.glob]; exact ns_at ha c.G.g
theorem load_blt {c : Cx} {ρ : Loc} {σ : Sto} {s : Shared} (ha : At c ρ σ s) {x : Str} {pos : Pos} {v : Value} {Q E} (hk : isGlob c.env.scope.names x = true) (hn : c.G.mg x = none) (hx : x ≠ "__name__") (hv : bootBuiltins x = some v) (h : Q v s) :
    wpAny (model c.G.prog c.G.w) c.A (eval (.Name x pos) c.env) Q E s := by
  simp only [isGlob, Bool.and_eq_true, bne_iff_ne, ne_eq, beq_iff_eq] at hk
  refine Calls.Name_function_global ha.env.kind hk.2 (Calls.loadGlobal_builtin (mg := c.G.mg) (mb := c.G.mb) ?_ hn ?_ ((c.G.bi x hx).trans hv) h) (by simpa using hk.1)
  · rw [ha.env.glob]; exact ns_at ha c.G.g
  · rw [ha.env.blt]; exact ns_at ha c.G.b

theorem snd_glob (x : String) : SndE (.glob x) := by
  intro c ρ σ s Q E e hc ha hm hw
  cases e <;> try exact Bool.noConfusion hm
  rename_i y pos
  obtain ⟨h0, hk⟩ := and2 hm
  cases beq_iff_eq.mp h0
  simp only [wpE, Gd.gv] at hw
  cases hx : c.G.mg (Str.ofString x) with
  | none => rw [hx] at hw; exact hw.elim
  | some v =>
    rw [hx] at hw
    cases hv : vval v with
    | none => simp [hv] at hw
    | some V => simp only [Option.bind_some, hv] at hw; exact load_glob ha hk hx (good_val ha hv hw)

/-! ### the shapes -/
theorem snd_bin {op : OpB} {l r : Ex} (hl : SndE l) (hr : SndE r)
    (hop : ∀ (c : Cx) (ρ : Loc) (σ : Sto) (s : Shared) (a b : Value) (V W : Val) (Q : KV) (E : Value → Shared → Prop), CxOk c → At c ρ σ s → vval a = some V → vval b = some W → binW op V W σ Q →
      wpAny (model c.G.prog c.G.w) c.A (binaryOp op.py a b) (Good c ρ Q) E s) : SndE (.bin op l r) := by
  intro c ρ σ s Q E e hc ha hm hw
  cases e <;> try exact Bool.noConfusion hm
  obtain ⟨⟨h0, hm1⟩, hm2⟩ := and3 hm
  cases of_decide_eq_true h0
  simp only [wpE] at hw
  refine wpAny_BinOp (wpAny_mono (hl c ρ σ s _ E _ hc ha hm1 hw) ?_ fun _ _ h => h)
  intro a s₁ H9 
  refine Classical.byContradiction fun hG => ?_
  obtain ⟨V, σ₁, hV, ha₁, hw₁⟩ := H9
  refine hG ?_
  clear hG
  refine wpAny_mono (hr c ρ σ₁ s₁ _ E _ hc ha₁ hm2 hw₁) ?_ fun _ _ h => h
  intro b s₂ H9 
  refine Classical.byContradiction fun hG => ?_
  obtain ⟨W, σ₂, hW, ha₂, hw₂⟩ := H9
  refine hG ?_
  clear hG
  exact hop c ρ σ₂ s₂ a b V W Q _ hc ha₂ hV hW hw₂

theorem sndEs_nil : SndEs [] := by
  intro c ρ σ s Q E es' pos hc ha hm hw
  cases es' <;> try exact Bool.noConfusion hm
  simp only [wpEs] at hw
  exact wpAny_pure ⟨[], σ, rfl, ha, hw⟩

theorem starEach_plain {nm : Nms} {ex : Ex} {e : PySem.Expr} (h : mE nm ex e = true) (r : List PySem.Expr) (env : Env) : starEach (e :: r) env = (false, eval e env) :: starEach r env := by
  cases e <;> first | rfl | (exfalso; cases ex <;> exact Bool.noConfusion h)

theorem sndEs_cons {e : Ex} {es : List Ex} (h1 : SndE e) (h2 : SndEs es) : SndEs (e :: es) := by
  intro c ρ σ s Q E es' pos hc ha hm hw
  cases es' with
  | nil => first | exact Bool.noConfusion hm | exact Bool.noConfusion (and2 hm).2
  | cons e' r =>
    replace hm := and2 hm
    simp only [wpEs] at hw
    rw [starEach_plain hm.1]
    show wpAny _ _ (spliced ((false, eval e' c.env) :: backTo pos (starEach r c.env))) _ _ _
    simp only [spliced]
    refine wpAny_bind (wpAny_mono (h1 c ρ σ s _ E _ hc ha hm.1 hw) ?_ fun _ _ h => h)
    intro v s₁ H9 
    refine Classical.byContradiction fun hG => ?_
    obtain ⟨V, σ₁, hV, ha₁, hw₁⟩ := H9
    refine hG ?_
    clear hG
    refine wpAny_bind (wpAny_pure ?_)
    refine wpAny_bind (wpAny_holding (wpAny_mono (h2 c ρ σ₁ s₁ _ E _ pos hc ha₁ hm.2 hw₁) ?_ fun _ _ h => h))
    intro vs s₂ H9 
    refine Classical.byContradiction fun hG => ?_
    obtain ⟨Vs, σ₂, hVs, ha₂, hw₂⟩ := H9
    refine hG ?_
    clear hG
    exact wpAny_pure ⟨V :: Vs, σ₂, by simp only [VsR, List.map_cons, List.singleton_append, hV] at hVs ⊢; rw [hVs], ha₂, hw₂⟩

theorem starEach_len (nm : Nms) : ∀ (es : List Ex) (es' : List PySem.Expr) (env : Env), mEs nm es es' = true → (starEach es' env).any (·.1) = false ∧ es'.length = es.length
  | [], [], _, _ => ⟨rfl, rfl⟩
  | e :: es, e' :: es', env, h => by
    replace h := and2 h
    rw [starEach_plain h.1]
    have := starEach_len nm es es' env h.2
    simp [this.1, this.2]
  | [], _ :: _, _, h => by first | exact Bool.noConfusion h | exact Bool.noConfusion (and2 h).2
  | _ :: _, [], _, h => by first | exact Bool.noConfusion h | exact Bool.noConfusion (and2 h).2
theorem backTo_any (pos : Pos) (l : List (Bool × Sem Value)) : (backTo pos l).any (·.1) = l.any (·.1) := by
  simp only [backTo, List.any_map]; rfl

theorem evalArgs_any {M : Model} {A : Around} {E : Value → Shared → Prop} {s : Shared} {f : Value} {args : List (Bool × Sem Value)} {Q : Args → Shared → Prop} (hp : args.any (·.1) = false)
    (h : wpAny M A (spliced args) (fun vs s' => Q ⟨vs, []⟩ s') E s) : wpAny M A (evalArgs f true args []) Q E s := by
  cases args with
  | nil =>
    unfold evalArgs
    show wpAny M A (spliced [] >>= _) Q E s
    refine wpAny_bind (wpAny_mono h (fun vs s' h' => wpAny_holding ?_) fun _ _ x => x)
    exact wpAny_bind (wpAny_pure (wpAny_bind (wpAny_pure (wpAny_pure h'))))
  | cons a r =>
    obtain ⟨st, x⟩ := a
    have : st = false := by simp at hp; exact hp.1
    subst this
    exact Calls.evalArgs_plain h

theorem callWith_any {M : Model} {A : Around} {E : Value → Shared → Prop} {s : Shared} {G : Gd} {pos : Pos} {fv : Value} {args : List (Bool × Sem Value)} {Q : Value → Shared → Prop}
    (hcal : ∀ (M : Model) (A : Around) (s : Shared) (Q : Keeper → Shared → Prop) (E : Value → Shared → Prop), G.base.StaysIn s.heap → (∀ k, k = .frame ∨ k = .machine → Q k s) → wpAny M A (keeperOf fv) Q E s) (hp : args.any (·.1) = false) (h : wpAny M A (spliced args) (fun vs s₁ => G.base.StaysIn s₁.heap ∧ wpAny M A (PySem.call fv vs) Q E s₁) E s) :
    wpAny M A (callWith pos fv [] args []) Q E s := by
  unfold callWith
  refine wpAny_bind (wpAny_holding (evalArgs_any hp (wpAny_mono h (fun vs s₁ h₁ => wpAny_bind (wpAny_standAt ?_)) fun _ _ x => x)))
  have tail : ∀ {t : Sem Value}, wpAny M A t Q E s₁ → wpAny M A (t >>= fun r => holding [r] point >>= fun _ => pure r) Q E s₁ := fun ht =>
    wpAny_bind (wpAny_mono ht (fun r s₂ hr => wpAny_bind (wpAny_holding (wpAny_point (wpAny_pure hr)))) fun _ _ x => x)
  simp only [hp, List.any_nil, Bool.or_false]
  refine wpAny_bind (hcal M A s₁ _ _ h₁.1 fun k hk => ?_)
  rcases hk with rfl | rfl
  · dsimp only
    split
    · exact tail h₁.2
    · exact tail (Calls.wpAny_keep h₁.2)
  · exact tail h₁.2

theorem snd_call {f : String} {as : List Ex} (h1 : SndEs as) : SndE (.call f as) := by
  intro c ρ σ s Q E e hc ha hm hw
  refine Classical.byContradiction fun hG => ?_
  obtain ⟨y0, hy⟩ : ∃ y, y = e := ⟨e, rfl⟩
  rw [← hy] at hm
  cases y0 <;> try exact Bool.noConfusion hm
  rename_i fe as' kw pos
  cases fe <;> try exact Bool.noConfusion hm
  cases kw <;> try exact Bool.noConfusion hm
  obtain ⟨⟨⟨h0, hg⟩, hma⟩, hlen⟩ := and4 hm
  replace hlen := of_decide_eq_true hlen
  cases beq_iff_eq.mp h0
  subst hy
  refine hG ?_
  clear hG
  simp only [wpE] at hw
  refine Classical.byContradiction fun hG => ?_
  obtain ⟨hs, hw⟩ := hw
  obtain ⟨fv, hv, hcal⟩ := c.G.callee f (by simpa [Gd.gv] using hs)
  refine hG ?_
  clear hG
  show wpAny _ _ (do callWith pos (← eval (.Name (Str.ofString f) _) c.env) [] (backTo pos (starEach as' c.env)) []) _ _ _
  refine wpAny_bind (load_glob ha hg hv ?_)
  refine callWith_any hcal (by rw [backTo_any]; exact (starEach_len _ _ _ c.env hma).1) (wpAny_mono (h1 c ρ σ s _ E _ pos hc ha hma hw) ?_ fun _ _ h => h)
  intro vals s₁ H9 
  refine Classical.byContradiction fun hG => ?_
  obtain ⟨vs, σ₁, hvs, ha₁, h4⟩ := H9
  refine hG ?_
  clear hG
  exact ⟨ha₁.stays, h4 c ρ s₁ vals fv rfl rfl rfl hc ha₁ hvs hv⟩
end BP

/-! ## GSnd2 -/
set_option linter.unusedVariables false
namespace BP
open PySem PyProof.Rows

/-! ### what is read of data -/
mutual
noncomputable def toPy : Dat → PyData
  | .none => .none
  | .bool b => .bool b
  | .int i => .int i
  | .str s => .str s
  | .list ds => .list (toPys ds)
  | .tup ds => .tuple (toPys ds)
noncomputable def toPys : List Dat → List PyData
  | [] => []
  | d :: ds => toPy d :: toPys ds
end
mutual
theorem eqv_toPy : ∀ d e : Dat, PyData.eqv (toPy d) (toPy e) = pyEq d e
  | .none, e => by cases e <;> rfl
  | .bool _, e => by cases e <;> rfl
  | .int _, e => by cases e <;> rfl
  | .str _, e => by cases e <;> rfl
  | .list ds, .list es => by simp only [toPy, PyData.eqv, pyEq]; exact eqvAll_toPys ds es
  | .tup ds, .tup es => by simp only [toPy, PyData.eqv, pyEq]; exact eqvAll_toPys ds es
  | .list _, .none => rfl
  | .list _, .bool _ => rfl
  | .list _, .int _ => rfl
  | .list _, .str _ => rfl
  | .list _, .tup _ => rfl
  | .tup _, .none => rfl
  | .tup _, .bool _ => rfl
  | .tup _, .int _ => rfl
  | .tup _, .str _ => rfl
  | .tup _, .list _ => rfl
theorem eqvAll_toPys : ∀ ds es : List Dat, PyData.eqvAll (toPys ds) (toPys es) = pyEqL ds es
  | [], [] => rfl
  | [], _ :: _ => rfl
  | _ :: _, [] => rfl
  | d :: ds, e :: es => by simp only [toPys, PyData.eqvAll, pyEqL, eqv_toPy d e, eqvAll_toPys ds es]
end

theorem strOk_py {x : Str} (h : strOk x = true) : PyData.strOk x = true := by
  simp only [PyData.strOk, strOk] at *
  rw [← Array.all_toList]; exact h

theorem depthAll_le {n : Nat} : ∀ ds : List Dat, (∀ d ∈ ds, (toPy d).depth ≤ n) → PyData.depthAll (toPys ds) ≤ n
  | [], _ => Nat.zero_le _
  | d :: ds, h => by
    have h1 := h d (.head _)
    have h2 := depthAll_le ds fun e he => h e (.tail _ he)
    simp only [toPys, PyData.depthAll]; omega
theorem depth_le : ∀ (n : Nat) (d : Dat), dOk n d = true → (toPy d).depth ≤ n + 1
  | _, .none, _ => by simp [toPy, PyData.depth]
  | _, .bool _, _ => by simp [toPy, PyData.depth]
  | _, .int _, _ => by simp [toPy, PyData.depth]
  | _, .str _, _ => by simp [toPy, PyData.depth]
  | 0, .list _, h => by simp [dOk] at h
  | 0, .tup _, h => by simp [dOk] at h
  | n + 1, .list ds, h => by
    have := depthAll_le (n := n + 1) ds fun e he => depth_le n e (List.all_eq_true.mp (by simpa [dOk] using h) e he)
    simp only [toPy, PyData.depth]; omega
  | n + 1, .tup ds, h => by
    have := depthAll_le (n := n + 1) ds fun e he => depth_le n e (List.all_eq_true.mp (by simpa [dOk] using h) e he)
    simp only [toPy, PyData.depth]; omega

section
variable {c : Cx} {ρ : Loc} {σ : Sto} {s : Shared} {Q : KV} {E : Value → Shared → Prop}

theorem VsR.cons {v : Value} {vs : List Value} {x : Val} {xs : List Val} : VsR (v :: vs) (x :: xs) ↔ vval v = some x ∧ VsR vs xs := by simp [VsR]
theorem VsR.len {vs : List Value} {xs : List Val} (h : VsR vs xs) : vs.length = xs.length := by have := congrArg List.length h; simpa using this
theorem VsR.nil_left {xs : List Val} (h : VsR [] xs) : xs = [] := by cases xs <;> simp [VsR] at h; rfl
theorem VsR.nil_right {vs : List Value} (h : VsR vs []) : vs = [] := by cases vs <;> simp [VsR] at h; rfl
theorem VsR.append {vs ws : List Value} {xs ys : List Val} (h : VsR vs xs) (h' : VsR ws ys) : VsR (vs ++ ws) (xs ++ ys) := by simp only [VsR, List.map_append] at *; rw [h, h']
theorem VsR.get {vs : List Value} {xs : List Val} (h : VsR vs xs) (i : Nat) : (vs[i]?).bind vval = xs[i]? ∧ (vs[i]? = none ↔ xs[i]? = none) := by
  have := congrArg (fun l : List (Option Val) => l[i]?) h
  simp only [List.getElem?_map] at this
  cases h1 : vs[i]? <;> cases h2 : xs[i]? <;> simp_all

theorem At.list (x : At c ρ σ s) {a : Nat} {xs : List Val} (h : σ a = some (.list xs)) : ∃ vs n, s.heap.get? a = some ⟨.type "list", none, .seq vs n, #[]⟩ ∧ VsR vs.toList xs ∧ xs.length ≤ 2 * lim := by
  obtain ⟨_, o, h1, vs, n, rfl, h2, h3⟩ := x.sto a _ h
  exact ⟨vs, n, h1, h2, h3⟩
theorem At.tup (x : At c ρ σ s) {a : Nat} {xs : List Val} (h : σ a = some (.tup xs)) : ∃ vs n, s.heap.get? a = some ⟨.type "tuple", none, .seq vs n, #[]⟩ ∧ VsR vs.toList xs ∧ xs.length ≤ 2 * lim := by
  obtain ⟨_, o, h1, vs, n, rfl, h2, h3⟩ := x.sto a _ h
  exact ⟨vs, n, h1, h2, h3⟩

mutual
theorem reads_of (x : At c ρ σ s) : ∀ (d : Dat) (V : Val) (v : Value), Has σ d V → vval v = some V → ∃ as, Reads s.heap v (toPy d) as ∧ (toPy d).canLay0 = true
  | .none, V, v, h, hv => by simp only [Has] at h; subst h; rw [vval_none hv]; exact ⟨_, .none, by simp [toPy, PyData.canLay0]⟩
  | .bool b, V, v, h, hv => by simp only [Has] at h; subst h; rw [vval_bool hv]; exact ⟨_, .bool b, by simp [toPy, PyData.canLay0]⟩
  | .int i, V, v, h, hv => by simp only [Has] at h; subst h; obtain ⟨t, rfl⟩ := vval_int hv; exact ⟨_, .int i t, by simp [toPy, PyData.canLay0]⟩
  | .str u, V, v, h, hv => by
    simp only [Has] at h; subst h; obtain ⟨hu, t, rfl⟩ := vval_str hv
    exact ⟨_, .str u t, by simp [toPy, PyData.canLay0, strOk_py hu]⟩
  | .list ds, V, v, h, hv => by
    simp only [Has] at h; obtain ⟨a, xs, rfl, h1, h2⟩ := h
    rw [vval_ref hv]
    obtain ⟨vs, n, h3, h4, _⟩ := x.list h1
    obtain ⟨as, h5, h6⟩ := readsAll_of x ds xs vs.toList h2 h4
    exact ⟨_, reads_list_at h3 rfl rfl h5, by simpa [toPy, PyData.canLay0] using h6⟩
  | .tup ds, V, v, h, hv => by
    simp only [Has] at h; obtain ⟨a, xs, rfl, h1, h2⟩ := h
    rw [vval_ref hv]
    obtain ⟨vs, n, h3, h4, _⟩ := x.tup h1
    obtain ⟨as, h5, h6⟩ := readsAll_of x ds xs vs.toList h2 h4
    exact ⟨_, reads_tuple_at h3 rfl rfl h5, by simpa [toPy, PyData.canLay0] using h6⟩
theorem readsAll_of (x : At c ρ σ s) : ∀ (ds : List Dat) (xs : List Val) (vs : List Value), HasL σ ds xs → VsR vs xs → ∃ as, ReadsAll s.heap vs (toPys ds) as ∧ PyData.canLayAll0 (toPys ds) = true
  | [], xs, vs, h, hv => by simp only [HasL] at h; subst h; rw [hv.nil_right]; exact ⟨_, .nil, rfl⟩
  | d :: ds, xs, vs, h, hv => by
    simp only [HasL] at h
    obtain ⟨y, ys, rfl, h1, h2⟩ := h
    cases vs with
    | nil => exact absurd hv.len (by simp)
    | cons v vs =>
      obtain ⟨hv1, hv2⟩ := VsR.cons.mp hv
      obtain ⟨as, h3, h4⟩ := reads_of x d y v h1 hv1
      obtain ⟨bs, h5, h6⟩ := readsAll_of x ds ys vs h2 hv2
      exact ⟨_, .cons h3 h5, by simp [toPys, PyData.canLayAll0, h4, h6]⟩
end

theorem shaped_of {d : Dat} (h : dOk 9 d = true) (hl : (toPy d).canLay0 = true) : SeqAt.shaped (toPy d) = true := by
  have := depth_le 9 d h
  unfold SeqAt.shaped; rw [hl, Bool.true_and]; exact decide_eq_true (by omega)

/-! ### truth and comparisons -/
theorem truthy_snd (hc : CxOk c) (ha : At c ρ σ s) {v : Value} {V : Val} (hv : vval v = some V) {K : Bool → Prop} {R : Bool → Shared → Prop} (hR : ∀ b n, K b → R b { s with toks := n })
    (h : truthyW σ V K) : wpAny (model c.G.prog c.G.w) c.A (truthy v) R E s := by
  cases V with
  | none => rw [vval_none hv]; exact wpAny_pure (hR false s.toks h)
  | bool b => rw [vval_bool hv]; exact wpAny_truthy_bool (hR b s.toks h)
  | int i =>
    obtain ⟨t, rfl⟩ := vval_int hv
    simp only [truthyW] at h
    refine P.truthy_int (hR _ s.toks ?_)
    rw [show (i != 0) = decide (i ≠ 0) by by_cases q : i = 0 <;> simp [q]]; exact h
  | str u =>
    obtain ⟨_, t, rfl⟩ := vval_str hv
    simp only [truthyW] at h
    refine P.truthy_str (by simp only [Str.length, lim] at *; omega) (hR _ _ ?_)
    rw [show ((u.length : Int) != 0) = decide (u.cps.size ≠ 0) by simp only [Str.length]; by_cases q : u.cps.size = 0 <;> simp [q]]; exact h.2
  | ref a =>
    rw [vval_ref hv]
    simp only [truthyW] at h
    split at h
    · rename_i xs hσ
      obtain ⟨vs, n, h1, h2, h3⟩ := ha.list hσ
      have hl := h2.len
      rw [Array.length_toList] at hl
      refine wpAny_truthy_list ⟨_, h1, rfl, n, rfl⟩ (by simp only [lim] at h3; omega) (hR _ _ ?_)
      rw [show (!vs.isEmpty) = !xs.isEmpty by cases xs <;> simp_all [Array.isEmpty]]; exact h
    · rename_i xs hσ
      obtain ⟨vs, n, h1, h2, h3⟩ := ha.tup hσ
      have hl := h2.len
      rw [Array.length_toList] at hl
      refine truthy_tuple ⟨_, h1, rfl, n, rfl⟩ (by simp only [lim] at h3; omega) (hR _ _ ?_)
      rw [show (!vs.isEmpty) = !xs.isEmpty by cases xs <;> simp_all [Array.isEmpty]]; exact h
    · exact h.elim
end
end BP

/-! ## GSnd3 -/
set_option linter.unusedVariables false
namespace BP
open PySem PyProof.Rows

section
variable {c : Cx} {ρ : Loc} {σ : Sto} {s : Shared} {E : Value → Shared → Prop}

theorem units_lt (hc : CxOk c) : c.A.units + 64 < cLine := by have := hc.units; simp only [cLine]; omega
theorem s_toks (s : Shared) : ({ s with toks := s.toks } : Shared) = s := rfl

theorem plainIs_bool (v : Value) (b : Bool) (h : (vval v).isSome = true) : plainIs v (.bool b) = true := by cases v <;> simp_all [plainIs, vval]
theorem plainIs_none (v : Value) (h : (vval v).isSome = true) : plainIs v .none = true := by cases v <;> simp_all [plainIs, vval]

theorem beq_vval {v w : Value} {V W : Val} (hv : vval v = some V) (hw : vval w = some W) (h : W = .none ∨ ∃ b, W = .bool b) : (v == w) = decide (V = W) := by
  rcases h with rfl | ⟨b, rfl⟩
  · rw [vval_none hw]
    by_cases q : V = .none
    · subst q; rw [vval_none hv]; rfl
    · rw [decide_eq_false q, beq_eq_false_iff_ne]; rintro rfl; simp [vval] at hv; exact q hv.symm
  · rw [vval_bool hw]
    by_cases q : V = .bool b
    · subst q; rw [vval_bool hv]; simp
    · rw [decide_eq_false q, beq_eq_false_iff_ne]; rintro rfl; simp [vval] at hv; exact q hv.symm

theorem isW_cases {V W : Val} {K : Bool → Prop} (h : isW V W K) : (W = .none ∨ ∃ b, W = .bool b) ∧ K (decide (V = W)) := by
  cases W with
  | none => exact ⟨.inl rfl, by simpa [isW] using h⟩
  | bool b => exact ⟨.inr ⟨b, rfl⟩, by simpa [isW] using h⟩
  | int _ => cases V <;> exact h.elim
  | str _ => cases V <;> exact h.elim
  | ref _ => cases V <;> exact h.elim

theorem plainIs_of {v w : Value} {V W : Val} (hv : vval v = some V) (hw : vval w = some W) (h : W = .none ∨ ∃ b, W = .bool b) : plainIs v w = true := by
  rcases h with rfl | ⟨b, rfl⟩
  · rw [vval_none hw]; exact plainIs_none v (by simp [hv])
  · rw [vval_bool hw]; exact plainIs_bool v b (by simp [hv])

theorem cmp_snd (hc : CxOk c) (ha : At c ρ σ s) (op : OpC) {v w : Value} {V W : Val} (hv : vval v = some V) (hw : vval w = some W) {K : Bool → Prop} {R : Value → Shared → Prop}
    (hR : ∀ b n, K b → R (.bool b) { s with toks := n }) (h : cmpW op V W σ K) : wpAny (model c.G.prog c.G.w) c.A (compareOp op.py v w) R E s := by
  cases op with
  | eq =>
    refine Classical.byContradiction fun hG => ?_
    obtain ⟨d, e, h1, h2, h3, h4, h5⟩ := h
    obtain ⟨as, r1, l1⟩ := reads_of ha d V v h1 hv
    obtain ⟨bs, r2, l2⟩ := reads_of ha e W w h2 hw
    refine hG ?_
    clear hG
    exact eq_dataH r1 r2 (shaped_of h3 l1) (shaped_of h4 l2) (units_lt hc) (by rw [eqv_toPy]; exact hR _ s.toks h5)
  | ne =>
    refine Classical.byContradiction fun hG => ?_
    obtain ⟨d, e, h1, h2, h3, h4, h5⟩ := h
    obtain ⟨as, r1, l1⟩ := reads_of ha d V v h1 hv
    obtain ⟨bs, r2, l2⟩ := reads_of ha e W w h2 hw
    refine hG ?_
    clear hG
    exact ne_dataH r1 r2 (shaped_of h3 l1) (shaped_of h4 l2) (units_lt hc) (by rw [eqv_toPy]; exact hR _ s.toks h5)
  | lt =>
    refine Classical.byContradiction fun hG => ?_
    replace h := int2_inv h
    obtain ⟨i, j, rfl, rfl, h⟩ := h
    refine hG ?_
    clear hG
    obtain ⟨_, rfl⟩ := vval_int hv; obtain ⟨_, rfl⟩ := vval_int hw; exact P.lt_int (hR _ s.toks h)
  | le =>
    refine Classical.byContradiction fun hG => ?_
    replace h := int2_inv h
    obtain ⟨i, j, rfl, rfl, h⟩ := h
    refine hG ?_
    clear hG
    obtain ⟨_, rfl⟩ := vval_int hv; obtain ⟨_, rfl⟩ := vval_int hw; exact P.le_int (hR _ s.toks h)
  | gt =>
    refine Classical.byContradiction fun hG => ?_
    replace h := int2_inv h
    obtain ⟨i, j, rfl, rfl, h⟩ := h
    refine hG ?_
    clear hG
    obtain ⟨_, rfl⟩ := vval_int hv; obtain ⟨_, rfl⟩ := vval_int hw; exact P.gt_int (hR _ s.toks h)
  | ge =>
    refine Classical.byContradiction fun hG => ?_
    replace h := int2_inv h
    obtain ⟨i, j, rfl, rfl, h⟩ := h
    refine hG ?_
    clear hG
    obtain ⟨_, rfl⟩ := vval_int hv; obtain ⟨_, rfl⟩ := vval_int hw; exact P.ge_int (hR _ s.toks h)
  | isNot =>
    obtain ⟨h1, h2⟩ := isW_cases (K := fun b => K (!b)) h
    exact wpAny_isNot_plain (plainIs_of hv hw h1) (by rw [beq_vval hv hw h1]; exact hR _ s.toks h2)
end

/-! ### unary, boolean, chains -/
theorem unary_not {M : Model} {A : Around} {E : Value → Shared → Prop} {s : Shared} {v : Value} {Q : Value → Shared → Prop} (h : wpAny M A (truthy v) (fun b s' => Q (.bool (!b)) s') E s) : wpAny M A (unaryOp .Not v) Q E s := by
  unfold unaryOp
  refine wpAny_holding ?_
  show wpAny M A (do let b ← truthy v; pure (Value.bool !b)) Q E s
  exact wpAny_bind (wpAny_mono h (fun b s' hb => wpAny_pure hb) fun _ _ x => x)

theorem snd_not {e : Ex} (h : SndE e) : SndE (.not_ e) := by
  intro c ρ σ s Q E x hc ha hm hw
  refine Classical.byContradiction fun hG => ?_
  obtain ⟨y0, hy⟩ : ∃ y, y = x := ⟨x, rfl⟩
  rw [← hy] at hm
  cases y0 <;> try exact Bool.noConfusion hm
  rename_i op x pos
  replace hm := and2 hm
  cases of_decide_eq_true hm.1
  replace hm := hm.2
  subst hy
  refine hG ?_
  clear hG
  simp only [wpE] at hw
  show wpAny _ _ (do let v ← eval x c.env; standAt pos; holding [v] (unaryOp .Not v)) _ _ _
  refine wpAny_bind (wpAny_mono (h c ρ σ s _ E _ hc ha hm hw) ?_ fun _ _ h => h)
  intro v s₁ H9 
  refine Classical.byContradiction fun hG => ?_
  obtain ⟨V, σ₁, hV, ha₁, hw₁⟩ := H9
  refine hG ?_
  clear hG
  refine wpAny_bind (wpAny_standAt (wpAny_holding (unary_not (truthy_snd hc ha₁ hV (fun b n hb => ?_) hw₁))))
  exact ⟨_, σ₁, rfl, ha₁.tok n, hb⟩

theorem snd_neg {e : Ex} (h : SndE e) : SndE (.neg e) := by
  intro c ρ σ s Q E x hc ha hm hw
  refine Classical.byContradiction fun hG => ?_
  obtain ⟨y0, hy⟩ : ∃ y, y = x := ⟨x, rfl⟩
  rw [← hy] at hm
  cases y0 <;> try exact Bool.noConfusion hm
  rename_i op x pos
  replace hm := and2 hm
  cases of_decide_eq_true hm.1
  replace hm := hm.2
  subst hy
  refine hG ?_
  clear hG
  simp only [wpE] at hw
  show wpAny _ _ (do let v ← eval x c.env; standAt pos; holding [v] (unaryOp .USub v)) _ _ _
  refine wpAny_bind (wpAny_mono (h c ρ σ s _ E _ hc ha hm hw) ?_ fun _ _ h => h)
  intro v s₁ H9 
  refine Classical.byContradiction fun hG => ?_
  obtain ⟨V, σ₁, hV, ha₁, hw₁⟩ := H9
  refine hG ?_
  clear hG
  cases V <;> try exact hw₁.elim
  obtain ⟨t, rfl⟩ := vval_int hV
  exact wpAny_bind (wpAny_standAt (wpAny_holding (P.neg_int (good_int ha₁ hw₁))))

noncomputable def SndAnd (es : List Ex) : Prop := ∀ (c : Cx) (ρ : Loc) (σ : Sto) (s : Shared) (Q : KV) (E : KE) (es' : List PySem.Expr) (pos : Pos), CxOk c → At c ρ σ s → mEs c.env.scope.names es es' = true →
  wpAnd (WF c.G c.d) c.G.gv c.hd es ρ σ Q E → wpAny (model c.G.prog c.G.w) c.A (boolOp pos .And (evalEach es' c.env)) (Good c ρ Q) (Bad c ρ E) s
noncomputable def SndOr (es : List Ex) : Prop := ∀ (c : Cx) (ρ : Loc) (σ : Sto) (s : Shared) (Q : KV) (E : KE) (es' : List PySem.Expr) (pos : Pos), CxOk c → At c ρ σ s → mEs c.env.scope.names es es' = true →
  wpOr (WF c.G c.d) c.G.gv c.hd es ρ σ Q E → wpAny (model c.G.prog c.G.w) c.A (boolOp pos .Or (evalEach es' c.env)) (Good c ρ Q) (Bad c ρ E) s

theorem sndAnd_of : ∀ es : List Ex, (∀ e ∈ es, SndE e) → SndAnd es
  | [], _ => by intro c ρ σ s Q E es' pos hc ha hm hw; exact hw.elim
  | [e], he => by
    intro c ρ σ s Q E es' pos hc ha hm hw
    cases es' with
    | nil => first | exact Bool.noConfusion hm | exact Bool.noConfusion (and2 hm).2 | exact Bool.noConfusion hm.2
    | cons x r => cases r with
      | nil =>
        replace hm := and2 hm
        simp only [wpAnd] at hw
        exact he e (.head _) c ρ σ s Q E _ hc ha hm.1 hw
      | cons y r => first | exact Bool.noConfusion hm | exact Bool.noConfusion (and2 hm).2 | exact Bool.noConfusion hm.2
  | e :: e' :: es, he => by
    intro c ρ σ s Q E es' pos hc ha hm hw
    cases es' with
    | nil => first | exact Bool.noConfusion hm | exact Bool.noConfusion (and2 hm).2 | exact Bool.noConfusion hm.2
    | cons x r => cases r with
      | nil => first | exact Bool.noConfusion hm | exact Bool.noConfusion (and2 hm).2 | exact Bool.noConfusion hm.2
      | cons y r =>
        replace hm := and2 hm
        simp only [wpAnd] at hw
        show wpAny _ _ (do let v ← eval x c.env; standAt pos; let t ← holding [v] (truthy v); match BoolOp.And, t with | .And, false | .Or, true => pure v | _, _ => boolOp pos .And (evalEach (y :: r) c.env)) _ _ _
        refine wpAny_bind (wpAny_mono (he e (.head _) c ρ σ s _ E _ hc ha hm.1 hw) ?_ fun _ _ h => h)
        intro v s₁ H9 
        refine Classical.byContradiction fun hG => ?_
        obtain ⟨V, σ₁, hV, ha₁, hw₁⟩ := H9
        refine hG ?_
        clear hG
        refine wpAny_bind (wpAny_standAt (wpAny_bind (wpAny_holding (truthy_snd hc ha₁ hV (fun b n hb => ?_) hw₁))))
        cases b with
        | false => exact wpAny_pure ⟨V, σ₁, hV, ha₁.tok n, hb⟩
        | true => exact sndAnd_of (e' :: es) (fun z hz => he z (.tail _ hz)) c ρ σ₁ _ Q E _ pos hc (ha₁.tok n) hm.2 hb
theorem sndOr_of : ∀ es : List Ex, (∀ e ∈ es, SndE e) → SndOr es
  | [], _ => by intro c ρ σ s Q E es' pos hc ha hm hw; exact hw.elim
  | [e], he => by
    intro c ρ σ s Q E es' pos hc ha hm hw
    cases es' with
    | nil => first | exact Bool.noConfusion hm | exact Bool.noConfusion (and2 hm).2 | exact Bool.noConfusion hm.2
    | cons x r => cases r with
      | nil =>
        replace hm := and2 hm
        simp only [wpOr] at hw
        exact he e (.head _) c ρ σ s Q E _ hc ha hm.1 hw
      | cons y r => first | exact Bool.noConfusion hm | exact Bool.noConfusion (and2 hm).2 | exact Bool.noConfusion hm.2
  | e :: e' :: es, he => by
    intro c ρ σ s Q E es' pos hc ha hm hw
    cases es' with
    | nil => first | exact Bool.noConfusion hm | exact Bool.noConfusion (and2 hm).2 | exact Bool.noConfusion hm.2
    | cons x r => cases r with
      | nil => first | exact Bool.noConfusion hm | exact Bool.noConfusion (and2 hm).2 | exact Bool.noConfusion hm.2
      | cons y r =>
        replace hm := and2 hm
        simp only [wpOr] at hw
        show wpAny _ _ (do let v ← eval x c.env; standAt pos; let t ← holding [v] (truthy v); match BoolOp.Or, t with | .And, false | .Or, true => pure v | _, _ => boolOp pos .Or (evalEach (y :: r) c.env)) _ _ _
        refine wpAny_bind (wpAny_mono (he e (.head _) c ρ σ s _ E _ hc ha hm.1 hw) ?_ fun _ _ h => h)
        intro v s₁ H9 
        refine Classical.byContradiction fun hG => ?_
        obtain ⟨V, σ₁, hV, ha₁, hw₁⟩ := H9
        refine hG ?_
        clear hG
        refine wpAny_bind (wpAny_standAt (wpAny_bind (wpAny_holding (truthy_snd hc ha₁ hV (fun b n hb => ?_) hw₁))))
        cases b with
        | true => exact wpAny_pure ⟨V, σ₁, hV, ha₁.tok n, hb⟩
        | false => exact sndOr_of (e' :: es) (fun z hz => he z (.tail _ hz)) c ρ σ₁ _ Q E _ pos hc (ha₁.tok n) hm.2 hb

theorem snd_and {es : List Ex} (h : ∀ e ∈ es, SndE e) : SndE (.and_ es) := by
  intro c ρ σ s Q E x hc ha hm hw
  refine Classical.byContradiction fun hG => ?_
  obtain ⟨y0, hy⟩ : ∃ y, y = x := ⟨x, rfl⟩
  rw [← hy] at hm
  cases y0 <;> try exact Bool.noConfusion hm
  rename_i op es' pos
  replace hm := and2 hm
  cases of_decide_eq_true hm.1
  replace hm := hm.2
  subst hy
  refine hG ?_
  clear hG
  simp only [wpE] at hw
  exact sndAnd_of es h c ρ σ s Q E es' pos hc ha hm hw
theorem snd_or {es : List Ex} (h : ∀ e ∈ es, SndE e) : SndE (.or_ es) := by
  intro c ρ σ s Q E x hc ha hm hw
  refine Classical.byContradiction fun hG => ?_
  obtain ⟨y0, hy⟩ : ∃ y, y = x := ⟨x, rfl⟩
  rw [← hy] at hm
  cases y0 <;> try exact Bool.noConfusion hm
  rename_i op es' pos
  replace hm := and2 hm
  cases of_decide_eq_true hm.1
  replace hm := hm.2
  subst hy
  refine hG ?_
  clear hG
  simp only [wpE] at hw
  exact sndOr_of es h c ρ σ s Q E es' pos hc ha hm hw
end BP

/-! ## GSnd4 -/
set_option linter.unusedVariables false
namespace BP
open PySem PyProof.Rows

theorem wpAny_release {M : Model} {A : Around} {E : Value → Shared → Prop} {s : Shared} {vs keep : List Value} {Q : Unit → Shared → Prop} (h : Q () s) : wpAny M A (release vs keep) Q E s :=
  fun Γ p _ => by rw [Sem.wp_release]; exact h

theorem mE_notSet {nm : Nms} {ex : Ex} {e : PySem.Expr} (h : mE nm ex e = true) : (∀ op, behindInMarks op e = false) ∧ (∀ env x, foldedSetIterable e env x = pure x) := by
  cases e <;> try (exact ⟨fun _ => rfl, fun _ _ => rfl⟩)
  exfalso; cases ex <;> exact Bool.noConfusion h

theorem markedEach_id (nm : Nms) : ∀ (ops : List CmpOp) (rs : List Ex) (rs' : List PySem.Expr) (env : Env), mEs nm rs rs' = true → markedEach ops rs' (evalEach rs' env) = evalEach rs' env
  | [], _, _, _, _ => by unfold markedEach; rfl
  | [op], [], [], _, _ => rfl
  | [op], [r], [r'], env, h => by
    replace h := and2 h
    show [markedBehindIn op r' (eval r' env)] = [eval r' env]
    rw [markedBehindIn_of_false ((mE_notSet h.1).1 op)]
  | [op], [], _ :: _, _, h => by first | exact Bool.noConfusion h | exact Bool.noConfusion (and2 h).2 | exact Bool.noConfusion (and2 (and2 h).2).2
  | [op], _ :: _, [], _, h => by first | exact Bool.noConfusion h | exact Bool.noConfusion (and2 h).2 | exact Bool.noConfusion (and2 (and2 h).2).2
  | [op], [_], _ :: _ :: _, _, h => by first | exact Bool.noConfusion h | exact Bool.noConfusion (and2 h).2 | exact Bool.noConfusion (and2 (and2 h).2).2
  | [op], _ :: _ :: _, [_], _, h => by first | exact Bool.noConfusion h | exact Bool.noConfusion (and2 h).2 | exact Bool.noConfusion (and2 (and2 h).2).2
  | [op], _ :: q :: rs, x :: y :: rs', env, h => by simp only [evalEach]; unfold markedEach; rfl
  | op :: op' :: ops, [], [], _, _ => rfl
  | op :: op' :: ops, r :: rs, r' :: rs', env, h => by
    replace h := and2 h
    show eval r' env :: markedEach (op' :: ops) rs' (evalEach rs' env) = _
    rw [markedEach_id nm (op' :: ops) rs rs' env h.2]; rfl
  | op :: op' :: ops, [], _ :: _, _, h => by first | exact Bool.noConfusion h | exact Bool.noConfusion (and2 h).2 | exact Bool.noConfusion (and2 (and2 h).2).2
  | op :: op' :: ops, _ :: _, [], _, h => by first | exact Bool.noConfusion h | exact Bool.noConfusion (and2 h).2 | exact Bool.noConfusion (and2 (and2 h).2).2

noncomputable def SndCmp (rs : List Ex) : Prop := ∀ (c : Cx) (ρ : Loc) (σ : Sto) (s : Shared) (Q : KV) (E : KE) (rs' : List PySem.Expr) (pos : Pos) (ops : List OpC) (v : Value) (V : Val), CxOk c → At c ρ σ s → vval v = some V →
  mEs c.env.scope.names rs rs' = true → wpCmp (WF c.G c.d) c.G.gv c.hd V ops rs ρ σ Q E →
  wpAny (model c.G.prog c.G.w) c.A (compareChain pos v (ops.map OpC.py) (evalEach rs' c.env)) (Good c ρ Q) (Bad c ρ E) s

theorem sndCmp_of : ∀ rs : List Ex, (∀ e ∈ rs, SndE e) → SndCmp rs
  | [], _ => by
    intro c ρ σ s Q E rs' pos ops v V hc ha hV hm hw
    cases ops with
    | nil => exact hw.elim
    | cons op ops => cases ops <;> exact hw.elim
  | r :: rs, he => by
    intro c ρ σ s Q E rs' pos ops v V hc ha hV hm hw
    cases rs' with
    | nil => first | exact Bool.noConfusion hm | exact Bool.noConfusion (and2 hm).2 | exact Bool.noConfusion hm.2
    | cons r' rs' =>
      replace hm := and2 hm
      cases ops with
      | nil => cases rs <;> exact hw.elim
      | cons op ops =>
        cases ops with
        | nil =>
          cases rs with
          | cons q rs =>
            simp only [wpCmp] at hw
            -- one operator, two right sides: no such chain
            cases rs' with
            | nil => first | exact Bool.noConfusion hm | exact Bool.noConfusion (and2 hm).2 | exact Bool.noConfusion hm.2
            | cons q' rs' =>
              refine (?_ : wpAny _ _ _ _ _ _)
              show wpAny _ _ (do
                let rv ← holding [v] (eval r' c.env)
                standAt pos
                let b ← holding [v, rv] (compareOp op.py v rv)
                release [v, rv] [b]
                if ← holding [b, rv] (truthy b) then compareChain pos rv [] (evalEach (q' :: rs') c.env) else pure b) _ _ _
              refine wpAny_bind (wpAny_holding (wpAny_mono (he r (.head _) c ρ σ s _ E _ hc ha hm.1 hw) ?_ fun _ _ h => h))
              intro w s₁ H9 
              refine Classical.byContradiction fun hG => ?_
              obtain ⟨W, σ₁, hW, ha₁, hw₁⟩ := H9
              refine hG ?_
              clear hG
              refine wpAny_bind (wpAny_standAt (wpAny_bind (wpAny_holding (cmp_snd hc ha₁ op hV hW (fun b n hb => ?_) hw₁))))
              refine wpAny_bind (wpAny_release (wpAny_bind (wpAny_holding (wpAny_truthy_bool ?_))))
              cases b with
              | false => exact wpAny_pure ⟨_, σ₁, rfl, ha₁.tok n, hb⟩
              | true => exact hb.elim
          | nil =>
            cases rs' with
            | cons q rs' => first | exact Bool.noConfusion hm | exact Bool.noConfusion (and2 hm).2 | exact Bool.noConfusion hm.2
            | nil =>
              simp only [wpCmp] at hw
              show wpAny _ _ (do let rv ← holding [v] (eval r' c.env); standAt pos; operate [v, rv] (compareOp op.py v rv)) _ _ _
              refine wpAny_bind (wpAny_holding (wpAny_mono (he r (.head _) c ρ σ s _ E _ hc ha hm.1 hw) ?_ fun _ _ h => h))
              intro w s₁ H9 
              refine Classical.byContradiction fun hG => ?_
              obtain ⟨W, σ₁, hW, ha₁, hw₁⟩ := H9
              refine hG ?_
              clear hG
              refine wpAny_bind (wpAny_standAt ?_)
              have := cmp_snd (R := Good c ρ Q) (E := Bad c ρ E) hc ha₁ op hV hW (fun b n hb => ⟨_, σ₁, rfl, ha₁.tok n, hb⟩) hw₁
              exact fun Γ p hΓ => by rw [Sem.wp_operate]; exact this Γ p hΓ
        | cons op' ops =>
          simp only [wpCmp] at hw
          show wpAny _ _ (do
            let rv ← holding [v] (eval r' c.env)
            standAt pos
            let b ← holding [v, rv] (compareOp op.py v rv)
            release [v, rv] [b]
            if ← holding [b, rv] (truthy b) then compareChain pos rv ((op' :: ops).map OpC.py) (evalEach rs' c.env) else pure b) _ _ _
          refine wpAny_bind (wpAny_holding (wpAny_mono (he r (.head _) c ρ σ s _ E _ hc ha hm.1 hw) ?_ fun _ _ h => h))
          intro w s₁ H9 
          refine Classical.byContradiction fun hG => ?_
          obtain ⟨W, σ₁, hW, ha₁, hw₁⟩ := H9
          refine hG ?_
          clear hG
          refine wpAny_bind (wpAny_standAt (wpAny_bind (wpAny_holding (cmp_snd hc ha₁ op hV hW (fun b n hb => ?_) hw₁))))
          refine wpAny_bind (wpAny_release (wpAny_bind (wpAny_holding (wpAny_truthy_bool ?_))))
          cases b with
          | false => exact wpAny_pure ⟨_, σ₁, rfl, ha₁.tok n, hb⟩
          | true => exact sndCmp_of rs (fun z hz => he z (.tail _ hz)) c ρ σ₁ _ Q E _ pos _ w W hc (ha₁.tok n) hW hm.2 hb

theorem snd_cmp {l : Ex} {ops : List OpC} {rs : List Ex} (h1 : SndE l) (h2 : ∀ e ∈ rs, SndE e) : SndE (.cmp l ops rs) := by
  intro c ρ σ s Q E x hc ha hm hw
  refine Classical.byContradiction fun hG => ?_
  obtain ⟨y0, hy⟩ : ∃ y, y = x := ⟨x, rfl⟩
  rw [← hy] at hm
  cases y0 <;> try exact Bool.noConfusion hm
  rename_i l' ops' rs' pos
  replace hm := and4 hm
  obtain ⟨⟨⟨hm1, h0⟩, hm2⟩, hlen⟩ := hm
  cases of_decide_eq_true h0
  subst hy
  refine hG ?_
  clear hG
  simp only [wpE] at hw
  show wpAny _ _ (do compareChain pos (← eval l' c.env) (ops.map OpC.py) (markedEach (ops.map OpC.py) rs' (evalEach rs' c.env))) _ _ _
  rw [markedEach_id _ _ _ _ _ hm2]
  refine wpAny_bind (wpAny_mono (h1 c ρ σ s _ E _ hc ha hm1 hw) ?_ fun _ _ h => h)
  intro v s₁ H9 
  refine Classical.byContradiction fun hG => ?_
  obtain ⟨V, σ₁, hV, ha₁, hw₁⟩ := H9
  refine hG ?_
  clear hG
  exact sndCmp_of rs h2 c ρ σ₁ s₁ Q E rs' pos ops v V hc ha₁ hV hm2 hw₁

section
variable {c : Cx} {ρ : Loc} {σ : Sto} {s : Shared} {Q : KV} {E : Value → Shared → Prop}

/-- a new object at the heap's end -/
theorem At.push (x : At c ρ σ s) {o : Obj} {ob : Ob} (hr : ObR c.G ob o) (hf : o.isFreed = false) (hQ : newW σ ob Q) : Good c ρ Q (.ref s.heap.objs.size) { s with heap := s.heap.push o } :=
  ⟨_, _, rfl, x.alloc (a := s.heap.objs.size) x.size_none (fun _ _ e => Heap.get?_push_of_some _ e) (Heap.get?_push_size _ hf) hr, hQ _ (x.none_of_fresh x.size_none)⟩

theorem VsR.arr {vs : List Value} {xs : List Val} (h : VsR vs xs) : VsR vs.toArray.toList xs := by simpa using h

theorem newList_snd (x : At c ρ σ s) {vs : List Value} {xs : List Val} (h : VsR vs xs) (hl : xs.length ≤ 2 * lim) (hQ : newW σ (.list xs) Q) : wpAny (model c.G.prog c.G.w) c.A (newList vs) (Good c ρ Q) E s :=
  wpAny_newObj_type (x.push (ob := .list xs) ⟨_, _, rfl, h.arr, hl⟩ rfl hQ) (by show vs.toArray.size ≤ sizeLine; rw [List.size_toArray, h.len]; simp only [lim] at hl; simp only [sizeLine]; omega)
theorem newTuple_snd (x : At c ρ σ s) {vs : List Value} {xs : List Val} (h : VsR vs xs) (hl : xs.length ≤ 2 * lim) (hQ : newW σ (.tup xs) Q) : wpAny (model c.G.prog c.G.w) c.A (newTuple vs) (Good c ρ Q) E s :=
  wpAny_newObj_type (x.push (ob := .tup xs) ⟨_, _, rfl, h.arr, hl⟩ rfl hQ) (by show vs.toArray.size ≤ sizeLine; rw [List.size_toArray, h.len]; simp only [lim] at hl; simp only [sizeLine]; omega)
end

theorem snd_list {es : List Ex} (h : SndEs es) : SndE (.list es) := by
  intro c ρ σ s Q E x hc ha hm hw
  refine Classical.byContradiction fun hG => ?_
  obtain ⟨y0, hy⟩ : ∃ y, y = x := ⟨x, rfl⟩
  rw [← hy] at hm
  cases y0 <;> try exact Bool.noConfusion hm
  rename_i es' pos
  subst hy
  refine hG ?_
  clear hG
  simp only [wpE] at hw
  refine List_ (wpAny_mono (h c ρ σ s _ E _ pos hc ha hm hw) ?_ fun _ _ h => h)
  intro vs s₁ H9 
  refine Classical.byContradiction fun hG => ?_
  obtain ⟨Vs, σ₁, hV, ha₁, hl, hw₁⟩ := H9
  refine hG ?_
  clear hG
  exact newList_snd ha₁ hV (by omega) hw₁
theorem snd_tup {es : List Ex} (h : SndEs es) : SndE (.tup es) := by
  intro c ρ σ s Q E x hc ha hm hw
  refine Classical.byContradiction fun hG => ?_
  obtain ⟨y0, hy⟩ : ∃ y, y = x := ⟨x, rfl⟩
  rw [← hy] at hm
  cases y0 <;> try exact Bool.noConfusion hm
  rename_i es' k pos
  subst hy
  refine hG ?_
  clear hG
  simp only [wpE] at hw
  refine Tuple_ (wpAny_mono (h c ρ σ s _ E _ pos hc ha hm hw) ?_ fun _ _ h => h)
  intro vs s₁ H9 
  refine Classical.byContradiction fun hG => ?_
  obtain ⟨Vs, σ₁, hV, ha₁, hl, hw₁⟩ := H9
  refine hG ?_
  clear hG
  exact newTuple_snd ha₁ hV (by omega) hw₁
end BP

/-! ## GSnd5 -/
set_option linter.unusedVariables false
namespace BP
open PySem PyProof.Rows

theorem truthyW_else {σ : Sto} {v : Val} {X : Prop} {K : Bool → Prop} : (truthyW σ v fun b => if b = true then X else truthyW σ v K) = (truthyW σ v fun b => if b = true then X else K false) := by
  cases v with
  | none => rfl
  | bool b => cases b <;> rfl
  | int i => by_cases q : i = 0 <;> simp [truthyW, q]
  | str u => by_cases q : u.cps.size = 0 <;> simp [truthyW, q]
  | ref a =>
    unfold truthyW
    dsimp only
    generalize σ a = o
    cases o with
    | none => rfl
    | some o => cases o <;> first | rfl | (rename_i xs; cases xs <;> rfl)
theorem truthyW_then {σ : Sto} {v : Val} {X : Prop} {K : Bool → Prop} : (truthyW σ v fun b => if b = true then truthyW σ v K else X) = (truthyW σ v fun b => if b = true then K true else X) := by
  cases v with
  | none => rfl
  | bool b => cases b <;> rfl
  | int i => by_cases q : i = 0 <;> simp [truthyW, q]
  | str u => by_cases q : u.cps.size = 0 <;> simp [truthyW, q]
  | ref a =>
    unfold truthyW
    dsimp only
    generalize σ a = o
    cases o with
    | none => rfl
    | some o => cases o <;> first | rfl | (rename_i xs; cases xs <;> rfl)

theorem sndT_value {ex : Ex} (h : SndE ex) (hne : ∀ (nm : Nms) (e : PySem.Expr) (env : Env) (whole : Sem Value), mE nm ex e = true → isTrue e env whole = (do let v ← whole; standAt e.pos; holding [v] (truthy v))) : SndT ex := by
  intro c ρ σ s K E e hc ha hm hw
  refine wpAny_isTrue_value (wpAny_mono (h c ρ σ s _ E _ hc ha hm hw) ?_ fun _ _ h => h) (hne _ e _ _ hm)
  intro v s₁ H9 
  refine Classical.byContradiction fun hG => ?_
  obtain ⟨V, σ₁, hV, ha₁, hw₁⟩ := H9
  refine hG ?_
  clear hG
  exact truthy_snd hc ha₁ hV (fun b n hb => ⟨σ₁, ha₁.tok n, hb⟩) hw₁

theorem sndT_not {e : Ex} (h : SndT e) : SndT (.not_ e) := by
  intro c ρ σ s K E x hc ha hm hw
  refine Classical.byContradiction fun hG => ?_
  obtain ⟨y0, hy⟩ : ∃ y, y = x := ⟨x, rfl⟩
  rw [← hy] at hm
  cases y0 <;> try exact Bool.noConfusion hm
  rename_i op x pos
  replace hm := and2 hm
  cases of_decide_eq_true hm.1
  replace hm := hm.2
  subst hy
  refine hG ?_
  clear hG
  simp only [wpE] at hw
  exact wpAny_isTrue_Not (wpAny_mono (h c ρ σ s (fun b σ' => K (!b) σ') E _ hc ha hm hw) (fun b s₁ hb => hb) fun _ _ h => h)


theorem allTrue_and : ∀ es : List Ex, (∀ e ∈ es, SndT e) → ∀ (c : Cx) (ρ : Loc) (σ : Sto) (s : Shared) (K : Bool → Sto → Prop) (E : KE) (es' : List PySem.Expr), CxOk c → At c ρ σ s → mEs c.env.scope.names es es' = true →
    wpAnd (WF c.G c.d) c.G.gv c.hd es ρ σ (fun v σ' => truthyW σ' v fun b => K b σ') E →
    wpAny (model c.G.prog c.G.w) c.A (allTrue .And es' c.env) (GoodB c ρ K) (Bad c ρ E) s
  | [], _ => by intro c ρ σ s K E es' hc ha hm hw; exact hw.elim
  | [e], he => by
    intro c ρ σ s K E es' hc ha hm hw
    cases es' with
    | nil => first | exact Bool.noConfusion hm | exact Bool.noConfusion (and2 hm).2 | exact Bool.noConfusion hm.2
    | cons x r => cases r with
      | cons y r => first | exact Bool.noConfusion hm | exact Bool.noConfusion (and2 hm).2 | exact Bool.noConfusion hm.2
      | nil =>
        replace hm := and2 hm
        simp only [wpAnd] at hw
        show wpAny _ _ (do match BoolOp.And, ← isTrue x c.env (eval x c.env) with | .And, false => pure false | .Or, true => pure true | _, _ => allTrue .And [] c.env) _ _ _
        refine wpAny_bind (wpAny_mono (he e (.head _) c ρ σ s K E _ hc ha hm.1 hw) ?_ fun _ _ h => h)
        intro b s₁ hb
        cases b <;> exact wpAny_pure hb
  | e :: e' :: es, he => by
    intro c ρ σ s K E es' hc ha hm hw
    cases es' with
    | nil => first | exact Bool.noConfusion hm | exact Bool.noConfusion (and2 hm).2 | exact Bool.noConfusion hm.2
    | cons x r => cases r with
      | nil => first | exact Bool.noConfusion hm | exact Bool.noConfusion (and2 hm).2 | exact Bool.noConfusion hm.2
      | cons y r =>
        replace hm := and2 hm
        simp only [wpAnd] at hw
        show wpAny _ _ (do match BoolOp.And, ← isTrue x c.env (eval x c.env) with | .And, false => pure false | .Or, true => pure true | _, _ => allTrue .And (y :: r) c.env) _ _ _
        refine wpAny_bind (wpAny_mono (he e (.head _) c ρ σ s (fun b σ' => if b = true then wpAnd (WF c.G c.d) c.G.gv c.hd (e' :: es) ρ σ' (fun v σ' => truthyW σ' v fun b => K b σ') E else K false σ') E _ hc ha hm.1 (Eq.mp (congrArg (fun Q => wpE (WF c.G c.d) c.G.gv c.hd e ρ σ Q E) (funext fun v => funext fun σ' => truthyW_else)) hw)) ?_ fun _ _ h => h)
        rintro b s₁ ⟨σ₁, ha₁, hb⟩
        cases b with
        | false => exact wpAny_pure ⟨σ₁, ha₁, hb⟩
        | true => exact allTrue_and (e' :: es) (fun z hz => he z (.tail _ hz)) c ρ σ₁ s₁ K E _ hc ha₁ hm.2 hb
theorem allTrue_or : ∀ es : List Ex, (∀ e ∈ es, SndT e) → ∀ (c : Cx) (ρ : Loc) (σ : Sto) (s : Shared) (K : Bool → Sto → Prop) (E : KE) (es' : List PySem.Expr), CxOk c → At c ρ σ s → mEs c.env.scope.names es es' = true →
    wpOr (WF c.G c.d) c.G.gv c.hd es ρ σ (fun v σ' => truthyW σ' v fun b => K b σ') E →
    wpAny (model c.G.prog c.G.w) c.A (allTrue .Or es' c.env) (GoodB c ρ K) (Bad c ρ E) s
  | [], _ => by intro c ρ σ s K E es' hc ha hm hw; exact hw.elim
  | [e], he => by
    intro c ρ σ s K E es' hc ha hm hw
    cases es' with
    | nil => first | exact Bool.noConfusion hm | exact Bool.noConfusion (and2 hm).2 | exact Bool.noConfusion hm.2
    | cons x r => cases r with
      | cons y r => first | exact Bool.noConfusion hm | exact Bool.noConfusion (and2 hm).2 | exact Bool.noConfusion hm.2
      | nil =>
        replace hm := and2 hm
        simp only [wpOr] at hw
        show wpAny _ _ (do match BoolOp.Or, ← isTrue x c.env (eval x c.env) with | .And, false => pure false | .Or, true => pure true | _, _ => allTrue .Or [] c.env) _ _ _
        refine wpAny_bind (wpAny_mono (he e (.head _) c ρ σ s K E _ hc ha hm.1 hw) ?_ fun _ _ h => h)
        intro b s₁ hb
        cases b <;> exact wpAny_pure hb
  | e :: e' :: es, he => by
    intro c ρ σ s K E es' hc ha hm hw
    cases es' with
    | nil => first | exact Bool.noConfusion hm | exact Bool.noConfusion (and2 hm).2 | exact Bool.noConfusion hm.2
    | cons x r => cases r with
      | nil => first | exact Bool.noConfusion hm | exact Bool.noConfusion (and2 hm).2 | exact Bool.noConfusion hm.2
      | cons y r =>
        replace hm := and2 hm
        simp only [wpOr] at hw
        show wpAny _ _ (do match BoolOp.Or, ← isTrue x c.env (eval x c.env) with | .And, false => pure false | .Or, true => pure true | _, _ => allTrue .Or (y :: r) c.env) _ _ _
        refine wpAny_bind (wpAny_mono (he e (.head _) c ρ σ s (fun b σ' => if b = true then K true σ' else wpOr (WF c.G c.d) c.G.gv c.hd (e' :: es) ρ σ' (fun v σ' => truthyW σ' v fun b => K b σ') E) E _ hc ha hm.1 (Eq.mp (congrArg (fun Q => wpE (WF c.G c.d) c.G.gv c.hd e ρ σ Q E) (funext fun v => funext fun σ' => truthyW_then)) hw)) ?_ fun _ _ h => h)
        rintro b s₁ ⟨σ₁, ha₁, hb⟩
        cases b with
        | true => exact wpAny_pure ⟨σ₁, ha₁, hb⟩
        | false => exact allTrue_or (e' :: es) (fun z hz => he z (.tail _ hz)) c ρ σ₁ s₁ K E _ hc ha₁ hm.2 hb

theorem sndT_and {es : List Ex} (h : ∀ e ∈ es, SndT e) : SndT (.and_ es) := by
  intro c ρ σ s K E x hc ha hm hw
  refine Classical.byContradiction fun hG => ?_
  obtain ⟨y0, hy⟩ : ∃ y, y = x := ⟨x, rfl⟩
  rw [← hy] at hm
  cases y0 <;> try exact Bool.noConfusion hm
  rename_i op es' pos
  replace hm := and2 hm
  cases of_decide_eq_true hm.1
  replace hm := hm.2
  subst hy
  refine hG ?_
  clear hG
  simp only [wpE] at hw
  exact wpAny_isTrue_BoolOp (allTrue_and es h c ρ σ s K E es' hc ha hm hw)
theorem sndT_or {es : List Ex} (h : ∀ e ∈ es, SndT e) : SndT (.or_ es) := by
  intro c ρ σ s K E x hc ha hm hw
  refine Classical.byContradiction fun hG => ?_
  obtain ⟨y0, hy⟩ : ∃ y, y = x := ⟨x, rfl⟩
  rw [← hy] at hm
  cases y0 <;> try exact Bool.noConfusion hm
  rename_i op es' pos
  replace hm := and2 hm
  cases of_decide_eq_true hm.1
  replace hm := hm.2
  subst hy
  refine hG ?_
  clear hG
  simp only [wpE] at hw
  exact wpAny_isTrue_BoolOp (allTrue_or es h c ρ σ s K E es' hc ha hm hw)

theorem testChain_of : ∀ rs : List Ex, (∀ e ∈ rs, SndE e) → ∀ (c : Cx) (ρ : Loc) (σ : Sto) (s : Shared) (K : Bool → Sto → Prop) (E : KE) (rs' : List PySem.Expr) (pos : Pos) (ops : List OpC) (v : Value) (V : Val), CxOk c → At c ρ σ s → vval v = some V →
    mEs c.env.scope.names rs rs' = true → wpCmp (WF c.G c.d) c.G.gv c.hd V ops rs ρ σ (fun v σ' => truthyW σ' v fun b => K b σ') E →
    wpAny (model c.G.prog c.G.w) c.A (testChain pos v (ops.map OpC.py) (evalEach rs' c.env)) (GoodB c ρ K) (Bad c ρ E) s
  | [], _ => by
    intro c ρ σ s K E rs' pos ops v V hc ha hV hm hw
    cases ops with
    | nil => exact hw.elim
    | cons op ops => cases ops <;> exact hw.elim
  | r :: rs, he => by
    intro c ρ σ s K E rs' pos ops v V hc ha hV hm hw
    cases rs' with
    | nil => first | exact Bool.noConfusion hm | exact Bool.noConfusion (and2 hm).2 | exact Bool.noConfusion hm.2
    | cons r' rs' =>
      replace hm := and2 hm
      cases ops with
      | nil => cases rs <;> exact hw.elim
      | cons op ops =>
        cases ops with
        | nil =>
          cases rs with
          | cons q rs =>
            simp only [wpCmp] at hw
            cases rs' with
            | nil => first | exact Bool.noConfusion hm | exact Bool.noConfusion (and2 hm).2 | exact Bool.noConfusion hm.2
            | cons q' rs' =>
              show wpAny _ _ (do
                let rv ← holding [v] (eval r' c.env)
                standAt pos
                let b ← holding [v, rv] (compareOp op.py v rv)
                release [v, rv] [b]
                if ← holding [b, rv] (truthy b) then testChain pos rv [] (evalEach (q' :: rs') c.env) else pure false) _ _ _
              refine wpAny_bind (wpAny_holding (wpAny_mono (he r (.head _) c ρ σ s _ E _ hc ha hm.1 hw) ?_ fun _ _ h => h))
              intro w s₁ H9 
              refine Classical.byContradiction fun hG => ?_
              obtain ⟨W, σ₁, hW, ha₁, hw₁⟩ := H9
              refine hG ?_
              clear hG
              refine wpAny_bind (wpAny_standAt (wpAny_bind (wpAny_holding (cmp_snd hc ha₁ op hV hW (fun b n hb => ?_) hw₁))))
              refine wpAny_bind (wpAny_release (wpAny_bind (wpAny_holding (wpAny_truthy_bool ?_))))
              cases b with
              | false => exact wpAny_pure ⟨σ₁, ha₁.tok n, hb⟩
              | true => exact hb.elim
          | nil =>
            cases rs' with
            | cons q rs' => first | exact Bool.noConfusion hm | exact Bool.noConfusion (and2 hm).2 | exact Bool.noConfusion hm.2
            | nil =>
              simp only [wpCmp] at hw
              show wpAny _ _ (do let rv ← holding [v] (eval r' c.env); standAt pos; let b ← operate [v, rv] (compareOp op.py v rv); holding [b] (truthy b)) _ _ _
              refine wpAny_bind (wpAny_holding (wpAny_mono (he r (.head _) c ρ σ s _ E _ hc ha hm.1 hw) ?_ fun _ _ h => h))
              intro w s₁ H9 
              refine Classical.byContradiction fun hG => ?_
              obtain ⟨W, σ₁, hW, ha₁, hw₁⟩ := H9
              refine hG ?_
              clear hG
              refine wpAny_bind (wpAny_standAt (wpAny_bind ?_))
              have := cmp_snd (R := fun b s' => wpAny (model c.G.prog c.G.w) c.A (holding [b] (truthy b)) (GoodB c ρ K) (Bad c ρ E) s') (E := Bad c ρ E) hc ha₁ op hV hW (fun b n hb => wpAny_holding (wpAny_truthy_bool ⟨σ₁, ha₁.tok n, hb⟩)) hw₁
              exact fun Γ p hΓ => by rw [Sem.wp_operate]; exact this Γ p hΓ
        | cons op' ops =>
          simp only [wpCmp] at hw
          show wpAny _ _ (do
            let rv ← holding [v] (eval r' c.env)
            standAt pos
            let b ← holding [v, rv] (compareOp op.py v rv)
            release [v, rv] [b]
            if ← holding [b, rv] (truthy b) then testChain pos rv ((op' :: ops).map OpC.py) (evalEach rs' c.env) else pure false) _ _ _
          refine wpAny_bind (wpAny_holding (wpAny_mono (he r (.head _) c ρ σ s _ E _ hc ha hm.1 hw) ?_ fun _ _ h => h))
          intro w s₁ H9 
          refine Classical.byContradiction fun hG => ?_
          obtain ⟨W, σ₁, hW, ha₁, hw₁⟩ := H9
          refine hG ?_
          clear hG
          refine wpAny_bind (wpAny_standAt (wpAny_bind (wpAny_holding (cmp_snd hc ha₁ op hV hW (fun b n hb => ?_) hw₁))))
          refine wpAny_bind (wpAny_release (wpAny_bind (wpAny_holding (wpAny_truthy_bool ?_))))
          cases b with
          | false => exact wpAny_pure ⟨σ₁, ha₁.tok n, hb⟩
          | true => exact testChain_of rs (fun z hz => he z (.tail _ hz)) c ρ σ₁ _ K E _ pos _ w W hc (ha₁.tok n) hW hm.2 hb

theorem sndT_cmp {l : Ex} {ops : List OpC} {rs : List Ex} (h1 : SndE l) (h2 : ∀ e ∈ rs, SndE e) : SndT (.cmp l ops rs) := by
  intro c ρ σ s K E x hc ha hm hw
  refine Classical.byContradiction fun hG => ?_
  obtain ⟨y0, hy⟩ : ∃ y, y = x := ⟨x, rfl⟩
  rw [← hy] at hm
  cases y0 <;> try exact Bool.noConfusion hm
  rename_i l' ops' rs' pos
  replace hm := and4 hm
  obtain ⟨⟨⟨hm1, h0⟩, hm2⟩, hlen⟩ := hm
  cases of_decide_eq_true h0
  subst hy
  refine hG ?_
  clear hG
  simp only [wpE] at hw
  show wpAny _ _ (do testChain pos (← eval l' c.env) (ops.map OpC.py) (markedEach (ops.map OpC.py) rs' (evalEach rs' c.env))) _ _ _
  rw [markedEach_id _ _ _ _ _ hm2]
  refine wpAny_bind (wpAny_mono (h1 c ρ σ s _ E _ hc ha hm1 hw) ?_ fun _ _ h => h)
  intro v s₁ H9 
  refine Classical.byContradiction fun hG => ?_
  obtain ⟨V, σ₁, hV, ha₁, hw₁⟩ := H9
  refine hG ?_
  clear hG
  exact testChain_of rs h2 c ρ σ₁ s₁ K E rs' pos ops v V hc ha₁ hV hm2 hw₁

theorem snd_ite {a t e : Ex} (ha' : SndT a) (ht : SndE t) (he : SndE e) : SndE (.ite a t e) := by
  intro c ρ σ s Q E x hc ha hm hw
  refine Classical.byContradiction fun hG => ?_
  obtain ⟨y0, hy⟩ : ∃ y, y = x := ⟨x, rfl⟩
  rw [← hy] at hm
  cases y0 <;> try exact Bool.noConfusion hm
  rename_i a' t' e' pos
  obtain ⟨⟨hm1, hm2⟩, hm3⟩ := and3 hm
  subst hy
  refine hG ?_
  clear hG
  simp only [wpE] at hw
  show wpAny _ _ (do if ← isTrue a' c.env (eval a' c.env) then eval t' c.env else eval e' c.env) _ _ _
  refine wpAny_bind (wpAny_mono (ha' c ρ σ s (fun b σ₁ => if b = true then wpE (WF c.G c.d) c.G.gv c.hd t ρ σ₁ _ E else wpE (WF c.G c.d) c.G.gv c.hd e ρ σ₁ _ E) E _ hc ha hm1 hw) ?_ fun _ _ h => h)
  intro b s₁ H9
  refine Classical.byContradiction fun hG => ?_
  obtain ⟨σ₁, ha₁, hw₁⟩ := H9
  refine hG ?_
  clear hG
  cases b with
  | true => exact ht c ρ σ₁ s₁ Q E _ hc ha₁ hm2 hw₁
  | false => exact he c ρ σ₁ s₁ Q E _ hc ha₁ hm3 hw₁

theorem sndT_ite {a t e : Ex} (ha' : SndT a) (ht : SndT t) (he : SndT e) : SndT (.ite a t e) := by
  intro c ρ σ s Q E x hc ha hm hw
  refine Classical.byContradiction fun hG => ?_
  obtain ⟨y0, hy⟩ : ∃ y, y = x := ⟨x, rfl⟩
  rw [← hy] at hm
  cases y0 <;> try exact Bool.noConfusion hm
  rename_i a' t' e' pos
  obtain ⟨⟨hm1, hm2⟩, hm3⟩ := and3 hm
  subst hy
  refine hG ?_
  clear hG
  simp only [wpE] at hw
  show wpAny _ _ (do if ← isTrue a' c.env (eval a' c.env) then isTrue t' c.env (eval t' c.env) else isTrue e' c.env (eval e' c.env)) _ _ _
  refine wpAny_bind (wpAny_mono (ha' c ρ σ s (fun b σ₁ => if b = true then wpE (WF c.G c.d) c.G.gv c.hd t ρ σ₁ _ E else wpE (WF c.G c.d) c.G.gv c.hd e ρ σ₁ _ E) E _ hc ha hm1 hw) ?_ fun _ _ h => h)
  intro b s₁ H9
  refine Classical.byContradiction fun hG => ?_
  obtain ⟨σ₁, ha₁, hw₁⟩ := H9
  refine hG ?_
  clear hG
  cases b with
  | true => exact ht c ρ σ₁ s₁ Q E _ hc ha₁ hm2 hw₁
  | false => exact he c ρ σ₁ s₁ Q E _ hc ha₁ hm3 hw₁
end BP

/-! ## GSnd6 -/
set_option linter.unusedVariables false
set_option linter.unnecessarySimpa false
set_option linter.unusedSimpArgs false
namespace BP
open PySem PyProof.Rows

section
variable {c : Cx} {ρ : Loc} {σ : Sto} {s : Shared} {Q : KV} {E : Value → Shared → Prop}

/-! ### subscripts -/
theorem VsR.at {vs : Array Value} {xs : List Val} (h : VsR vs.toList xs) {i : Nat} {x : Val} (hx : xs[i]? = some x) : ∃ v, vs[i]? = some v ∧ vval v = some x := by
  have := h.get i
  rw [Array.getElem?_toList, hx] at this
  cases q : vs[i]? with
  | none => rw [q] at this; simp at this
  | some v => rw [q] at this; exact ⟨v, rfl, by simpa using this.1⟩

theorem getIdx_pos {α : Type} {xs : List α} {k : Int} {x : α} (h : getIdx xs k = some x) : (0 ≤ k ∧ k < xs.length ∧ xs[k.toNat]? = some x) ∨ (k < 0 ∧ -(xs.length : Int) ≤ k ∧ xs[(xs.length + k).toNat]? = some x) := by
  unfold getIdx at h
  split at h
  · rename_i h0
    refine .inl ⟨h0, ?_, h⟩
    have := (List.getElem?_eq_some_iff.mp h).1
    omega
  · split at h
    · rename_i h0 h1; exact .inr ⟨by omega, h1, h⟩
    · cases h

theorem tail_snd {prog : Program} {w : World} {A : Around} {value slice : PySem.Expr} {o i : Value} {T id : String} {Q : Value → Shared → Prop} (hT : s.TypeIs o T) (hl : typeLookup (.type T) "__getitem__" = pure (some (.builtin id)))
    (h : wpAny (model prog w) A (getItem o i) Q E s) : wpAny (model prog w) A (subscriptTail value slice o i) Q E s := by
  unfold subscriptTail getitemInPython
  refine wpAny_bind (wpAny_bind (wpAny_specialOf hT hl (wpAny_pure ?_)))
  refine wpAny_bind ?_
  have key : wpAny (model prog w) A (getItem o i) (fun r s' => wpAny (model prog w) A (do letTemporaryGo value o r; pure r) Q E s') E s :=
    wpAny_mono h (fun r s' hr => wpAny_bind (wpAny_letTemporaryGo (wpAny_pure hr))) fun _ _ x => x
  unfold subscripted
  split
  · exact fun Γ p hΓ => by rw [Sem.wp_operate]; exact key Γ p hΓ
  · rename_i h; cases h
  · exact fun Γ p hΓ => by rw [Sem.wp_operate]; exact key Γ p hΓ

theorem subW_snd (hc : CxOk c) (ha : At c ρ σ s) {v i : Value} {V I : Val} (hv : vval v = some V) (hi : vval i = some I) (h : subW V I σ Q) (value slice : PySem.Expr) :
    wpAny (model c.G.prog c.G.w) c.A (subscriptTail value slice v i) (Good c ρ Q) E s := by
  cases V with
  | ref a =>
    rw [vval_ref hv]
    simp only [subW] at h
    split at h
    · rename_i xs hσ
      split at h
      · rename_i k
        split at h
        · rename_i x hx
          refine Classical.byContradiction fun hG => ?_
          obtain ⟨t, rfl⟩ := vval_int hi
          obtain ⟨vs, n, h1, h2, h3⟩ := ha.list hσ
          refine hG ?_
          clear hG
          have hlen : (vs.size : Int) = xs.length := by have := h2.len; rw [Array.length_toList] at this; omega
          have hL : s.heap.IsList a vs := ⟨_, h1, rfl, n, rfl⟩
          refine tail_snd (T := "list") (hL.typeIs) list_getitem_lookup ?_
          simp only [lim] at h3
          rcases getIdx_pos hx with ⟨h4, h5, h6⟩ | ⟨h4, h5, h6⟩
          · obtain ⟨v', h7, h8⟩ := h2.at h6
            exact wpAny_getItem_list hL h4 (by omega) h7 (good_val ha h8 h)
          · obtain ⟨v', h7, h8⟩ := h2.at h6
            exact wpAny_getItem_list_neg hL h4 (by omega) (by omega) (by rw [hlen, Int.add_comm]; exact h7) (good_val ha h8 h)
        · exact h.elim
      · exact h.elim
    · rename_i xs hσ
      split at h
      · rename_i k
        split at h
        · rename_i x hx
          refine Classical.byContradiction fun hG => ?_
          obtain ⟨t, rfl⟩ := vval_int hi
          obtain ⟨vs, n, h1, h2, h3⟩ := ha.tup hσ
          refine hG ?_
          clear hG
          have hlen : vs.size = xs.length := by have := h2.len; rw [Array.length_toList] at this; omega
          have hL : IsTup s.heap a vs := ⟨_, h1, rfl, n, rfl⟩
          refine tail_snd (T := "tuple") (hL.typeIs) slot_tuple_getitem.lookup ?_
          simp only [lim] at h3
          rcases getIdx_pos hx with ⟨h4, h5, h6⟩ | ⟨h4, h5, h6⟩
          · obtain ⟨v', h7, h8⟩ := h2.at h6
            refine getItem_tuple hL (by omega) (by omega) (j := k.toNat) ?_ h7 (good_val ha h8 h)
            unfold seqIndex?; rw [hlen]; simp; omega
          · obtain ⟨v', h7, h8⟩ := h2.at h6
            refine getItem_tuple hL (by omega) (by omega) (j := (xs.length + k).toNat) ?_ h7 (good_val ha h8 h)
            unfold seqIndex?; rw [hlen]; simp; omega
        · exact h.elim
      · exact h.elim
    · exact h.elim
  | none => exact h.elim
  | bool _ => exact h.elim
  | int _ => exact h.elim
  | str _ => exact h.elim
end

theorem snd_sub {o i : Ex} (h1 : SndE o) (h2 : SndE i) : SndE (.sub o i) := by
  intro c ρ σ s Q E x hc ha hm hw
  refine Classical.byContradiction fun hG => ?_
  obtain ⟨y0, hy⟩ : ∃ y, y = x := ⟨x, rfl⟩
  rw [← hy] at hm
  cases y0 <;> try exact Bool.noConfusion hm
  rename_i o' i' pos
  have hm' : mE c.env.scope.names o o' = true ∧ mE c.env.scope.names i i' = true := and2 hm
  subst hy
  refine hG ?_
  clear hG
  simp only [wpE] at hw
  refine Subscript_ (wpAny_mono (h1 c ρ σ s _ E _ hc ha hm'.1 hw) ?_ fun _ _ h => h)
  intro v s₁ H9 
  refine Classical.byContradiction fun hG => ?_
  obtain ⟨V, σ₁, hV, ha₁, hw₁⟩ := H9
  refine hG ?_
  clear hG
  refine wpAny_mono (h2 c ρ σ₁ s₁ _ E _ hc ha₁ hm'.2 hw₁) ?_ fun _ _ h => h
  intro k s₂ H9 
  refine Classical.byContradiction fun hG => ?_
  obtain ⟨I, σ₂, hI, ha₂, hw₂⟩ := H9
  refine hG ?_
  clear hG
  exact subW_snd hc ha₂ hV hI hw₂ _ _
end BP

/-! ## GSnd7 -/
set_option linter.unusedVariables false
set_option linter.unusedSimpArgs false
namespace BP
open PySem PyProof.Rows

section
variable {c : Cx} {ρ : Loc} {σ : Sto} {s : Shared} {Q : KV} {E : Value → Shared → Prop}

/-! ### slices -/
theorem part_of {v : Value} {V : Val} (hv : vval v = some V) {n d : Nat} {k : Nat} (h : bnd n d V = some k) : ∃ o, IsPart v o ∧ k = o.elim d (clipAt n) := by
  cases V with
  | none => rw [vval_none hv]; simp only [bnd, Option.some.injEq] at h; exact ⟨none, .none, h.symm⟩
  | int i =>
    obtain ⟨t, rfl⟩ := vval_int hv
    simp only [bnd, Option.some.injEq] at h
    exact ⟨some i, .int i t, h.symm⟩
  | bool _ => simp [bnd] at h
  | str _ => simp [bnd] at h
  | ref _ => simp [bnd] at h

theorem VsR.drop {vs : List Value} {xs : List Val} (h : VsR vs xs) (n : Nat) : VsR (vs.drop n) (xs.drop n) := by simp only [VsR, List.map_drop] at *; rw [h]
theorem VsR.take {vs : List Value} {xs : List Val} (h : VsR vs xs) (n : Nat) : VsR (vs.take n) (xs.take n) := by simp only [VsR, List.map_take] at *; rw [h]

theorem sliceW_snd (hc : CxOk c) (ha : At c ρ σ s) {v l u t : Value} {V L U T : Val} (hv : vval v = some V) (hl : vval l = some L) (hu : vval u = some U) (ht : vval t = some T) (h : sliceW V L U T σ Q) (value slice : PySem.Expr) :
    wpAny (model c.G.prog c.G.w) c.A (subscriptTail value slice v (.ref s.heap.objs.size)) (Good c ρ Q) E { s with heap := s.heap.push { cls := .type "slice", data := .fields #[l, u, t] } } := by
  cases V with
  | ref a =>
    rw [vval_ref hv]
    simp only [sliceW] at h
    split at h
    · rename_i xs hσ
      split at h
      · rename_i ys hy
        obtain ⟨vs, h1, h2, h3⟩ : ∃ vs, s.heap.IsList a vs ∧ VsR vs.toList xs ∧ xs.length ≤ 2 * lim := by
          unfold listOr at hσ
          split at hσ
          · rename_i q
            cases hσ
            refine Classical.byContradiction fun hG => ?_
            obtain ⟨vs, n, h1, h2, h3⟩ := ha.list q
            refine hG ?_
            clear hG
            exact ⟨vs, ⟨_, h1, rfl, n, rfl⟩, h2, h3⟩
          · rename_i q
            cases hσ
            refine Classical.byContradiction fun hG => ?_
            obtain ⟨_, o, h1, vs, n, h2, h3, h4, h5⟩ := ha.sto _ _ q
            refine hG ?_
            clear hG
            exact ⟨vs, ⟨o, h1, h2, n, h3⟩, h4, by omega⟩
          · cases hσ
        have hlen : vs.size = xs.length := by have := h2.len; rw [Array.length_toList] at this; omega
        cases T with
        | none =>
          simp only [sliced] at hy
          split at hy
          · rename_i i j hi hj
            refine Classical.byContradiction fun hG => ?_
            obtain ⟨lo, p1, e1⟩ := part_of hl hi
            obtain ⟨up, p2, e2⟩ := part_of hu hj
            refine hG ?_
            clear hG
            rw [vval_none ht]
            have hs : ({ s with heap := s.heap.push { cls := .type "slice", data := .fields #[l, u, .none] } } : Shared).heap.IsList a vs := h1.at fun o e => Heap.get?_push_of_some _ e
            refine tail_snd (T := "list") hs.typeIs list_getitem_lookup ?_
            simp only [lim] at h3
            refine wpAny_getItem_list_slice hs (Heap.IsSliceOf.new ..) p1 p2 .none (by simp) ?_ (by simp only [sizeLine]; omega)
            rw [slicePick_plain]
            have ha' : At c ρ σ { s with heap := s.heap.push { cls := .type "slice", data := .fields #[l, u, .none] } } := ha.grow fun _ _ e => Heap.get?_push_of_some _ e
            simp only [Option.some.injEq] at hy
            refine ha'.push (ob := .list ys) ⟨_, _, rfl, ?_, ?_⟩ rfl h
            · rw [← hy, cut, hlen, ← e1, ← e2]
              have := (h2.drop i).take (j - i)
              simpa using this
            · rw [← hy, cut]; simp only [List.length_take, List.length_drop, lim]; omega
          · cases hy
        | _ => simp [sliced] at hy
      · exact h.elim
    · exact h.elim
  | none => exact h.elim
  | bool _ => exact h.elim
  | int _ => exact h.elim
  | str _ => exact h.elim
end

theorem snd_part {e : Ex} (h : SndE e) {c : Cx} {ρ : Loc} {σ : Sto} {s : Shared} {Q : KV} {E : KE} {e' : Option PySem.Expr} (hc : CxOk c) (ha : At c ρ σ s) (hm : mO c.env.scope.names e e' = true)
    (hw : wpE (WF c.G c.d) c.G.gv c.hd e ρ σ Q E) : wpAny (model c.G.prog c.G.w) c.A (evalPart e' c.env) (Good c ρ Q) (Bad c ρ E) s := by
  cases e' with
  | none =>
    have : e = .none_ := by
      have hm : isNone_ e = true := hm
      cases e <;> first | rfl | cases hm
    subst this
    exact wpAny_pure (good_val ha rfl hw)
  | some e' =>
    have : mE c.env.scope.names e e' = true := hm
    exact h c ρ σ s Q E e' hc ha this hw

theorem snd_slice {o lo hi st : Ex} (h1 : SndE o) (h2 : SndE lo) (h3 : SndE hi) (h4 : SndE st) : SndE (.slice o lo hi st) := by
  intro c ρ σ s Q E x hc ha hm hw
  refine Classical.byContradiction fun hG => ?_
  obtain ⟨y0, hy⟩ : ∃ y, y = x := ⟨x, rfl⟩
  rw [← hy] at hm
  cases y0 <;> try exact Bool.noConfusion hm
  rename_i o' i' pos
  cases i' <;> try exact Bool.noConfusion hm
  rename_i l' u' t' p'
  rw [mE_slice] at hm
  replace hm := and4 hm
  refine Classical.byContradiction fun hG => ?_
  obtain ⟨⟨⟨m1, m2⟩, m3⟩, m4⟩ := hm
  refine hG ?_
  clear hG
  subst hy
  refine hG ?_
  clear hG
  simp only [wpE] at hw
  refine Subscript_ (wpAny_mono (h1 c ρ σ s _ E _ hc ha m1 hw) ?_ fun _ _ h => h)
  intro v s₁ H9 
  refine Classical.byContradiction fun hG => ?_
  obtain ⟨V, σ₁, hV, ha₁, hw₁⟩ := H9
  refine hG ?_
  clear hG
  refine wpAny_Slice (wpAny_mono (snd_part h2 hc ha₁ m2 hw₁) ?_ fun _ _ h => h)
  intro l s₂ H9 
  refine Classical.byContradiction fun hG => ?_
  obtain ⟨L, σ₂, hL, ha₂, hw₂⟩ := H9
  refine hG ?_
  clear hG
  refine wpAny_mono (snd_part h3 hc ha₂ m3 hw₂) ?_ fun _ _ h => h
  intro u s₃ H9 
  refine Classical.byContradiction fun hG => ?_
  obtain ⟨U, σ₃, hU, ha₃, hw₃⟩ := H9
  refine hG ?_
  clear hG
  refine wpAny_mono (snd_part h4 hc ha₃ m4 hw₃) ?_ fun _ _ h => h
  intro t s₄ H9 
  refine Classical.byContradiction fun hG => ?_
  obtain ⟨T, σ₄, hT, ha₄, hw₄⟩ := H9
  refine hG ?_
  clear hG
  exact sliceW_snd hc ha₄ hV hL hU hT hw₄ _ _

/-! ### operators -/
theorem fdiv_pos {a b : Int} (h : 0 < b) : a.fdiv b = a / b := by rw [Int.fdiv_eq_ediv_of_nonneg _ (Int.le_of_lt h)]
theorem fmod_pos {a b : Int} (h : 0 < b) : a.fmod b = a % b := by rw [Int.fmod_eq_emod_of_nonneg _ (Int.le_of_lt h)]

theorem intBits_small {i : Int} (h : -lim ≤ i ∧ i ≤ lim) : Builtin.Int.intBits i ≤ 64 := by
  have h1 : i.natAbs ≤ 1000000 := by simp only [lim] at h; omega
  unfold Builtin.Int.intBits
  have h2 : i.natAbs.log2 < 20 := by
    by_cases q : i.natAbs = 0
    · rw [q]; decide
    · exact (Nat.log2_lt q).mpr (by omega)
  split <;> omega

theorem noPylong {a b : Int} (h0 : 0 < b) (h : b ≤ lim) : Builtin.divisionGoesByPylong a b = false := by
  have h1 : b.natAbs ≤ 1000000 := by simp only [lim] at h; omega
  have h2 : b.natAbs.log2 < 20 := (Nat.log2_lt (by omega)).mpr (by omega)
  unfold Builtin.divisionGoesByPylong
  have h3 : ¬ ((b == 0) = true) := by simp; omega
  simp only [h3, Bool.false_eq_true, if_false]
  rw [show decide (b.natAbs.log2 / 30 + 1 > 300) = false from decide_eq_false (by omega)]; rfl

theorem strOk_append {x y : Str} (hx : strOk x = true) (hy : strOk y = true) : strOk (x ++ y) = true := by
  unfold strOk at *
  show (x.cps ++ y.cps).toList.all _ = true
  rw [Array.toList_append, List.all_append, hx, hy]; rfl
theorem vval_strOk {x : Str} {t : Tok} (h : strOk x = true) : vval (.str x t) = some (.str x) := by simp [vval, h]

theorem rep_len {α : Type} (xs : List α) : ∀ k : Nat, (List.replicate k xs).flatten.length = k * xs.length
  | 0 => by simp
  | k + 1 => by rw [List.replicate_succ, List.flatten_cons, List.length_append, rep_len xs k, Nat.succ_mul]; omega
theorem VsR.rep {vs : List Value} {xs : List Val} (h : VsR vs xs) : ∀ k : Nat, VsR (List.replicate k vs).flatten (List.replicate k xs).flatten
  | 0 => rfl
  | k + 1 => by rw [List.replicate_succ, List.replicate_succ, List.flatten_cons, List.flatten_cons]; exact h.append (VsR.rep h k)
theorem rep_rel {vs : Array Value} {xs : List Val} (h : VsR vs.toList xs) (k : Nat) : VsR (List.foldl (fun x1 x2 => x1 ++ x2) #[] (List.replicate (if vs.isEmpty = true then 0 else k) vs)).toList (List.replicate k xs).flatten := by
  have key : ∀ (k : Nat) (acc : Array Value), (List.foldl (fun x1 x2 => x1 ++ x2) acc (List.replicate k vs)).toList = acc.toList ++ (List.replicate k vs.toList).flatten := fun k => by
    induction k with
    | zero => intro acc; simp
    | succ k ih => intro acc; rw [List.replicate_succ, List.foldl_cons, ih, List.replicate_succ, List.flatten_cons, Array.toList_append, List.append_assoc]
  rw [key]
  show VsR ([] ++ _) _
  rw [List.nil_append]
  split
  · rename_i q
    have hv : vs.toList = [] := by simpa [Array.isEmpty] using q
    rw [hv] at h
    rw [h.nil_left]
    have := VsR.rep (vs := []) (xs := []) rfl k
    simpa using this
  · exact h.rep k

theorem bin_snd (op : OpB) : ∀ (c : Cx) (ρ : Loc) (σ : Sto) (s : Shared) (a b : Value) (V W : Val) (Q : KV) (E : Value → Shared → Prop), CxOk c → At c ρ σ s → vval a = some V → vval b = some W → binW op V W σ Q →
      wpAny (model c.G.prog c.G.w) c.A (binaryOp op.py a b) (Good c ρ Q) E s := by
  intro c ρ σ s a b V W Q E hc ha hV hW h
  cases op with
  | add =>
    cases V with
    | none => exact h.elim
    | bool _ => exact h.elim
    | int i => cases W with
      | int j => obtain ⟨t, rfl⟩ := vval_int hV; obtain ⟨u, rfl⟩ := vval_int hW; exact P.add_int (good_int ha h)
      | none => exact h.elim
      | bool _ => exact h.elim
      | str _ => exact h.elim
      | ref _ => exact h.elim
    | str x => cases W with
      | str y =>
        obtain ⟨hx, t, rfl⟩ := vval_str hV; obtain ⟨hy, u, rfl⟩ := vval_str hW
        exact SB.add (fun t' k => ⟨_, σ, vval_strOk (strOk_append hx hy), ha.tok k, h.2⟩) (by have := h.1; simp only [lim, sizeLine] at *; omega)
      | none => exact h.elim
      | bool _ => exact h.elim
      | int _ => exact h.elim
      | ref _ => exact h.elim
    | ref x => cases W with
      | str _ => exact h.elim
      | int j => exact h.elim
      | none => exact h.elim
      | bool _ => exact h.elim
      | ref y =>
        rw [vval_ref hV, vval_ref hW]
        refine Classical.byContradiction fun hG => ?_
        replace h := onL_inv h
        obtain ⟨xs, hx, h⟩ := h
        replace h := onL_inv h
        obtain ⟨ys, hy, h⟩ := h
        obtain ⟨vs, n, a1, a2, a3⟩ := ha.list hx
        obtain ⟨ws, m, b1, b2, b3⟩ := ha.list hy
        refine hG ?_
        clear hG
        have l1 := a2.len
        have l2 := b2.len
        rw [Array.length_toList] at l1 l2
        refine concat_meets ⟨_, a1, rfl⟩ ⟨_, b1, rfl⟩ noFill_list_add seq_list_add PySem.F.slot_list_add PySem.F.entry_list_add (PySem.F.args_list_add_2 _ _) (list_addW _ _ vs ws n m none none #[] #[] (by simp only [sizeLine]; have := h.1; simp only [lim] at this; omega)) ⟨a1, b1, ?_⟩
        refine ha.push (ob := .list (xs ++ ys)) ⟨_, _, rfl, ?_, ?_⟩ rfl h.2
        · rw [Array.toList_append]; exact a2.append b2
        · rw [List.length_append]; have := h.1; omega
  | sub =>
    refine Classical.byContradiction fun hG => ?_
    replace h := int2_inv h
    obtain ⟨i, j, rfl, rfl, h⟩ := h
    refine hG ?_
    clear hG
    obtain ⟨t, rfl⟩ := vval_int hV; obtain ⟨u, rfl⟩ := vval_int hW; exact P.sub_int (good_int ha h)
  | mul =>
    cases V with
    | none => exact h.elim
    | bool _ => exact h.elim
    | ref x => cases W with
      | str _ => exact h.elim
      | none => exact h.elim
      | bool _ => exact h.elim
      | ref _ => exact h.elim
      | int n =>
        rw [vval_ref hV]
        obtain ⟨u, rfl⟩ := vval_int hW
        refine Classical.byContradiction fun hG => ?_
        replace h := onL_inv h
        obtain ⟨xs, hx, hl, h0, h6, h⟩ := h
        obtain ⟨vs, m, a1, a2, a3⟩ := ha.list hx
        refine hG ?_
        clear hG
        have l1 := a2.len
        rw [Array.length_toList] at l1
        have hsz : vs.size * n.toNat ≤ 6000 := by
          rw [l1]; exact Nat.mul_le_mul (show xs.length ≤ 1000 from hl) (show n.toNat ≤ 6 by omega)
        refine wpAny_binaryOp_repeat_ref (T := "list") (U := "int") (by decide) ⟨_, a1, rfl⟩ (fun s' => typeIs_int s' n u) noFill_list_mul PySem.F.fills_int_mul PySem.F.slot_int_rmul repeat_list PySem.F.slot_int_index.lookup
          (call_meets PySem.F.slot_int_rmul (typeIs_int s n u) PySem.F.entry_int_rmul (PySem.F.args_int_rmul_2 _ _) (int___rmul___int_list n u x vs m)
            ⟨a1, rfl, ⟨_, a1, rfl⟩, call_meets PySem.F.slot_list_mul ⟨_, a1, rfl⟩ PySem.F.entry_list_mul (PySem.F.args_list_mul_2 _ _)
              (AutoListH.list___mul___list_int_3 x vs m n u (by simp [Builtin.List.listFitsIndex]; omega) (by omega) (by simp [Builtin.List.listTooLong, sizeLine]; omega)) ⟨a1, ?_⟩⟩)
        refine ha.push (ob := .list (List.replicate n.toNat xs).flatten) ⟨_, _, rfl, ?_, ?_⟩ rfl h
        · exact rep_rel a2 n.toNat
        · rw [rep_len]; have := Nat.mul_le_mul (show n.toNat ≤ 6 by omega) (show xs.length ≤ 1000 from hl); simp only [lim]; omega
    | int i =>
      replace h := int2_inv (show int2 (.int i) W (fun i j => ((-lim ≤ i ∧ i ≤ lim) ∨ (-lim ≤ j ∧ j ≤ lim)) ∧ Q (.int (i * j)) σ) from h)
      obtain ⟨i', j, hi, rfl, h⟩ := h
      cases hi
      obtain ⟨t, rfl⟩ := vval_int hV; obtain ⟨u, rfl⟩ := vval_int hW
      exact P.mul_int (good_int ha h.2) (h.1.elim (fun q => IntMulOk.of_left (intBits_small q)) fun q => IntMulOk.of_right (intBits_small q))
    | str x => cases W with
      | str _ => exact h.elim
      | none => exact h.elim
      | bool _ => exact h.elim
      | ref _ => exact h.elim
      | int n =>
        obtain ⟨hx, t, rfl⟩ := vval_str hV; obtain ⟨u, rfl⟩ := vval_int hW
        obtain ⟨h0, h1, h2, h⟩ := h
        by_cases hn : n < 1
        · rw [if_pos hn] at h
          exact P.mul_str_none hn (by omega) ⟨_, σ, vval_strOk (by rfl), ha.tok _, h⟩
        · rw [if_neg hn] at h
          have hn1 : n = 1 := by omega
          subst hn1
          exact P.mul_str (by decide) (fun _ q => by simp at q) (fun _ q => by simp at q) (by rw [if_neg (by decide), if_pos (by simp)]; exact ⟨_, σ, vval_strOk hx, ha, h⟩)
  | fdiv =>
    refine Classical.byContradiction fun hG => ?_
    replace h := int2_inv h
    obtain ⟨i, j, rfl, rfl, h⟩ := h
    refine hG ?_
    clear hG
    obtain ⟨t, rfl⟩ := vval_int hV; obtain ⟨u, rfl⟩ := vval_int hW
    refine AutoIntOps.floordiv_1 (by simp; omega) (by rw [noPylong h.1 h.2.1]; simp) ?_
    rw [fdiv_pos h.1]; exact good_int ha h.2.2
  | mod =>
    refine Classical.byContradiction fun hG => ?_
    replace h := int2_inv h
    obtain ⟨i, j, rfl, rfl, h⟩ := h
    refine hG ?_
    clear hG
    obtain ⟨t, rfl⟩ := vval_int hV; obtain ⟨u, rfl⟩ := vval_int hW
    refine AutoIntOps.mod_1 (by simp; omega) ?_
    rw [fmod_pos h.1]; exact good_int ha h.2.2
end BP

/-! ## GIter -/
set_option linter.unusedVariables false
set_option linter.unusedSimpArgs false
namespace BP
open PySem PyProof.Rows

inductive Kd where
  | list (a : Nat) | tup (a : Nat) | range (lo hi : Int)
noncomputable def KdOf (σ : Sto) (V : Val) : Kd → Prop
  | .list a => V = .ref a ∧ ∃ xs, σ a = some (.list xs)
  | .tup a => V = .ref a ∧ ∃ xs, σ a = some (.tup xs)
  | .range lo hi => ∃ a, V = .ref a ∧ σ a = some (.range lo hi)
noncomputable def ItAt : Kd → Addr → Nat → Heap → Prop
  | .list a, it, i, h => h.IsListIter it a i
  | .tup a, it, i, h => h.IsTupleIter it a i
  | .range lo hi, it, i, h => IsRangeIter h it (lo + i) ((hi - lo).toNat - (i : Int)) 1

theorem itAt_keep {kd : Kd} {it : Addr} {i : Nat} {h h' : Heap} (x : ItAt kd it i h) (hk : ∀ o, h.get? it = some o → o.cls ≠ .type "frame" → h'.get? it = some o) : ItAt kd it i h' := by
  cases kd with
  | list a => obtain ⟨o, h1, h2, h3⟩ := x; exact ⟨o, hk o h1 (by rw [h2]; simp), h2, h3⟩
  | tup a => obtain ⟨o, h1, h2, h3⟩ := x; exact ⟨o, hk o h1 (by rw [h2]; simp), h2, h3⟩
  | range lo hi => exact hk _ x (by simp)
theorem itAt_some {kd : Kd} {it : Addr} {i : Nat} {h : Heap} (x : ItAt kd it i h) : ∃ o, h.get? it = some o ∧ o.cls ≠ .type "frame" := by
  cases kd with
  | list a => obtain ⟨o, h1, h2, h3⟩ := x; exact ⟨o, h1, by rw [h2]; simp⟩
  | tup a => obtain ⟨o, h1, h2, h3⟩ := x; exact ⟨o, h1, by rw [h2]; simp⟩
  | range lo hi => exact ⟨_, x, by simp⟩

theorem rangeSize_one (lo hi : Int) : Builtin.Range.rangeSize lo hi 1 = ((hi - lo).toNat : Int) := by
  unfold Builtin.Range.rangeSize
  by_cases h : lo < hi <;> simp [h] <;> omega

section
variable {c : Cx} {ρ : Loc} {σ : Sto} {s : Shared} {E : Value → Shared → Prop}

theorem range_small {lo hi : Int} (h : -lim ≤ lo ∧ lo ≤ lim ∧ -lim ≤ hi ∧ hi ≤ lim) : Builtin.Range.small lo hi 1 = true := by
  simp only [lim] at h
  unfold Builtin.Range.small
  rw [rangeSize_one]
  simp [Builtin.Range.rangeFitsLong]
  omega

/-- a loop's start -/
theorem iter_snd (ha : At c ρ σ s) {v : Value} {V : Val} (hv : vval v = some V) {turns : List (List Val)} (ht : turnsOf σ V 1 = some turns) {R : Value → Shared → Prop}
    (hR : ∀ (o : Obj) kd, KdOf σ V kd → ItAt kd s.heap.objs.size 0 (s.heap.push o) → o.isFreed = false → R (.ref s.heap.objs.size) { s with heap := s.heap.push o }) :
    wpAny (model c.G.prog c.G.w) c.A (pyIter v) R E s := by
  cases V with
  | ref a =>
    rw [vval_ref hv]
    simp only [turnsOf] at ht
    split at ht
    · rename_i xs hσ _
      refine Classical.byContradiction fun hG => ?_
      obtain ⟨vs, n, h1, h2, h3⟩ := ha.list hσ
      refine hG ?_
      clear hG
      exact wpAny_pyIter_list ⟨_, h1, rfl, n, rfl⟩ (hR _ (.list a) ⟨rfl, _, hσ⟩ ⟨_, Heap.get?_push_size _ rfl, rfl, rfl⟩ rfl)
    · rename_i xs hσ _
      refine Classical.byContradiction fun hG => ?_
      obtain ⟨vs, n, h1, h2, h3⟩ := ha.tup hσ
      refine hG ?_
      clear hG
      exact wpAny_pyIter_tuple ⟨_, h1, rfl, n, rfl⟩ (hR _ (.tup a) ⟨rfl, _, hσ⟩ ⟨_, Heap.get?_push_size _ rfl, rfl, rfl⟩ rfl)
    · rename_i lo hi hσ _
      refine Classical.byContradiction fun hG => ?_
      obtain ⟨_, o, h1, h2, t, u, w, rfl⟩ := ha.sto a _ hσ
      refine hG ?_
      clear hG
      refine wpAny_pyIter_range h1 (range_small h2) (hR _ (.range lo hi) ⟨a, rfl, hσ⟩ ?_ rfl)
      show IsRangeIter _ _ _ _ _
      rw [rangeSize_one]
      have := Heap.get?_push_size s.heap (o := { cls := .type "range_iterator", dict := none, data := .fields #[rawInt lo, rawInt ((hi - lo).toNat : Int), rawInt 1], slots := #[] }) rfl
      simpa using this
    · cases ht
  | none => simp [turnsOf] at ht
  | bool _ => simp [turnsOf] at ht
  | int _ => simp [turnsOf] at ht
  | str _ => simp [turnsOf] at ht

/-- a loop's iterator handed on -/
theorem iter_self (ha : At c ρ σ s) {kd : Kd} {it : Addr} {i : Nat} (hi : ItAt kd it i s.heap) {R : Value → Shared → Prop} (hR : R (.ref it) s) : wpAny (model c.G.prog c.G.w) c.A (pyIter (.ref it)) R E s := by
  cases kd with
  | list a => exact wpAny_pyIter_listiter hi hR
  | tup a => exact wpAny_pyIter_tupleiter hi hR
  | range lo hi' => exact wpAny_pyIter_rangeiter hi hR

/-- a loop's next item -/
theorem next_snd (hc : CxOk c) (hh : c.hd = false) (ha : At c ρ σ s) {V : Val} {turns : List (List Val)} (ht : turnsOf σ V 1 = some turns) {kd : Kd} (hk : KdOf σ V kd) {it : Addr} {i : Nat} (hi : ItAt kd it i s.heap) {R : Option Value → Shared → Prop}
    (hS : ∀ x X h' n, turns[i]? = some [X] → vval x = some X → ItAt kd it (i + 1) h' → Heap.SameBut it s.heap h' → R (some x) { s with heap := h', toks := n })
    (hN : ∀ h', turns[i]? = none → Heap.ExtBut it s.heap h' → R none { s with heap := h' }) : wpAny (model c.G.prog c.G.w) c.A (pyNext (.ref it)) R E s := by
  have hA := hc.handled hh
  cases kd with
  | list a =>
    obtain ⟨rfl, xs, hσ⟩ := hk
    simp only [turnsOf, hσ, Option.some.injEq] at ht
    refine Classical.byContradiction fun hG => ?_
    obtain ⟨vs, n, h1, h2, h3⟩ := ha.list hσ
    refine hG ?_
    clear hG
    cases hx : xs[i]? with
    | some X =>
      obtain ⟨x, h4, h5⟩ := h2.at hx
      exact wpAny_pyNext_list_item hi ⟨_, h1, rfl, n, rfl⟩ h4 fun h' a1 a2 => hS x X h' s.toks (by rw [← ht]; simp [hx]) h5 a1 a2
    | none =>
      have : vs[i]? = none := by have := (h2.get i).2; rw [Array.getElem?_toList] at this; exact this.mpr hx
      exact wpAny_pyNext_list_end hA hi ⟨_, h1, rfl, n, rfl⟩ this fun h' a1 => hN h' (by rw [← ht]; simp [hx]) a1
  | tup a =>
    obtain ⟨rfl, xs, hσ⟩ := hk
    simp only [turnsOf, hσ, Option.some.injEq] at ht
    refine Classical.byContradiction fun hG => ?_
    obtain ⟨vs, n, h1, h2, h3⟩ := ha.tup hσ
    refine hG ?_
    clear hG
    cases hx : xs[i]? with
    | some X =>
      obtain ⟨x, h4, h5⟩ := h2.at hx
      exact wpAny_pyNext_tuple_item hi ⟨_, h1, rfl, n, rfl⟩ h4 fun h' a1 a2 => hS x X h' s.toks (by rw [← ht]; simp [hx]) h5 a1 a2
    | none =>
      have : vs[i]? = none := by have := (h2.get i).2; rw [Array.getElem?_toList] at this; exact this.mpr hx
      exact wpAny_pyNext_tuple_end hA hi ⟨_, h1, rfl, n, rfl⟩ this fun h' a1 => hN h' (by rw [← ht]; simp [hx]) a1
  | range lo hi' =>
    obtain ⟨a, rfl, hσ⟩ := hk
    simp only [turnsOf, hσ, Option.some.injEq] at ht
    by_cases q : i < (hi' - lo).toNat
    · refine wpAny_pyNext_range_item hi (by omega) fun h' a1 a2 => hS _ (.int (lo + i)) h' _ ?_ rfl ?_ a2
      · rw [← ht]; simp [irange, q]
      · show IsRangeIter _ _ _ _ _
        have e1 : lo + ((i + 1 : Nat) : Int) = lo + (i : Int) + 1 := by omega
        have e2 : (((hi' - lo).toNat : Int) - ((i + 1 : Nat) : Int)) = ((hi' - lo).toNat : Int) - (i : Int) - 1 := by omega
        rw [e1, e2]; exact a1
    · exact wpAny_pyNext_range_end hA hi (by omega) fun h' a1 => hN h' (by rw [← ht]; simp [irange]; omega) a1
end
end BP

/-! ## GComp -/
set_option linter.unusedVariables false
set_option linter.unusedSimpArgs false
namespace BP
open PySem PyProof.Rows

theorem bad_elim {c : Cx} {ρ : Loc} {e : Value} {s : Shared} (h : Bad c ρ (fun _ _ => False) e s) {P : Prop} : P := by
  obtain ⟨_, _, _, _, h⟩ := h; exact h.elim

/-! ### the comprehension's own names -/
noncomputable def closL (cells : List (Str × Addr)) : List (Str × NameKind) → List (Str × Addr) → List (Str × Addr)
  | [], acc => acc
  | (n, k) :: r, acc => if k == .free then closL cells r ((n, (cells.lookup n).getD 0) :: acc) else closL cells r acc

theorem closureFor_is (sc : Scope) (env : Env) (h : ∀ x ∈ sc.names, x.2 = .free → (env.cells.lookup x.1).isSome = true) : closureFor sc env = pure (closL env.cells sc.names []) := by
  unfold closureFor
  have key : ∀ (l : List (Str × NameKind)) (acc : List (Str × Addr)), (∀ x ∈ l, x.2 = .free → (env.cells.lookup x.1).isSome = true) →
      (forIn l acc fun x r => match x with
        | (name, kind) => if (kind == NameKind.free) = true then (do let a ← cellOf env name; pure (ForInStep.yield ((name, a) :: r))) else pure (ForInStep.yield r) : Sem _) = pure (closL env.cells l acc) := by
    intro l
    induction l with
    | nil => intro acc _; rfl
    | cons x r ih =>
      intro acc hl
      obtain ⟨n, k⟩ := x
      rw [List.forIn_cons]
      by_cases hk : k = .free
      · subst hk
        have := hl (n, .free) List.mem_cons_self rfl
        obtain ⟨a, hcell⟩ := Option.isSome_iff_exists.mp this
        have hcell' : env.cells.lookup n = some a := hcell
        simp only [beq_self_eq_true, if_true, cellOf, hcell', closL, Option.getD_some, pure_bind]
        exact ih _ fun y hy => hl y (List.mem_cons_of_mem _ hy)
      · have hb : (k == NameKind.free) = false := by simpa using hk
        simp only [hb, Bool.false_eq_true, if_false, closL, pure_bind]
        exact ih _ fun y hy => hl y (List.mem_cons_of_mem _ hy)
  exact (congrArg (· >>= fun r => pure r) (key sc.names [] h)).trans (by simp)

theorem closL_lookup (cells : List (Str × Addr)) (x : Str) (a : Addr) : ∀ (l : List (Str × NameKind)) (acc : List (Str × Addr)), (closL cells l acc).lookup x = some a →
    acc.lookup x = some a ∨ ((x, NameKind.free) ∈ l ∧ (cells.lookup x).getD 0 = a)
  | [], acc, h => .inl h
  | (n, k) :: r, acc, h => by
    unfold closL at h
    split at h
    · rename_i hk
      rcases closL_lookup cells x a r _ h with h1 | ⟨h1, h2⟩
      · rw [List.lookup_cons] at h1
        split at h1
        · rename_i hx
          have hx' : x = n := by simpa using hx
          subst hx'
          have hk' : k = .free := by simpa using hk
          subst hk'
          exact .inr ⟨List.mem_cons_self, by simpa using h1⟩
        · exact .inl h1
      · exact .inr ⟨List.mem_cons_of_mem _ h1, h2⟩
    · rcases closL_lookup cells x a r _ h with h1 | ⟨h1, h2⟩
      · exact .inl h1
      · exact .inr ⟨List.mem_cons_of_mem _ h1, h2⟩
theorem closL_some (cells : List (Str × Addr)) (x : Str) : ∀ (l : List (Str × NameKind)) (acc : List (Str × Addr)), ((x, NameKind.free) ∈ l ∨ (acc.lookup x).isSome = true) → ((closL cells l acc).lookup x).isSome = true
  | [], acc, h => by
    rcases h with h | h
    · cases h
    · exact h
  | (n, k) :: r, acc, h => by
    unfold closL
    split
    · rename_i hk
      refine closL_some cells x r _ ?_
      rcases h with h | h
      · rcases List.mem_cons.mp h with e | h
        · cases e; exact .inr (by simp)
        · exact .inl h
      · refine .inr ?_
        rw [List.lookup_cons]
        split <;> simp_all
    · rename_i hk
      refine closL_some cells x r _ ?_
      rcases h with h | h
      · rcases List.mem_cons.mp h with e | h
        · cases e; simp at hk
        · exact .inl h
      · exact .inr h

theorem lookup_relab (nm : Nms) (x : Str) : (relab nm).lookup x = (nm.lookup x).map fun k => if k == .free then .cell else k := by
  induction nm with
  | nil => rfl
  | cons p r ih =>
    obtain ⟨n, k⟩ := p
    show List.lookup x ((n, if k == .free then .cell else k) :: relab r) = _
    rw [List.lookup_cons, List.lookup_cons]
    split <;> simp_all

/-- the table that the comprehension's block runs under -/
theorem relabel_is {sc : Scope} {env : Env} (hk : env.scope.kind = .function) (h : ∀ x ∈ sc.names, x.2 = .free → env.kindOf x.1 = some .cell) : (relabel sc env).names = relab sc.names := by
  unfold relabel relab
  refine List.map_congr_left fun x hx => ?_
  obtain ⟨n, k⟩ := x
  by_cases q : k = .free
  · subst q
    have := h (n, .free) hx rfl
    have this' : env.kindOf n = some .cell := this
    simp [hk, this']
  · have hb : (k == NameKind.free) = false := by simpa using q
    simp [hb]

structure CompOk (nm : Nms) (sc : Scope) (x : String) : Prop where
  kind : sc.kind = .function
  noCell : ∀ y ∈ sc.names, y.2 ≠ .cell
  own : ∀ y ∈ sc.names, sc.names.lookup y.1 = some y.2
  var : sc.names.lookup (Str.ofString x) = some .local
  free : ∀ y ∈ sc.names, y.2 = .free → nm.lookup y.1 = some .cell
  only : ∀ y ∈ sc.names, y.2 = .local → y.1 = (".0" : Str) ∨ y.1 = Str.ofString x
theorem compOk_of {nm : Nms} {sc : Scope} {x : String} (h : compOk nm sc [x] = true) : CompOk nm sc x := by
  simp only [compOk, Bool.and_eq_true, beq_iff_eq, List.all_eq_true, Bool.or_eq_true, bne_iff_ne, ne_eq] at h
  refine Classical.byContradiction fun hG => ?_
  obtain ⟨⟨⟨⟨⟨h1, h2⟩, h3⟩, h4⟩, h5⟩, h6⟩ := h
  refine hG ?_
  clear hG
  refine ⟨h1, fun y hy q => ?_, h3, h4 x (by simp), fun y hy q => ?_, fun y hy q => ?_⟩
  · rcases h2 y hy with (h | h) | h <;> rw [q] at h <;> cases h
  · rcases h5 y hy with h | h
    · exact absurd q h
    · exact h
  · rcases h6 y hy with (h | h) | h
    · exact absurd q h
    · exact .inl h
    · simp at h; exact .inr h.symm

section
variable {c : Cx} {ρ : Loc} {σ : Sto} {s : Shared}

/-- the comprehension's own environment holds what the loop's variable and the names around it hold -/
theorem comp_env (he : EnvR c.G c.env ρ σ s.heap) {sc : Scope} {x : String} (ok : CompOk c.env.scope.names sc x) {C : Addr} {m : Str → Option Value} (hC : s.heap.Ns C m) (hσC : σ C = none) (hbC : c.G.base.get? C = none)
    {v : Value} {X : Val} (hv : vval v = some X) (hm : m (Str.ofString x) = some v) :
    EnvR c.G (compEnvC sc (closL c.env.cells sc.names []) C c.env) (upd ρ x X) σ s.heap := by
  have hnames : (relabel sc c.env).names = relab sc.names := relabel_is he.kind fun y hy hf => ok.free y hy hf
  have hkind : ∀ y, (compEnvC sc (closL c.env.cells sc.names []) C c.env).kindOf y = (sc.names.lookup y).map fun k => if k == .free then .cell else k := fun y => by
    show (relabel sc c.env).names.lookup y = _
    rw [hnames, lookup_relab]
  refine ⟨ok.kind, he.glob, he.blt, ⟨m, hC, fun y V h0 hy hV => ?_⟩, hσC, hbC, fun y hy => ?_, fun y z a hy hz => ?_⟩
  · by_cases q : y = x
    · subst q; simp [upd] at hV; subst hV; exact ⟨v, hm, hv⟩
    · rw [hkind] at hy
      exfalso
      cases hl : sc.names.lookup (Str.ofString y) with
      | none => rw [hl] at hy; cases hy
      | some k =>
        rw [hl] at hy
        have hk : k = .local := by
          by_cases hk : k = .free
          · subst hk; simp at hy
          · have hb : (k == NameKind.free) = false := by simpa using hk
            simp only [Option.map_some, hb, Bool.false_eq_true, if_false, Option.some.injEq] at hy
            exact hy
        subst hk
        rcases ok.only _ (mem_of_lookup hl) rfl with h | h
        · exact h0 (ofString_inj h)
        · exact q (ofString_inj h)
  · rw [hkind] at hy
    have hf : sc.names.lookup y = some .free := by
      cases q : sc.names.lookup y with
      | none => rw [q] at hy; cases hy
      | some k =>
        rw [q] at hy
        by_cases hk : k = .free
        · rw [hk]
        · have hb : (k == NameKind.free) = false := by simpa using hk
          simp only [Option.map_some, hb, Bool.false_eq_true, if_false, Option.some.injEq] at hy
          exact absurd (mem_of_lookup q) (fun h => ok.noCell _ h hy)
    have hmem := mem_of_lookup hf
    refine Classical.byContradiction fun hG => ?_
    obtain ⟨cc, v', h1, h2, h3, h4, h5⟩ := he.cel y (ok.free _ hmem rfl)
    refine hG ?_
    clear hG
    have hs := closL_some c.env.cells y sc.names [] (.inl hmem)
    obtain ⟨a, ha⟩ := Option.isSome_iff_exists.mp hs
    rcases closL_lookup _ _ _ _ _ ha with h | ⟨_, h⟩
    · cases h
    · rw [h1] at h
      have h : cc = a := h
      subst h
      refine ⟨cc, v', ha, h2, h3, h4, fun z V hz hV => ?_⟩
      by_cases q : z = x
      · exfalso; have := ok.var; rw [← q, hz, hf] at this; cases this
      · simp only [upd, q, if_false] at hV
        exact h5 z V hz hV
  · have g : ∀ y a, (closL c.env.cells sc.names []).lookup y = some a → c.env.cells.lookup y = some a := fun y a h => by
      rcases closL_lookup _ _ _ _ _ h with h | ⟨h1, h⟩
      · cases h
      · refine Classical.byContradiction fun hG => ?_
        obtain ⟨cc, v', h2, _⟩ := he.cel y (ok.free _ h1 rfl)
        refine hG ?_
        clear hG
        rw [h2] at h ⊢
        exact congrArg some h
    exact he.inj y z a (g y a hy) (g z a hz)
end
end BP

/-! ## GComp2 -/
set_option linter.unusedVariables false
set_option linter.unusedSimpArgs false
namespace BP
open PySem PyProof.Rows

theorem kdOf_stay {σ σ' : Sto} {V : Val} {kd : Kd} (h : KdOf σ V kd) (hs : ∀ a, V = .ref a → σ' a = σ a) : KdOf σ' V kd := by
  cases kd with
  | list a => obtain ⟨rfl, xs, h⟩ := h; exact ⟨rfl, xs, (hs a rfl).trans h⟩
  | tup a => obtain ⟨rfl, xs, h⟩ := h; exact ⟨rfl, xs, (hs a rfl).trans h⟩
  | range lo hi => obtain ⟨a, rfl, h⟩ := h; exact ⟨a, rfl, (hs a rfl).trans h⟩

/-- a comprehension's conditions -/
theorem tests_snd : ∀ (ifs : List Ex), (∀ e ∈ ifs, SndT e) → ∀ (c : Cx) (ρ : Loc) (σ : Sto) (s : Shared) (K : Bool → Sto → Prop) (E : KE) (ifs' : List PySem.Expr) (R : Bool → Shared → Prop), CxOk c → At c ρ σ s →
    mEs c.env.scope.names ifs ifs' = true → wpIfs (WF c.G c.d) c.G.gv c.hd ifs ρ σ K E → (∀ b s', GoodB c ρ K b s' → R b s') →
    wpAny (model c.G.prog c.G.w) c.A (forIn ifs' true fun x r => if r = true then do let ok ← isTrue x c.env (eval x c.env); pure (ForInStep.yield ok) else pure (ForInStep.yield r)) R (Bad c ρ E) s
  | [], _ => by
    intro c ρ σ s K E ifs' R hc ha hm hw hR
    cases ifs' with
    | nil => exact wpAny_pure (hR _ _ ⟨σ, ha, hw⟩)
    | cons _ _ => first | exact Bool.noConfusion hm | exact Bool.noConfusion (and2 hm).2 | exact Bool.noConfusion hm.2
  | e :: es, he => by
    intro c ρ σ s K E ifs' R hc ha hm hw hR
    cases ifs' with
    | nil => first | exact Bool.noConfusion hm | exact Bool.noConfusion (and2 hm).2 | exact Bool.noConfusion hm.2
    | cons x r =>
      replace hm := and2 hm
      simp only [wpIfs] at hw
      rw [List.forIn_cons]
      simp only [if_true]
      refine wpAny_bind (wpAny_bind (wpAny_mono (he e (.head _) c ρ σ s (fun b σ₁ => if b = true then wpIfs (WF c.G c.d) c.G.gv c.hd es ρ σ₁ K E else K false σ₁) E _ hc ha hm.1 hw) ?_ fun _ _ h => h))
      rintro b s₁ ⟨σ₁, ha₁, hb⟩
      refine wpAny_pure ?_
      cases b with
      | true => exact tests_snd es (fun z hz => he z (.tail _ hz)) c ρ σ₁ s₁ K E r R hc ha₁ hm.2 hb hR
      | false =>
        have key : ∀ l : List PySem.Expr, (forIn l false fun x r => if r = true then do let ok ← isTrue x c.env (eval x c.env); pure (ForInStep.yield ok) else pure (ForInStep.yield r) : Sem Bool) = pure false := by
          intro l
          induction l with
          | nil => rfl
          | cons y l ih => rw [List.forIn_cons]; simp only [Bool.false_eq_true, if_false, pure_bind]; exact ih
        dsimp only
        rw [key]
        exact wpAny_pure (hR _ _ ⟨σ₁, ha₁, hb⟩)

/-- what is known between a comprehension's turns -/
structure CInv (c : Cx) (ρ : Loc) (V : Val) (turns : List (List Val)) (kd : Kd) (I D C : Addr) (i : Nat) (acc : List Val) (σ : Sto) (s : Shared) : Prop where
  at_ : At c ρ σ s
  it : ItAt kd I i s.heap
  accd : ∃ vs, s.heap.PlainList D vs ∧ VsR vs.toList acc
  dict : ∃ m, s.heap.Ns C m
  kd : KdOf σ V kd
  len : i ≤ turns.length
  alen : acc.length ≤ i

theorem cxOk_comp {c : Cx} {ρ : Loc} {σ : Sto} {s : Shared} (hc : CxOk c) (ha : At c ρ σ s) {sc : Scope} {C : Addr} {o : Obj} (hC : s.heap.get? C = some o) (hcl : ∀ x ∈ sc.names, x.2 = .free → (c.env.cells.lookup x.1).isSome = true) :
    CxOk { c with env := compEnvC sc (closL c.env.cells sc.names []) C c.env, own := fun _ => False, σ₀ := σ, h₀ := s.heap } := by
  have base : ∀ b, s.heap.get? b = none → c.h₀.get? b = none := fun b hb => by
    cases e : c.h₀.get? b with
    | none => rfl
    | some o => obtain ⟨o', h⟩ := ha.alive b o e; rw [hb] at h; cases h
  refine ⟨ha.stays, fun b hb => ?_, hc.frames, hc.room, hc.units, hc.handled⟩
  obtain ⟨n1, n2, n3⟩ := hc.old b (base b hb)
  refine ⟨fun q => ?_, fun x q => ?_, n3⟩
  · have q : b = C := q
    have hb : s.heap.get? b = none := hb
    rw [q, hC] at hb; cases hb
  · have q : (closL c.env.cells sc.names []).lookup x = some b := q
    rcases closL_lookup _ _ _ _ _ q with h | ⟨h1, h⟩
    · cases h
    · obtain ⟨a, ha⟩ := Option.isSome_iff_exists.mp (hcl _ h1 rfl)
      have ha' : c.env.cells.lookup x = some a := ha
      rw [ha'] at h
      exact n2 x (by rw [ha']; exact congrArg some h)

theorem comp_loop {c : Cx} {ρ : Loc} {elt : Ex} {x : String} {ifs : List Ex} (h2 : SndE elt) (h3 : ∀ e ∈ ifs, SndT e) (hc : CxOk c) (hh : c.hd = false)
    {elt' it' : PySem.Expr} {px : Pos} {ifs' : List PySem.Expr} {sc : Scope} {pos : Pos} (ok : CompOk c.env.scope.names sc x) (m1 : mE (relab sc.names) elt elt' = true) (m2 : mEs (relab sc.names) ifs ifs' = true)
    {V : Val} {turns : List (List Val)} {kd : Kd} {I D C : Addr} {st : Sto → Prop} (hst : ∀ σ', st σ' → (KdOf σ' V kd ∧ turnsOf σ' V 1 = some turns)) (hI : c.h₀.get? I = none) (hD : c.h₀.get? D = none) (hC : c.h₀.get? C = none) (hID : I ≠ D) (hIC : I ≠ C) (hDC : D ≠ C)
    (hlen : turns.length ≤ lim) (hcl : ∀ x ∈ sc.names, x.2 = .free → (c.env.cells.lookup x.1).isSome = true)
    {K : List Val → Sto → Prop} {R : Result → Shared → Prop} (hR : ∀ acc σ s, CInv c ρ V turns kd I D C turns.length acc σ s → (σ I = none ∧ σ D = none ∧ σ C = none) → K acc σ → ∀ h', Heap.ExtBut I s.heap h' → R (.ok .next) { s with heap := h' })
    (n i : Nat) (acc : List Val) (σ : Sto) (s : Shared) (hi : CInv c ρ V turns kd I D C i acc σ s) (hfr : σ I = none ∧ σ D = none ∧ σ C = none) (hn : n = turns.length - i)
    (hw : wpComp (fun ρ' σ' K => wpIfs (WF c.G c.d) c.G.gv c.hd ifs ρ' σ' K (fun _ _ => False)) (fun ρ' σ' K => wpE (WF c.G c.d) c.G.gv c.hd elt ρ' σ' K (fun _ _ => False)) st [x] (turns.drop i) acc ρ σ K) :
    codeAny (model c.G.prog c.G.w) c.A (.compLoop (.ListComp elt' [⟨.Name (Str.ofString x) px, it', ifs', 0⟩] sc pos) 0 (.ref I) (.ref D) (compEnvC sc (closL c.env.cells sc.names []) C c.env)) R s := by
  refine codeAny_compLoop_tests (I := fun n s => ∃ i acc σ, CInv c ρ V turns kd I D C i acc σ s ∧ (σ I = none ∧ σ D = none ∧ σ C = none) ∧ n = turns.length - i ∧
    wpComp (fun ρ' σ' K => wpIfs (WF c.G c.d) c.G.gv c.hd ifs ρ' σ' K (fun _ _ => False)) (fun ρ' σ' K => wpE (WF c.G c.d) c.G.gv c.hd elt ρ' σ' K (fun _ _ => False)) st [x] (turns.drop i) acc ρ σ K) ?_ n ⟨i, acc, σ, hi, hfr, hn, hw⟩
  rintro n s ⟨i, acc, σ, hi, ⟨fI, fD, fC⟩, rfl, hw⟩
  have hst' : st σ := by
    cases hd : turns.drop i with
    | nil => rw [hd] at hw; exact hw.1
    | cons t ts => rw [hd] at hw; exact hw.1
  obtain ⟨hkd, htu⟩ := hst σ hst'
  refine next_snd hc hh hi.at_ htu hkd hi.it ?_ ?_
  · intro xv X h' n' hX hx hit hsb
    have hil : i < turns.length := (List.getElem?_eq_some_iff.mp hX).1
    have hdrop : turns.drop i = [X] :: turns.drop (i + 1) := by
      rw [List.drop_eq_getElem_cons hil]
      congr 1
      exact (List.getElem?_eq_some_iff.mp hX).2
    rw [hdrop] at hw
    obtain ⟨-, hw⟩ := hw
    -- the state behind the step
    have a1 : At c ρ σ { s with heap := h', toks := n' } := hi.at_.priv hc hI fI (fun b o hb e => hsb.extBut b o hb e)
    refine Classical.byContradiction fun hG => ?_
    obtain ⟨m, hm⟩ := hi.dict
    obtain ⟨vs, hvs, hac⟩ := hi.accd
    refine hG ?_
    clear hG
    have hnC : h'.Ns C m := hm.sameBut hsb (Ne.symm hIC)
    have hbC : c.G.base.get? C = none := by
      cases e : c.G.base.get? C with
      | none => rfl
      | some o => have := hc.baseIn C o e; rw [hC] at this; cases this
    have hkx : (compEnvC sc (closL c.env.cells sc.names []) C c.env).kindOf (Str.ofString x) = some .local := by
      show (relabel sc c.env).names.lookup _ = _
      rw [relabel_is hi.at_.env.kind fun y hy hf => ok.free y hy hf, lookup_relab, ok.var]; rfl
    refine wpAny_assign_Name (wpAny_storeName_local (env := compEnvC sc (closL c.env.cells sc.names []) C c.env) hkx hnC (fun h₂ hn₂ hs₂ => ?_) (by
      show ((relabel sc c.env).kind == .class || ((relabel sc c.env).kind == .module && _)) = false
      rw [show (relabel sc c.env).kind = .function from ok.kind]; rfl))
    have hs₂ : Heap.SameBut C h' h₂ := hs₂
    have hn₂ : h₂.Ns C _ := hn₂
    have a2 : At c ρ σ { s with heap := h₂, toks := n' + 1 } := a1.priv hc hC fC (fun b o hb e => hs₂.extBut b o hb e)
    have hit₂ : ItAt kd I (i + 1) h₂ := itAt_keep hit fun o e _ => hs₂.extBut I o hIC e
    have hD₂ : h₂.PlainList D vs := by
      obtain ⟨k, hk⟩ := hvs
      exact ⟨k, hs₂.extBut D _ hDC (hsb.extBut D _ (Ne.symm hID) hk)⟩
    refine Classical.byContradiction fun hG => ?_
    obtain ⟨oC₂, _, _, hoC₂, _⟩ := id hn₂
    refine hG ?_
    clear hG
    -- the element's own context
    let c' : Cx := { c with env := compEnvC sc (closL c.env.cells sc.names []) C c.env, own := fun _ => False, σ₀ := σ, h₀ := h₂ }
    have hc' : CxOk c' := cxOk_comp (s := { s with heap := h₂, toks := n' + 1 }) hc a2 hoC₂ hcl
    have b2 : At c' (upd ρ x X) σ { s with heap := h₂, toks := n' + 1 } :=
      ⟨a2.stays, a2.os, a2.gens, a2.sto, comp_env a2.env ok hn₂ fC hbC hx (by simp), a2.frs, a2.frN, fun b o e _ _ => ⟨o, e, .refl o⟩, fun b o e => ⟨o, e⟩, fun b ob e => .inl (by rw [show c'.σ₀ = σ from rfl, e]; simp)⟩
    have hnames : c'.env.scope.names = relab sc.names := relabel_is hi.at_.env.kind fun y hy hf => ok.free y hy hf
    -- what the context's steps leave alone
    have keep : ∀ {ρ' σ' s'}, At c' ρ' σ' s' → (∀ o, h₂.get? I = some o → o.cls ≠ .type "frame" → s'.heap.get? I = some o) ∧ s'.heap.PlainList D vs ∧ (∃ m, s'.heap.Ns C m) ∧ σ' I = none ∧ σ' D = none ∧ σ' C = none := by
      intro ρ' σ' s' y
      have ex : ∀ b o, h₂.get? b = some o → σ b = none → c.h₀.get? b = none → s'.heap.get? b = some o := fun b o e hb hf => by
        obtain ⟨o', e', q⟩ := y.keep b o e hb (fun h => h)
        rw [e', q.exact fun ⟨e1, q1, q2⟩ => (hc.old b hf).2.2 e1 q1 q2]
      have nw : ∀ b o, h₂.get? b = some o → σ b = none → σ' b = none := fun b o e hb => by
        cases q : σ' b with
        | none => rfl
        | some ob => rcases y.fresh b ob q with h | h
                     · exact absurd hb h
                     · have h : h₂.get? b = none := h
                       rw [e] at h; cases h
      refine Classical.byContradiction fun hG => ?_
      obtain ⟨k, hk⟩ := hD₂
      obtain ⟨oI, hoI, hcI⟩ := itAt_some hit₂
      refine hG ?_
      clear hG
      refine ⟨fun o e hf => ex I o e fI hI, ⟨k, ex D _ hk fD hD⟩, ⟨_, ns_slots hn₂ fun o e => let ⟨o', q1, q2⟩ := y.keep C o e fC (fun h => h); ⟨o', q1, q2.data⟩⟩, nw I oI hoI fI, nw D _ hk fD, nw C _ hoC₂ fC⟩
    refine wpAny_mono (tests_snd ifs h3 c' (upd ρ x X) σ _ _ (fun _ _ => False) ifs' _ hc' b2 (by rw [hnames]; exact m2) hw (fun b s' h => h)) ?_ fun e s' h => bad_elim h
    intro b s₃ H9 
    refine Classical.byContradiction fun hG => ?_
    obtain ⟨σ₃, b3, hb⟩ := H9
    obtain ⟨k1, k2, k3, k5, k6, k7⟩ := keep b3
    refine hG ?_
    clear hG
    have a3 : At c ρ σ₃ s₃ := a2.back b3 rfl rfl rfl rfl (fun _ h => h)
    cases b with
    | false =>
      have hb : wpComp _ _ st [x] (turns.drop (i + 1)) acc ρ σ₃ K := hb
      exact ⟨turns.length - (i + 1), by omega, i + 1, acc, σ₃, ⟨a3, itAt_keep hit₂ k1, ⟨vs, k2, hac⟩, k3, (hst σ₃ (by
        cases hd : turns.drop (i + 1) with
        | nil => rw [hd] at hb; exact hb.1
        | cons t ts => rw [hd] at hb; exact hb.1)).1, by omega, by have := hi.alen; omega⟩, ⟨k5, k6, k7⟩, rfl, hb⟩
    | true =>
      refine wpAny_mono (h2 c' (upd ρ x X) σ₃ s₃ _ (fun _ _ => False) _ hc' b3 (by rw [hnames]; exact m1) hb) ?_ fun e s' h => bad_elim h
      intro y s₄ H9 
      refine Classical.byContradiction fun hG => ?_
      obtain ⟨Y, σ₄, hY, b4, hb⟩ := H9
      obtain ⟨k1, k2, k3, k5, k6, k7⟩ := keep b4
      refine hG ?_
      clear hG
      have a4 : At c ρ σ₄ s₄ := a2.back b4 rfl rfl rfl rfl (fun _ h => h)
      obtain ⟨m₄, hm₄⟩ := k3
      refine wpAny_list_append_plain k2 (fun h₅ hp₅ hs₅ => ?_) (by have := hac.len; rw [Array.length_toList] at this; have := hi.alen; simp only [lim] at hlen; simp only [sizeLine]; omega)
      have a5 : At c ρ σ₄ { s₄ with heap := h₅ } := a4.priv hc hD k6 (fun b o hb e => hs₅.extBut b o hb e)
      have hb : wpComp _ _ st [x] (turns.drop (i + 1)) (acc ++ [Y]) ρ σ₄ K := hb
      refine ⟨turns.length - (i + 1), by omega, i + 1, acc ++ [Y], σ₄, ⟨a5, itAt_keep hit₂ fun o e hf => hs₅.extBut I _ hID (k1 o e hf), ⟨_, hp₅, ?_⟩, ⟨m₄, hm₄.sameBut hs₅ (Ne.symm hDC)⟩, (hst σ₄ (by
        cases hd : turns.drop (i + 1) with
        | nil => rw [hd] at hb; exact hb.1
        | cons t ts => rw [hd] at hb; exact hb.1)).1, by omega, by have := hi.alen; simp; omega⟩, ⟨k5, k6, k7⟩, rfl, hb⟩
      rw [Array.toList_push]; exact hac.append (by simp [VsR, hY])
  · intro h' hX hsb
    have hil : turns.length ≤ i := List.getElem?_eq_none_iff.mp hX
    have e : i = turns.length := by have := hi.len; omega
    subst e
    rw [List.drop_length] at hw
    exact hR acc σ s hi ⟨fI, fD, fC⟩ hw.2 h' hsb
end BP

/-! ## GComp3 -/
set_option linter.unusedVariables false
set_option linter.unusedSimpArgs false
namespace BP
open PySem PyProof.Rows

theorem comp_core {c : Cx} {ρ : Loc} {σ : Sto} {s : Shared} {elt it : Ex} {x : String} {ifs : List Ex} (h1 : SndE it) (h2 : SndE elt) (h3 : ∀ e ∈ ifs, SndT e) (hc : CxOk c) (ha : At c ρ σ s) (hh : c.hd = false)
    {elt' it' : PySem.Expr} {px : Pos} {ifs' : List PySem.Expr} {sc : Scope} {pos pos' : Pos} (ok : CompOk c.env.scope.names sc x) (m0 : mE c.env.scope.names it it' = true) (m1 : mE (relab sc.names) elt elt' = true) (m2 : mEs (relab sc.names) ifs ifs' = true)
    {K : List Val → Sto → Prop} {use : Option (Value → Sem Unit)} {Qv : Value → Shared → Prop} {Ev : Value → Shared → Prop}
    (hw : wpE (WF c.G c.d) c.G.gv c.hd it ρ σ (fun v σ₁ => ∃ turns, turnsOf σ₁ v 1 = some turns ∧ turns.length ≤ lim ∧
      wpComp (fun ρ' σ' K => wpIfs (WF c.G c.d) c.G.gv c.hd ifs ρ' σ' K (fun _ _ => False)) (fun ρ' σ' K => wpE (WF c.G c.d) c.G.gv c.hd elt ρ' σ' K (fun _ _ => False)) (stay σ₁ v 1 turns) [x] turns [] ρ σ₁ K) (fun _ _ => False))
    (hfin : ∀ ys σ' s' D C m, At c ρ (σ'.set D (.list ys)) s' → σ' D = none → K ys σ' → s'.heap.Ns C m → c.h₀.get? C = none → σ' C = none → C ≠ D → compPost (model c.G.prog c.G.w) c.A Ev use Qv (.ref D) C (.ok .next) s') :
    wpAny (model c.G.prog c.G.w) c.A (comprehension (.ListComp elt' [⟨.Name (Str.ofString x) px, it', ifs', 0⟩] sc pos) sc c.env pos' (newList []) false (eval it' c.env) use) Qv Ev s := by
  have hcl : ∀ y ∈ sc.names, y.2 = .free → (c.env.cells.lookup y.1).isSome = true := fun y hy hf => by
    refine Classical.byContradiction fun hG => ?_
    obtain ⟨cc, v, q, _⟩ := ha.env.cel y.1 (ok.free y hy hf)
    refine hG ?_
    clear hG
    rw [q]; rfl
  refine wpAny_comprehension_free rfl (fun y => (mE_notSet m0).2 _ y) (closureFor_is sc c.env hcl) ok.kind (fun y hy hl => by rw [ok.own y hy, hl]) ?_
  refine wpAny_mono (h1 c ρ σ s _ (fun _ _ => False) _ hc ha m0 hw) ?_ fun e s' h => bad_elim h
  intro v s₁ H9 
  refine Classical.byContradiction fun hG => ?_
  obtain ⟨V, σ₁, hV, a1, turns, ht, hlen, hw⟩ := H9
  refine hG ?_
  clear hG
  refine iter_snd a1 hV ht ?_
  intro o kd hkd hit hfo
  -- the accumulator, the comprehension's own names
  refine wpAny_newObj_type (wpAny_newFunctionEnv ok.noCell (by intro y hy; simp at hy) (fun h₁ hns₁ hsb₁ => ?_) ok.kind)
  dsimp only at hns₁ hsb₁ ⊢
  generalize hH1 : s₁.heap.push o = H1 at hns₁ hsb₁ hit ⊢
  generalize hH2 : H1.push { cls := .type "list", dict := none, data := .seq ([] : List Value).toArray } = H2 at hns₁ hsb₁ ⊢
  have z1 : H1.objs.size = s₁.heap.objs.size + 1 := by rw [← hH1, Heap.size_push]
  have z2 : H2.objs.size = H1.objs.size + 1 := by rw [← hH2, Heap.size_push]
  have g1 : ∀ b o', s₁.heap.get? b = some o' → H1.get? b = some o' := fun b o' e => hH1 ▸ Heap.get?_push_of_some _ e
  have g2 : ∀ b o', H1.get? b = some o' → H2.get? b = some o' := fun b o' e => hH2 ▸ Heap.get?_push_of_some _ e
  have g3 : ∀ b o', H2.get? b = some o' → h₁.get? b = some o' := fun b o' e => hsb₁.extBut b o' (Nat.ne_of_lt (Heap.lt_size e)) (Heap.get?_push_of_some _ e)
  have dD : h₁.PlainList H1.objs.size #[] := ⟨_, g3 _ _ (hH2 ▸ Heap.get?_push_size _ rfl)⟩
  have none_ge : ∀ b, s₁.heap.objs.size ≤ b → c.h₀.get? b = none ∧ σ₁ b = none := fun b hb => by
    have hn : s₁.heap.get? b = none := by
      cases e : s₁.heap.get? b with
      | none => rfl
      | some o' => exact absurd (Heap.lt_size e) (Nat.not_lt.mpr hb)
    refine ⟨?_, a1.none_of_fresh hn⟩
    cases e : c.h₀.get? b with
    | none => rfl
    | some o' => obtain ⟨o'', q⟩ := a1.alive b o' e; rw [hn] at q; cases q
  have a2 : At c ρ σ₁ { s₁ with heap := h₁, toks := s₁.toks + ([] : List (Str × Value)).length } := a1.grow fun b o' e => g3 _ _ (g2 _ _ (g1 _ _ e))
  have hit₁ : ItAt kd s₁.heap.objs.size 0 h₁ := itAt_keep hit fun o' e _ => g3 _ _ (g2 _ _ e)
  have d1 : (s₁.heap.objs.size : Nat) ≠ H1.objs.size := by omega
  have d2 : (s₁.heap.objs.size : Nat) ≠ H2.objs.size := by omega
  have d3 : (H1.objs.size : Nat) ≠ H2.objs.size := by omega
  have l1 : s₁.heap.objs.size ≤ H1.objs.size := by omega
  have l2 : s₁.heap.objs.size ≤ H2.objs.size := by omega
  have inv : CInv c ρ V turns kd s₁.heap.objs.size H1.objs.size H2.objs.size 0 [] σ₁ { s₁ with heap := h₁, toks := s₁.toks + ([] : List (Str × Value)).length } :=
    ⟨a2, hit₁, ⟨_, dD, rfl⟩, ⟨_, hns₁⟩, hkd, Nat.zero_le _, Nat.le_refl _⟩
  have loop := comp_loop (K := K) (R := compPost (model c.G.prog c.G.w) c.A Ev use Qv (.ref H1.objs.size) H2.objs.size) (it' := it') (px := px) (pos := pos) h2 h3 hc hh ok m1 m2 (st := stay σ₁ V 1 turns) (kd := kd)
    (fun σ' hs => ⟨kdOf_stay hkd hs.1, hs.2⟩) (none_ge _ (Nat.le_refl _)).1 (none_ge H1.objs.size l1).1 (none_ge H2.objs.size l2).1 d1 d2 d3 hlen hcl
    (fun acc σ' s' ci nI hk h' hext => by
      refine Classical.byContradiction fun hG => ?_
      obtain ⟨m, hm⟩ := ci.dict
      obtain ⟨vs, ⟨k, hvs⟩, hac⟩ := ci.accd
      refine hG ?_
      clear hG
      have b1 : At c ρ σ' { s' with heap := h' } := ci.at_.priv hc (none_ge _ (Nat.le_refl _)).1 nI.1 (fun b o' hb e => hext b o' hb e)
      have b2 := b1.publish hc (b := H1.objs.size) (ob := .list acc) (none_ge H1.objs.size l1).1 (hext _ _ (Ne.symm d1) hvs) ⟨vs, k, rfl, hac, by have := ci.alen; simp only [lim] at *; omega⟩
      exact hfin acc σ' _ H1.objs.size H2.objs.size m b2 nI.2.1 hk (hm.extBut hext (Ne.symm d2)) (none_ge H2.objs.size l2).1 nI.2.2 (Ne.symm d3))
    turns.length 0 [] σ₁ _ inv ⟨(none_ge _ (Nat.le_refl _)).2, (none_ge H1.objs.size l1).2, (none_ge H2.objs.size l2).2⟩ rfl (by rw [List.drop_zero]; exact hw)
  exact codeAny_compStart_list loop (iter_self a2 hit₁ loop)
end BP
namespace BP
open PySem PyProof.Rows
theorem snd_comp {elt it : Ex} {xs : List String} {ifs : List Ex} (h1 : SndE it) (h2 : SndE elt) (h3 : ∀ e ∈ ifs, SndT e) : SndE (.comp elt xs it ifs) := by
  intro c ρ σ s Q E e hc ha hm hw
  refine Classical.byContradiction fun hG => ?_
  obtain ⟨x, px, elt', it', ifs', sc, pos, rfl, rfl, hok, m0, m1, m2⟩ := mE_comp hm
  refine hG ?_
  clear hG
  simp only [wpE] at hw
  obtain ⟨hh, hw⟩ := hw
  show wpAny _ _ (comprehension (.ListComp elt' [⟨.Name (Str.ofString x) px, it', ifs', 0⟩] sc pos) sc c.env _ (newList []) false (eval it' c.env) none) _ _ _
  refine comp_core (K := fun ys σ' => newW σ' (.list ys) Q) h1 h2 h3 hc ha hh (compOk_of hok) m0 m1 m2 hw ?_
  intro ys σ' s' D C m at' hD hk hC hC₀ hCσ hCD
  refine ⟨m, hC, fun h' hs => ⟨_, _, rfl, at'.priv hc hC₀ (by rw [Sto.set_other _ _ hCD]; exact hCσ) (fun b o hb e => hs.extBut b o hb e), hk D hD⟩⟩
end BP

/-! ## GBlt -/
set_option linter.unusedVariables false
set_option linter.unusedSimpArgs false
namespace BP
open PySem PyProof.Rows

section
variable {c : Cx} {ρ : Loc} {σ : Sto} {s : Shared} {Q : KV} {E : Value → Shared → Prop}

theorem At.new (x : At c ρ σ s) {h' : Heap} {tk : Nat} {o : Obj} {ob : Ob} (hk : ∀ b o', s.heap.get? b = some o' → h'.get? b = some o') (ho : h'.get? s.heap.objs.size = some o) (hr : ObR c.G ob o) (hQ : newW σ ob Q) :
    Good c ρ Q (.ref s.heap.objs.size) { s with heap := h', toks := tk } :=
  ⟨_, _, rfl, x.alloc (a := s.heap.objs.size) x.size_none hk ho hr, hQ _ (x.none_of_fresh x.size_none)⟩

theorem VsR.bools : ∀ {vs : List Value} {bs : List Bool}, VsR vs (bs.map .bool) → vs = bs.map .bool
  | [], [], _ => rfl
  | v :: vs, b :: bs, h => by
    rw [List.map_cons, VsR.cons] at h
    rw [vval_bool h.1, VsR.bools h.2]; rfl
  | [], _ :: _, h => by simp [VsR] at h
  | _ :: _, [], h => by simp [VsR] at h

theorem range_all_getD (bs : List Bool) : ((List.range bs.length).all fun i => (bs[i]?).getD true) = bs.all id := by
  rw [Bool.eq_iff_iff]
  simp only [List.all_eq_true, List.mem_range, id]
  constructor
  · intro h b hb
    obtain ⟨i, hi, rfl⟩ := List.getElem_of_mem hb
    have := h i hi
    rwa [List.getElem?_eq_getElem hi] at this
  · intro h i hi
    rw [List.getElem?_eq_getElem hi]
    exact h _ (List.getElem_mem hi)
theorem VsR.ints : ∀ {vs : List Value} {ns : List Int}, VsR vs (ns.map .int) → IntsAre vs ns
  | [], [], _ => .nil
  | v :: vs, n :: ns, h => by
    rw [List.map_cons, VsR.cons] at h
    obtain ⟨t, rfl⟩ := vval_int h.1
    exact .cons _ _ (VsR.ints h.2)
  | [], _ :: _, h => by simp [VsR] at h
  | _ :: _, [], h => by simp [VsR] at h
theorem VsR.of_ints : ∀ {vs : List Value} {ns : List Int}, IntsAre vs ns → VsR vs (ns.map .int)
  | _, _, .nil => rfl
  | _, _, .cons n t r => by rw [List.map_cons, VsR.cons]; exact ⟨rfl, VsR.of_ints r⟩

noncomputable def BI.val : BI → Value
  | .len => .builtin "len" | .all => .builtin "all" | .list => .type "list" | .tuple => .type "tuple" | .range => .type "range" | .max => .builtin "max" | .int => .type "int"

theorem int_bool_snd (ha : At c ρ σ s) {vals : List Value} {vs : List Val} (hv : VsR vals vs) (h : bcallW .int vs σ Q) : wpAny (model c.G.prog c.G.w) c.A (PySem.call (BI.int.val) vals) (Good c ρ Q) E s := by
  cases vs with
  | nil => exact h.elim
  | cons V r' => cases r' with
    | cons _ _ => exact h.elim
    | nil => cases V with
      | none => exact h.elim
      | int _ => exact h.elim
      | str _ => exact h.elim
      | ref _ => exact h.elim
      | bool b =>
        cases vals with
        | nil => simp [VsR] at hv
        | cons v r =>
          rw [VsR.cons] at hv
          rw [vval_bool hv.1, hv.2.nil_right]
          exact call_int_bool (good_int ha h)

theorem irange_len (lo hi : Int) : (irange lo hi).length = (hi - lo).toNat := by simp [irange]

theorem list_range_snd (hA : c.A.handled = none) (ha : At c ρ σ s) {a : Nat} {lo hi : Int} (hσ : σ a = some (.range lo hi)) (h : newW σ (.list ((irange lo hi).map .int)) Q) : wpAny (model c.G.prog c.G.w) c.A (PySem.call (.type "list") [.ref a]) (Good c ρ Q) E s := by
  refine Classical.byContradiction fun hG => ?_
  obtain ⟨_, o, h1, h2, t, u, w, rfl⟩ := ha.sto _ _ hσ
  refine hG ?_
  clear hG
  refine call_list_range hA h1 (range_small h2) (rangeSize_one lo hi) (by simp only [lim] at h2; omega) fun h' tk acc' c' hk ho hit => ?_
  refine ha.new hk ho (ob := .list ((irange lo hi).map .int)) ⟨_, _, rfl, ?_, by rw [List.length_map, irange_len]; simp only [lim] at *; omega⟩ h
  have hlen : acc'.size = (hi - lo).toNat := hit.1
  refine List.ext_getElem? fun i => ?_
  simp only [List.getElem?_map]
  by_cases q : i < (hi - lo).toNat
  · have : i < acc'.toList.length := by rw [Array.length_toList]; omega
    rw [List.getElem?_eq_getElem this, List.getElem?_eq_getElem (by rw [irange_len]; exact q)]
    obtain ⟨t, ht⟩ := hit.2 i acc'.toList[i] (by rw [← Array.getElem?_toList, List.getElem?_eq_getElem this])
    simp [ht, vval, irange]
  · rw [List.getElem?_eq_none (by rw [Array.length_toList]; omega), List.getElem?_eq_none (by rw [irange_len]; omega)]; rfl
theorem bcall_snd (hc : CxOk c) (hh : c.hd = false) (ha : At c ρ σ s) (f : BI) {vals : List Value} {vs : List Val} (hv : VsR vals vs) (h : bcallW f vs σ Q) :
    wpAny (model c.G.prog c.G.w) c.A (PySem.call f.val vals) (Good c ρ Q) E s := by
  have hA := hc.handled hh
  have one : ∀ {a : Nat}, VsR vals [.ref a] → vals = [.ref a] := fun {a} h => by
    cases vals with
    | nil => simp [VsR] at h
    | cons v r => rw [VsR.cons] at h; rw [vval_ref h.1, h.2.nil_right]
  cases f with
  | len =>
    replace h := ref1_inv h
    obtain ⟨a, rfl, h⟩ := h
    rw [one hv]
    split at h
    · rename_i xs hσ
      refine Classical.byContradiction fun hG => ?_
      obtain ⟨vs, n, h1, h2, h3⟩ := ha.list hσ
      refine hG ?_
      clear hG
      have hl := h2.len; rw [Array.length_toList] at hl; simp only [lim] at h3
      exact len_list ⟨_, h1, rfl, n, rfl⟩ (by omega) (by rw [hl]; exact good_int ha h)
    · rename_i xs hσ
      refine Classical.byContradiction fun hG => ?_
      obtain ⟨vs, n, h1, h2, h3⟩ := ha.tup hσ
      refine hG ?_
      clear hG
      have hl := h2.len; rw [Array.length_toList] at hl; simp only [lim] at h3
      exact PyProof.Rows.len_tuple ⟨_, h1, rfl, n, rfl⟩ (by omega) (by rw [hl]; exact good_int ha h)
    · exact h.elim
  | all =>
    replace h := ref1_inv h
    obtain ⟨a, rfl, h⟩ := h
    replace h := onL_inv h
    obtain ⟨xs, hσ, h⟩ := h
    rw [one hv]
    refine Classical.byContradiction fun hG => ?_
    obtain ⟨bs, rfl, h⟩ := h
    obtain ⟨vs, n, h1, h2, h3⟩ := ha.list hσ
    refine hG ?_
    clear hG
    have hL : s.heap.IsList _ vs := ⟨_, h1, rfl, n, rfl⟩
    have hbs := h2.bools
    have hsz : vs.size = bs.length := by have := congrArg List.length hbs; simpa using this
    refine call_all_walk (wpAny_pyIter_list hL ?_)
    refine ⟨s.heap.objs.size, [s.heap.objs.size, _], [s.heap.objs.size], vs.size, _, _, fun i => (bs[i]?).getD true, rfl, Walks.list (A := c.A.in1) hA _ _ (Nat.ne_of_lt (Heap.lt_size h1)) vs,
      ⟨⟨_, Heap.get?_push_size _ rfl, rfl, rfl⟩, hL.push _⟩, fun i v s' Q' E' hP hQ => ?_, fun h' tk hk => ?_⟩
    · have hi : vs.toList[i]? = some v := by rw [Array.getElem?_toList]; exact hP
      rw [hbs, List.getElem?_map] at hi
      cases q : bs[i]? with
      | none => rw [q] at hi; cases hi
      | some b => rw [q] at hi; cases hi; simp only [q, Option.getD_some] at hQ; exact wpAny_truthy_bool hQ
    · rw [hsz, range_all_getD]
      exact good_val (ha.grow fun b o e => hk b o (fun hm => by rw [List.mem_singleton.mp hm] at e; exact Nat.lt_irrefl _ (Heap.lt_size e)) (Heap.get?_push_of_some _ e)) rfl h
  | list =>
    replace h := ref1_inv h
    obtain ⟨a, rfl, h⟩ := h
    rw [one hv]
    split at h
    · rename_i xs hσ
      refine Classical.byContradiction fun hG => ?_
      obtain ⟨vs, n, h1, h2, h3⟩ := ha.list hσ
      refine hG ?_
      clear hG
      have hl := h2.len; rw [Array.length_toList] at hl
      exact call_list_seq _ (.inl rfl) h1 rfl rfl (fun h' c' hk ho => ha.new hk ho (ob := .list xs) ⟨_, _, rfl, h2, h3⟩ h) (by simp only [lim] at h3; simp only [sizeLine]; omega)
    · rename_i lo hi hσ
      exact list_range_snd hA ha hσ h
    · exact h.elim
  | range =>
    cases vs with
    | nil => exact h.elim
    | cons V r' =>
     cases r' with
     | cons _ _ => exact h.elim
     | nil =>
      cases V with
      | none => exact h.elim
      | bool _ => exact h.elim
      | ref _ => exact h.elim
      | str _ => exact h.elim
      | int n =>
        cases vals with
        | nil => simp [VsR] at hv
        | cons v r =>
          rw [VsR.cons] at hv
          obtain ⟨t, rfl⟩ := vval_int hv.1
          rw [hv.2.nil_right]
          exact call_range_1 (⟨_, _, rfl, (ha.tok _).alloc (s := { s with toks := s.toks + 1 + 1 }) (a := s.heap.objs.size) (ob := .range 0 n) ha.size_none (fun _ _ e => Heap.get?_push_of_some _ e) (Heap.get?_push_size _ rfl) ⟨⟨by simp [lim], by simp [lim], h.1, h.2.1⟩, _, _, _, rfl⟩, h.2.2 _ (ha.none_of_fresh ha.size_none)⟩)
  | max =>
    cases vs with
    | nil => exact h.elim
    | cons V r' => cases r' with
      | nil => exact h.elim
      | cons W r' =>
       cases r' with
       | cons _ _ => exact h.elim
       | nil =>
        replace h := int2_inv h
        refine Classical.byContradiction fun hG => ?_
        obtain ⟨a, b, rfl, rfl, h⟩ := h
        refine hG ?_
        clear hG
        cases vals with
        | nil => simp [VsR] at hv
        | cons v r =>
          rw [VsR.cons] at hv
          obtain ⟨t, rfl⟩ := vval_int hv.1
          cases r with
          | nil => simp [VsR] at hv
          | cons v' r =>
            have hv2 := VsR.cons.mp hv.2
            obtain ⟨t', rfl⟩ := vval_int hv2.1
            rw [hv2.2.nil_right]
            refine max_two_ints hA fun h' tk hk => ?_
            have a' : At c ρ σ { s with heap := h', toks := tk } := ha.grow hk
            split
            · rename_i q; exact good_val a' rfl (by rw [show max a b = b by omega] at h; exact h)
            · rename_i q; exact good_val a' rfl (by rw [show max a b = a by omega] at h; exact h)
  | tuple =>
    replace h := ref1_inv h
    obtain ⟨a, rfl, h⟩ := h
    replace h := onL_inv h
    obtain ⟨xs, hσ, h⟩ := h
    rw [one hv]
    refine Classical.byContradiction fun hG => ?_
    obtain ⟨vs, n, h1, h2, h3⟩ := ha.list hσ
    refine hG ?_
    clear hG
    have hl := h2.len; rw [Array.length_toList] at hl
    exact call_tuple_list ⟨_, h1, rfl, n, rfl⟩ (fun h' hk => (ha.grow (s' := { s with heap := h' }) hk).push (ob := .tup xs) ⟨_, _, rfl, h2, h3⟩ rfl h) (by simp only [lim] at h3; simp only [sizeLine]; omega)
  | int => exact int_bool_snd ha hv h

theorem boot_BI (f : BI) : bootBuiltins (Str.ofString f.py) = some f.val := by
  cases f
  · exact PyProof.Rows.Boot.«len»
  · exact PyProof.Rows.Boot.«all»
  · exact PyProof.Rows.Boot.«list»
  · exact PyProof.Rows.Boot.«tuple»
  · exact PyProof.Rows.Boot.«range»
  · exact PyProof.Rows.Boot.«max»
  · exact PyProof.Rows.Boot.«int»
theorem callWith_BI {M : Model} {A : Around} {pos : Pos} (f : BI) {args : List (Bool × Sem Value)} {Q : Value → Shared → Prop} (hp : args.any (·.1) = false)
    (h : wpAny M A (spliced args) (fun vs s₁ => wpAny M A (PySem.call f.val vs) Q E s₁) E s) : wpAny M A (callWith pos f.val [] args []) Q E s := by
  cases f <;> first
    | exact Calls.callWith_builtin hp (evalArgs_any hp h)
    | exact PySem.callWith_type hp (evalArgs_any hp h)
theorem free_of (c : Cx) (f : BI) : c.G.mg (Str.ofString f.py) = none := c.G.free _ (by cases f <;> decide)
end

theorem snd_bcall {f : BI} {as : List Ex} (h1 : SndEs as) : SndE (.bcall f as) := by
  intro c ρ σ s Q E e hc ha hm hw
  refine Classical.byContradiction fun hG => ?_
  obtain ⟨y0, hy⟩ : ∃ y, y = e := ⟨e, rfl⟩
  rw [← hy] at hm
  cases y0 <;> try exact Bool.noConfusion hm
  rename_i fe as' kw pos
  cases fe <;> try exact Bool.noConfusion hm
  cases kw <;> try exact Bool.noConfusion hm
  refine Classical.byContradiction fun hG => ?_
  obtain ⟨⟨⟨h0, hg⟩, hma⟩, hlen⟩ := and4 hm
  refine hG ?_
  clear hG
  replace hlen := of_decide_eq_true hlen
  cases beq_iff_eq.mp h0
  subst hy
  refine hG ?_
  clear hG
  simp only [wpE] at hw
  show wpAny _ _ (do callWith pos (← eval (.Name (Str.ofString f.py) _) c.env) [] (backTo pos (starEach as' c.env)) []) _ _ _
  refine wpAny_bind (load_blt ha hg (free_of c f) (by cases f <;> decide) (boot_BI f) ?_)
  refine callWith_BI f (by rw [backTo_any]; exact (starEach_len _ _ _ c.env hma).1) (wpAny_mono (h1 c ρ σ s _ E _ pos hc ha hma hw.2) ?_ fun _ _ h => h)
  intro vals s₁ H9 
  refine Classical.byContradiction fun hG => ?_
  obtain ⟨vs, σ₁, hvs, ha₁, h4⟩ := H9
  refine hG ?_
  clear hG
  rcases hw.1 with hh | rfl
  · exact bcall_snd hc hh ha₁ f hvs h4
  · exact int_bool_snd ha₁ hvs h4

/-! ### isinstance -/
section
variable {c : Cx} {ρ : Loc} {σ : Sto} {s : Shared} {E : Value → Shared → Prop}
theorem isi_snd (ha : At c ρ σ s) {v : Value} {V : Val} (hv : vval v = some V) {t : Ty} {K : Bool → Prop} {R : Value → Shared → Prop} (hR : ∀ b n, K b → R (.bool b) { s with toks := n }) (h : isiW V t σ K) :
    wpAny (model c.G.prog c.G.w) c.A (PySem.call (.builtin "isinstance") [v, .type t.py]) R E s := by
  obtain ⟨hp, h⟩ := h
  cases V with
  | none =>
    rw [vval_none hv]
    cases t with
    | list => exact IsiPair.NoneType_list (hR false _ h)
    | int => exact IsiPair.NoneType_int (hR false _ h)
    | bool => exact IsiPair.NoneType_bool (hR false _ h)
    | valueError => exact Bool.noConfusion hp
    | own x => exact Bool.noConfusion hp
  | bool b =>
    rw [vval_bool hv]
    cases t with
    | list => exact IsiPair.bool_list (hR false _ h)
    | int => exact IsiPair.bool_int (hR true s.toks h)
    | bool => exact IsiPair.bool_bool (hR true s.toks h)
    | valueError => exact Bool.noConfusion hp
    | own x => exact Bool.noConfusion hp
  | int i =>
    obtain ⟨u, rfl⟩ := vval_int hv
    cases t with
    | list => exact IsiPair.int_list (hR false _ h)
    | int => exact IsiPair.int_int (hR true s.toks h)
    | bool => exact IsiPair.int_bool (hR false _ h)
    | valueError => exact Bool.noConfusion hp
    | own x => exact Bool.noConfusion hp
  | str x =>
    obtain ⟨_, u, rfl⟩ := vval_str hv
    cases t with
    | list => exact IsiPair.str_list (hR false _ h)
    | int => exact IsiPair.str_int (hR false _ h)
    | bool => exact IsiPair.str_bool (hR false _ h)
    | valueError => exact Bool.noConfusion hp
    | own x => exact Bool.noConfusion hp
  | ref a =>
    rw [vval_ref hv]
    dsimp only at h
    split at h
    · rename_i xs hσ
      refine Classical.byContradiction fun hG => ?_
      obtain ⟨vs, n, h1, h2, h3⟩ := ha.list hσ
      refine hG ?_
      clear hG
      cases t with
      | list => exact IsiPair.list_list h1 rfl (hR true s.toks h)
      | int => exact IsiPair.list_int h1 rfl (hR false _ h)
      | bool => exact IsiPair.list_bool h1 rfl (hR false _ h)
      | valueError => exact Bool.noConfusion hp
      | own x => exact Bool.noConfusion hp
    · rename_i xs hσ
      refine Classical.byContradiction fun hG => ?_
      obtain ⟨vs, n, h1, h2, h3⟩ := ha.tup hσ
      refine hG ?_
      clear hG
      cases t with
      | list => exact IsiPair.tuple_list h1 rfl (hR false _ h)
      | int => exact IsiPair.tuple_int h1 rfl (hR false _ h)
      | bool => exact IsiPair.tuple_bool h1 rfl (hR false _ h)
      | valueError => exact Bool.noConfusion hp
      | own x => exact Bool.noConfusion hp
    · exact h.elim

theorem ve_base : XBase "ValueError" veMro where
  toExcAttrBase := PySem.F.attrBase_ValueError
  hasObj := by decide +kernel
  lkClass := by rw [typeLookup_type, builtinLookup_eq_fast]; kernel_rfl
theorem typeOf_ve : typeOf (.type "ValueError") = pure (.type "type") := by kernel_rfl

theorem isx_own_snd (ha : At c ρ σ s) {v : Value} {V : Val} (hv : vval v = some V) {d : String} {D : Addr} (hD : c.G.exc d = some D) {K : Bool → Prop} {R : Value → Shared → Prop} (hR : ∀ b n, K b → R (.bool b) { s with toks := n }) (h : isxW V σ (fun c => excSub c d) K) :
    wpAny (model c.G.prog c.G.w) c.A (PySem.call (.builtin "isinstance") [v, .ref D]) R E s := by
  unfold isxW at h
  split at h
  · rename_i a
    rw [vval_ref hv]
    split at h
    · rename_i cl hσ
      refine Classical.byContradiction fun hG => ?_
      obtain ⟨_, o, ho, C, vs, hC, hcls, hdat⟩ := ha.sto a _ hσ
      obtain ⟨_, bm, X, hsub⟩ := c.G.excOk cl C hC
      obtain ⟨_, bmD, XD, _⟩ := c.G.excOk d D hD
      refine hG ?_
      clear hG
      have X' := X.keeps ha.stays
      have XD' := XD.keeps ha.stays
      have hs := hsub d D hD
      have h : K (excSub cl d) := h
      refine Classical.byContradiction fun hG => ?_
      obtain ⟨hh, g, dr, t, os⟩ := s
      refine hG ?_
      clear hG
      refine PyProof.Rows.call_isinstance_of ?_
      cases q : excSub cl d with
      | true => rw [q] at hs h; exact nested_x_own_yes X' XD' ho hcls hs (hR true t h)
      | false => rw [q] at hs h; exact nested_x_own_no ve_base X' XD' ho hcls hs (hR false (t + 1) h)
    · exact h.elim
  · exact h.elim
theorem isx_ve_snd (ha : At c ρ σ s) {v : Value} {V : Val} (hv : vval v = some V) {K : Bool → Prop} {R : Value → Shared → Prop} (hR : ∀ b n, K b → R (.bool b) { s with toks := n }) (h : isxW V σ (fun _ => true) K) :
    wpAny (model c.G.prog c.G.w) c.A (PySem.call (.builtin "isinstance") [v, .type "ValueError"]) R E s := by
  unfold isxW at h
  split at h
  · rename_i a
    rw [vval_ref hv]
    split at h
    · rename_i cl hσ
      refine Classical.byContradiction fun hG => ?_
      obtain ⟨_, o, ho, C, vs, hC, hcls, hdat⟩ := ha.sto a _ hσ
      obtain ⟨_, bm, X, hsub⟩ := c.G.excOk cl C hC
      refine hG ?_
      clear hG
      have X' := X.keeps ha.stays
      have hs : (Value.ref C :: bm).contains (.type "ValueError") = true := by
        refine Classical.byContradiction fun hG => ?_
        obtain ⟨N, nm, q, bs, hdct, sn, sub, ab, col, dd, k0, k1, k2, k3, k5, mN, hC, hN, hmN, T⟩ := X
        refine hG ?_
        clear hG
        rw [List.contains_cons, T.tail.hasType (b := true) (by decide +kernel)]; rfl
      refine Classical.byContradiction fun hG => ?_
      obtain ⟨hh, g, dr, t, os⟩ := s
      refine hG ?_
      clear hG
      refine PyProof.Rows.call_isinstance_of ?_
      exact nested_x_type_yes X' ho hcls typeOf_ve hs (hR true t h)
    · exact h.elim
  · exact h.elim
end

theorem boot_Ty (t : Ty) (h : t.plain = true) : bootBuiltins (Str.ofString t.py) = some (.type t.py) := by
  cases t
  · exact PyProof.Rows.Boot.«list»
  · exact PyProof.Rows.Boot.«int»
  · exact PyProof.Rows.Boot.«bool»
  · exact Bool.noConfusion h
  · exact Bool.noConfusion h

theorem snd_isi {e : Ex} {t : Ty} (h1 : SndE e) : SndE (.isi e t) := by
  intro c ρ σ s Q E x hc ha hm hw
  refine Classical.byContradiction fun hG => ?_
  obtain ⟨y0, hy⟩ : ∃ y, y = x := ⟨x, rfl⟩
  rw [← hy] at hm
  cases y0 <;> try exact Bool.noConfusion hm
  rename_i fe as' kw pos
  cases fe <;> try exact Bool.noConfusion hm
  cases as' with
  | nil => exact Bool.noConfusion hm
  | cons e' r => cases r with
    | nil => exact Bool.noConfusion hm
    | cons t' r =>
        cases t' <;> try exact Bool.noConfusion hm
        cases r <;> try exact Bool.noConfusion hm
        cases kw <;> try exact Bool.noConfusion hm
        refine Classical.byContradiction fun hG => ?_
        obtain ⟨⟨⟨⟨h0, hg⟩, h2⟩, hg'⟩, hme⟩ := and5 hm
        refine hG ?_
        clear hG
        cases beq_iff_eq.mp h0
        cases beq_iff_eq.mp h2
        rename_i p1 p2
        subst hy
        refine hG ?_
        clear hG
        simp only [wpE] at hw
        show wpAny _ _ (do callWith pos (← eval (.Name ("isinstance" : Str) p1) c.env) [] (backTo pos (starEach [e', .Name (Str.ofString t.py) p2] c.env)) []) _ _ _
        refine wpAny_bind (load_blt ha hg (c.G.free "isinstance" (by decide)) (by decide) PyProof.Rows.Boot.«isinstance» ?_)
        rw [starEach_plain hme]
        refine Calls.callWith_builtin rfl (Calls.evalArgs_plain ?_)
        show wpAny _ _ (spliced ((false, eval e' c.env) :: [(false, eval (.Name (Str.ofString t.py) p2) c.env)])) _ _ _
        refine Calls.spliced_cons (wpAny_mono (h1 c ρ σ s _ E _ hc ha hme hw) ?_ fun _ _ h => h)
        intro v s₁ H9 
        refine Classical.byContradiction fun hG => ?_
        obtain ⟨V, σ₁, hV, ha₁, hw₁⟩ := H9
        refine hG ?_
        clear hG
        have plain : isiW V t σ₁ (fun b => Q (.bool b) σ₁) → wpAny (model c.G.prog c.G.w) c.A (spliced [(false, eval (.Name (Str.ofString t.py) p2) c.env)]) (fun vs s₂ => wpAny (model c.G.prog c.G.w) c.A (PySem.call (.builtin "isinstance") (v :: vs)) (Good c ρ Q) (Bad c ρ E) s₂) (Bad c ρ E) s₁ := fun hw₁ => by
          refine Calls.spliced_cons (load_blt ha₁ hg' (c.G.free t.py ?_) ?_ (boot_Ty t hw₁.1) (Calls.spliced_nil ?_))
          · have h1 := hw₁.1
            cases t <;> first | (decide; done) | exact Bool.noConfusion h1
          · have h1 := hw₁.1
            cases t <;> first | (decide; done) | exact Bool.noConfusion h1
          · exact isi_snd ha₁ hV (fun b n hb => ⟨_, σ₁, rfl, ha₁.tok n, hb⟩) hw₁
        cases t with
        | valueError =>
          refine Calls.spliced_cons (load_blt ha₁ hg' (c.G.free "ValueError" (by decide)) (by decide) PyProof.Rows.Boot.«ValueError» (Calls.spliced_nil ?_))
          exact isx_ve_snd ha₁ hV (fun b n hb => ⟨_, σ₁, rfl, ha₁.tok n, hb⟩) hw₁
        | own d =>
          refine Classical.byContradiction fun hG => ?_
          obtain ⟨hx, hw₁⟩ := hw₁
          obtain ⟨D, hD⟩ := Option.isSome_iff_exists.mp (show (c.G.exc d).isSome = true from hx)
          refine hG ?_
          clear hG
          refine Calls.spliced_cons (load_glob ha₁ hg' (c.G.excOk d D hD).1 (Calls.spliced_nil ?_))
          exact isx_own_snd ha₁ hV hD (fun b n hb => ⟨_, σ₁, rfl, ha₁.tok n, hb⟩) hw₁
        | list => exact plain hw₁
        | int => exact plain hw₁
        | bool => exact plain hw₁

/-! ### methods -/
section
variable {c : Cx} {ρ : Loc} {σ : Sto} {s : Shared} {Q : KV} {E : Value → Shared → Prop}

noncomputable def ME.id : ME → String
  | .append => "list.append"

theorem upd_list (ha : At c ρ σ s) {a : Nat} {xs ys : List Val} {vs : Array Value} {n tk : Nat} {f : Array Value → Array Value} (hσ : σ a = some (.list xs)) (h1 : s.heap.get? a = some ⟨.type "list", none, .seq vs n, #[]⟩)
    (h2 : VsR (f vs).toList ys) (h3 : ys.length ≤ 2 * lim) : At c ρ (σ.set a (.list ys)) { s with heap := s.heap.update a (Obj.mapSeq f), toks := tk } := by
  refine ha.update hσ (fun b o hb e => (Heap.get?_update_other _ _ (Ne.symm hb)).trans e) (Heap.get?_update_self _ h1 rfl) ⟨_, _, rfl, h2, h3⟩

theorem meth_snd (hc : CxOk c) (ha : At c ρ σ s) (m : ME) {v : Value} {V : Val} (hv : vval v = some V) {vals : List Value} {vs : List Val} (hvs : VsR vals vs) (h : methW m V vs σ Q) :
    wpAny (model c.G.prog c.G.w) c.A (PySem.call (.builtin m.id) (v :: vals)) (Good c ρ Q) E s := by
  cases V with
  | none => exact h.elim
  | bool _ => exact h.elim
  | int _ => exact h.elim
  | str _ => exact h.elim
  | ref a =>
    replace h := onL_inv h
    obtain ⟨xs, hσ, h⟩ := h
    rw [vval_ref hv]
    refine Classical.byContradiction fun hG => ?_
    obtain ⟨ws, n, h1, h2, h3⟩ := ha.list hσ
    refine hG ?_
    clear hG
    have hl := h2.len
    rw [Array.length_toList] at hl
    cases m with
    | append =>
      cases vs with
      | nil => exact h.elim
      | cons x r' =>
       cases r' with
       | cons _ _ => exact h.elim
       | nil =>
        cases vals with
        | nil => simp [VsR] at hvs
        | cons y r =>
          rw [VsR.cons] at hvs
          rw [hvs.2.nil_right]
          have h4 := h.1; simp only [lim] at h3 h4
          refine wpAny_list_append_plain ⟨n, h1⟩ (fun h' hp hs => ?_) (by simp only [sizeLine]; omega)
          obtain ⟨k, hk⟩ := hp
          refine ⟨_, _, rfl, ha.update hσ (fun b o hb e => hs.extBut b o hb e) hk (ob' := .list (xs ++ [_])) ⟨_, _, rfl, ?_, ?_⟩, h.2⟩
          · rw [Array.toList_push]; exact h2.append (by simp [VsR, hvs.1])
          · simp only [List.length_append, List.length_cons, List.length_nil, lim]; omega
end
end BP

/-! ## GMeth -/
set_option linter.unusedVariables false
set_option linter.unusedSimpArgs false
namespace BP
open PySem PyProof.Rows

theorem attrBase_plain {o : PySem.Expr} (h : plainBase o = true) (n : Str) (env : Env) (whole : Sem Value) : attributeBase o n env whole = whole := by
  unfold attributeBase
  split
  · rename_i id p pos
    simp [plainBase] at h
  · rfl

theorem getMethod_list {prog : Program} {w : World} {A : Around} {E : Value → Shared → Prop} {s : Shared} {a : Addr} {ob : Obj} {m : ME} (ho : s.heap.get? a = some ob) (hcl : ob.cls = .type "list") (hd : ob.dict = none)
    {pl : Sem Bool} {Q : Value × List Value → Shared → Prop} (h : Q (.builtin m.id, [.ref a]) s) : wpAny (model prog w) A (getMethod (.ref a) (Str.ofString m.py) pl) Q E s := by
  have hd' : ∀ b, Value.ref a = .ref b → ∃ ob, s.heap.get? b = some ob ∧ ob.dict = none := fun b e => by cases e; exact ⟨ob, ho, hd⟩
  cases m
  · exact getMethod_builtin (T := "list") ⟨_, ho, hcl⟩ F.plainAttrs_list F.slot_list_append F.type_list_append hd' h

theorem snd_meth {o : Ex} {m : ME} {as : List Ex} (h1 : SndE o) (h2 : SndEs as) : SndE (.meth o m as) := by
  intro c ρ σ s Q E e hc ha hm hw
  refine Classical.byContradiction fun hG => ?_
  obtain ⟨y0, hy⟩ : ∃ y, y = e := ⟨e, rfl⟩
  rw [← hy] at hm
  cases y0 <;> try exact Bool.noConfusion hm
  rename_i fe as' kw pos
  cases fe <;> try exact Bool.noConfusion hm
  cases kw <;> try exact Bool.noConfusion hm
  rename_i o' m' ap
  refine Classical.byContradiction fun hG => ?_
  obtain ⟨⟨⟨⟨⟨h0, hm1⟩, hm2⟩, hp⟩, hline⟩, hlen⟩ := and6 hm
  refine hG ?_
  clear hG
  replace hlen := of_decide_eq_true hlen
  replace hline := beq_iff_eq.mp hline
  cases beq_iff_eq.mp h0
  subst hy
  refine hG ?_
  clear hG
  simp only [wpE] at hw
  have hstar := starEach_len _ _ _ c.env hm2
  have hany : (backTo pos (starEach as' c.env)).any (·.1) = false := by rw [backTo_any]; exact hstar.1
  rw [arm_eval_Call, attrBase_plain hp]
  refine wpAny_bind (wpAny_mono (h1 c ρ σ s _ E _ hc ha hm1 hw) ?_ fun _ _ h => h)
  intro v s₁ H9 
  refine Classical.byContradiction fun hG => ?_
  obtain ⟨V, σ₁, hV, ha₁, hon, hw₁⟩ := H9
  obtain ⟨a, xs, rfl, hσ⟩ := hon
  refine hG ?_
  clear hG
  rw [vval_ref hV]
  refine Classical.byContradiction fun hG => ?_
  obtain ⟨vs, n, g1, g2, g3⟩ := ha₁.list hσ
  refine hG ?_
  clear hG
  refine wpAny_bind (wpAny_standAt ?_)
  have hform : methodCallForm (as'.length + ([] : List Keyword).length) (backTo pos (starEach as' c.env)) (backToKw pos (keywordEach [] c.env)) = true := by
    simp only [methodCallForm, Bool.and_eq_true, decide_eq_true_eq]
    refine ⟨⟨?_, rfl⟩, ?_⟩
    · rw [List.all_eq_not_any_not]; simpa using hany
    · have : (backToKw pos (keywordEach [] c.env)).isEmpty = true := rfl
      rw [this]; simp only [if_true, List.length_nil]; omega
  unfold methodCall
  rw [hform]
  refine wpAny_bind (wpAny_holding ?_)
  unfold calleeOf
  simp only [if_true]
  refine getMethod_list g1 rfl rfl ?_
  have hpos : methodCallPos true o' c.env ap pos = pure pos := by
    unfold methodCallPos
    simp [hline]
  rw [hpos]
  refine wpAny_bind (wpAny_pure ?_)
  refine Calls.callWith_builtin hany (evalArgs_any hany (wpAny_mono (h2 c ρ σ₁ s₁ _ E _ pos hc ha₁ hm2 hw₁) ?_ fun _ _ h => h))
  intro vals s₂ H9 
  refine Classical.byContradiction fun hG => ?_
  obtain ⟨ws, σ₂, hvs, ha₂, h4⟩ := H9
  refine hG ?_
  clear hG
  exact meth_snd hc ha₂ m rfl hvs h4
end BP

/-! ## GAttr -/
set_option linter.unusedVariables false
set_option linter.unusedSimpArgs false
namespace BP
open PySem PyProof.Rows

section
variable {c : Cx} {ρ : Loc} {σ : Sto} {s : Shared} {Q : KV} {E : Value → Shared → Prop}

theorem isStr_iff (a b : String) (t : Nat) : (Value.str (Str.ofString a) t).isStr (Str.ofString b) = decide (a = b) := by
  by_cases h : a = b
  · subst h; simp [Value.isStr]
  · have : Str.ofString a ≠ Str.ofString b := fun q => h (ofString_inj q)
    simp [Value.isStr, h, this]

theorem AttR.get {es : List DictEntry} {fs : List (String × Val)} (h : AttR es fs) {a : String} {V : Val} (hl : fs.lookup a = some V) : ∃ v, W.getL (Str.ofString a) es = some (some v) ∧ vval v = some V := by
  have : ∃ e, es.find? (·.key.isStr (Str.ofString a)) = some e ∧ vval e.val = some V := by
    induction h with
    | nil => simp at hl
    | @cons e es b W fs hk hv _ ih =>
      obtain ⟨t, hk⟩ := hk
      rw [List.lookup_cons] at hl
      by_cases q : a = b
      · subst q
        simp at hl
        exact ⟨e, by rw [List.find?_cons, hk, isStr_iff]; simp, by rw [hv, hl]⟩
      · have hb : (a == b) = false := by simpa using q
        rw [hb] at hl
        obtain ⟨e', h1, h2⟩ := ih hl
        refine ⟨e', ?_, h2⟩
        rw [List.find?_cons, hk, isStr_iff, show decide (b = a) = false from by simpa using fun h => q h.symm]
        exact h1
  obtain ⟨e, h1, h2⟩ := this
  exact ⟨e.val, by simp [W.getL, h1], h2⟩

theorem instAt_of (ha : At c ρ σ s) {a dx : Nat} {cl : String} {fs : List (String × Val)} (h1 : σ a = some (.inst cl dx)) (h2 : σ dx = some (.attrs fs)) :
    ∃ C es n, c.G.cls cl = some C ∧ W.InstAt s.heap a ⟨.ref C, some dx, .plain, #[]⟩ C (some (W.dictOf es n)) ∧ AttR es fs ∧ fs.length ≤ 100 := by
  refine Classical.byContradiction fun hG => ?_
  obtain ⟨_, o, ho, C, hC, rfl⟩ := ha.sto a _ h1
  obtain ⟨_, o', ho', es, n, rfl, hr, hl⟩ := ha.sto dx _ h2
  refine hG ?_
  clear hG
  exact ⟨C, es, n, hC, ⟨ho, rfl, rfl, ho'⟩, hr, hl⟩

theorem vval_handed {v : Value} {V : Val} (h : vval v = some V) : W.handedIn v = true := by cases v <;> first | rfl | (simp [vval] at h)

theorem kin_at (ha : At c ρ σ s) : c.G.K.In s.heap := c.G.kin.keeps ha.stays

theorem attr_snd (ha : At c ρ σ s) {v : Value} {V : Val} (hv : vval v = some V) {a : String} {expr : Bool} (h : attrW V a σ Q) :
    wpAny (model c.G.prog c.G.w) c.A (getAttr v (Str.ofString a) expr) (Good c ρ Q) E s := by
  unfold attrW at h
  obtain ⟨hin, h⟩ := h
  split at h
  · rw [vval_ref hv]
    split at h
    · rename_i cl dx h1
      split at h
      · rename_i fs h2
        split at h
        · rename_i y hy
          refine Classical.byContradiction fun hG => ?_
          obtain ⟨C, es, n, hC, hI, hr, _⟩ := instAt_of ha h1 h2
          obtain ⟨k1, k2, k3, k4, k5⟩ := c.G.clsOk _ _ hC
          obtain ⟨v, g1, g2⟩ := hr.get hy
          refine hG ?_
          clear hG
          simp only [W.plainGet, Bool.and_eq_true, beq_iff_eq] at k1
          exact W.get_value (kin_at ha) hI k1.1 (W.findObj_own k2 (k5 a hin) rfl g1) (vval_handed g2) ⟨_, σ, g2, ha.tok _, h⟩
        · exact h.elim
      · exact h.elim
    · exact h.elim
  · exact h.elim

theorem snd_attr {o : Ex} {a : String} (h1 : SndE o) : SndE (.attr o a) := by
  intro c ρ σ s Q E e hc ha hm hw
  cases e <;> try exact Bool.noConfusion hm
  rename_i o' a' pos
  refine Classical.byContradiction fun hG => ?_
  obtain ⟨⟨h0, hm1⟩, hpb⟩ := and3 hm
  refine hG ?_
  clear hG
  cases beq_iff_eq.mp h0
  simp only [wpE] at hw
  rw [arm_eval_Attribute, attrBase_plain hpb]
  refine wpAny_bind (wpAny_mono (h1 c ρ σ s _ E _ hc ha hm1 hw) ?_ fun _ _ h => h)
  intro v s₁ H9 
  refine Classical.byContradiction fun hG => ?_
  obtain ⟨V, σ₁, hV, ha₁, hw₁⟩ := H9
  refine hG ?_
  clear hG
  refine wpAny_bind (wpAny_standAt (wpAny_bind (wpAny_holding (wpAny_mono (attr_snd (E := Bad c ρ E) ha₁ hV hw₁) ?_ fun _ _ h => h))))
  rintro r s₂ h₂
  exact wpAny_bind (wpAny_letTemporaryGo (wpAny_pure h₂))
end
end BP

/-! ## GEx -/
set_option linter.unusedVariables false
namespace BP
open PySem PyProof.Rows

noncomputable def plainT : Ex → Bool
  | .not_ _ => false
  | .and_ _ => false
  | .or_ _ => false
  | .cmp _ _ _ => false
  | .ite _ _ _ => false
  | _ => true
theorem noBool {nm : Nms} {o : BoolOp} {es : List PySem.Expr} {p : Pos} : ∀ ex, mE nm ex (.BoolOp o es p) = true → plainT ex = false := fun ex hm => by
  cases ex <;> first | rfl | exact Bool.noConfusion hm
theorem noNot {nm : Nms} {x : PySem.Expr} {p : Pos} : ∀ ex, mE nm ex (.UnaryOp .Not x p) = true → plainT ex = false := fun ex hm => by
  cases ex <;> first | rfl | exact Bool.noConfusion hm
theorem noCmp {nm : Nms} {x : PySem.Expr} {o : List CmpOp} {es : List PySem.Expr} {p : Pos} : ∀ ex, mE nm ex (.Compare x o es p) = true → plainT ex = false := fun ex hm => by
  cases ex <;> first | rfl | exact Bool.noConfusion hm
theorem noIte {nm : Nms} {x y z : PySem.Expr} {p : Pos} : ∀ ex, mE nm ex (.IfExp x y z p) = true → plainT ex = false := fun ex hm => by
  cases ex <;> first | rfl | exact Bool.noConfusion hm
theorem isTrue_plain {ex : Ex} (h : plainT ex = true) (nm : Nms) (e : PySem.Expr) (env : Env) (whole : Sem Value) (hm : mE nm ex e = true) :
    isTrue e env whole = (do let v ← whole; standAt e.pos; holding [v] (truthy v)) := by
  cases e <;> first
    | rfl
    | (rename_i op _ _; cases op <;> first | rfl | exact absurd (h.symm.trans (noNot _ hm)) Bool.noConfusion)
    | exact absurd (h.symm.trans (noBool _ hm)) Bool.noConfusion
    | exact absurd (h.symm.trans (noCmp _ hm)) Bool.noConfusion
    | exact absurd (h.symm.trans (noIte _ hm)) Bool.noConfusion

theorem sndT_of {ex : Ex} (h : SndE ex) (h1 : plainT ex = true) : SndT ex := sndT_value h (isTrue_plain h1)

theorem sndEs_of : ∀ es : List Ex, (∀ e ∈ es, SndE e) → SndEs es
  | [], _ => sndEs_nil
  | e :: es, h => sndEs_cons (h e (by simp)) (sndEs_of es fun e' he => h e' (by simp [he]))

mutual
theorem sndE : ∀ ex : Ex, SndE ex ∧ SndT ex
  | .none_ => ⟨snd_none, sndT_of snd_none rfl⟩
  | .bool_ b => ⟨snd_bool b, sndT_of (snd_bool b) rfl⟩
  | .int_ i => ⟨snd_int i, sndT_of (snd_int i) rfl⟩
  | .str_ x => ⟨snd_str x, sndT_of (snd_str x) rfl⟩
  | .ite a t e => ⟨snd_ite (sndE a).2 (sndE t).1 (sndE e).1, sndT_ite (sndE a).2 (sndE t).2 (sndE e).2⟩
  | .var x => ⟨snd_var x, sndT_of (snd_var x) rfl⟩
  | .glob x => ⟨snd_glob x, sndT_of (snd_glob x) rfl⟩
  | .bin op l r => let h := snd_bin (sndE l).1 (sndE r).1 (bin_snd op); ⟨h, sndT_of h rfl⟩
  | .not_ e => ⟨snd_not (sndE e).1, sndT_not (sndE e).2⟩
  | .neg e => let h := snd_neg (sndE e).1; ⟨h, sndT_of h rfl⟩
  | .and_ es => ⟨snd_and fun e he => (sndAll es e he).1, sndT_and fun e he => (sndAll es e he).2⟩
  | .or_ es => ⟨snd_or fun e he => (sndAll es e he).1, sndT_or fun e he => (sndAll es e he).2⟩
  | .cmp l ops rs => ⟨snd_cmp (sndE l).1 fun e he => (sndAll rs e he).1, sndT_cmp (sndE l).1 fun e he => (sndAll rs e he).1⟩
  | .list es => let h := snd_list (sndEs_of es fun e he => (sndAll es e he).1); ⟨h, sndT_of h rfl⟩
  | .tup es => let h := snd_tup (sndEs_of es fun e he => (sndAll es e he).1); ⟨h, sndT_of h rfl⟩
  | .call f as => let h := snd_call (f := f) (sndEs_of as fun e he => (sndAll as e he).1); ⟨h, sndT_of h rfl⟩
  | .bcall f as => let h := snd_bcall (f := f) (sndEs_of as fun e he => (sndAll as e he).1); ⟨h, sndT_of h rfl⟩
  | .isi e t => let h := snd_isi (t := t) (sndE e).1; ⟨h, sndT_of h rfl⟩
  | .meth o m as => let h := snd_meth (m := m) (sndE o).1 (sndEs_of as fun e he => (sndAll as e he).1); ⟨h, sndT_of h rfl⟩
  | .sub o i => let h := snd_sub (sndE o).1 (sndE i).1; ⟨h, sndT_of h rfl⟩
  | .slice o lo hi st => let h := snd_slice (sndE o).1 (sndE lo).1 (sndE hi).1 (sndE st).1; ⟨h, sndT_of h rfl⟩
  | .attr o a => let h := snd_attr (a := a) (sndE o).1; ⟨h, sndT_of h rfl⟩
  | .comp elt xs it ifs => let h := snd_comp (xs := xs) (sndE it).1 (sndE elt).1 fun e he => (sndAll ifs e he).2; ⟨h, sndT_of h rfl⟩
theorem sndAll : ∀ es : List Ex, ∀ e ∈ es, SndE e ∧ SndT e
  | [], _, h => by simp at h
  | e :: es, e', h =>
    let h1 := sndE e
    let h2 := sndAll es
    (List.mem_cons.mp h).elim (fun q => q ▸ h1) fun q => h2 e' q
end
end BP

/-! ## GStm -/
set_option linter.unusedVariables false
set_option linter.unusedSimpArgs false
namespace BP
open PySem PyProof.Rows

/-- a context owns its locals and its cells, and nothing else -/
noncomputable def Owns (c : Cx) : Prop := (∀ b, c.own b ↔ (b = c.env.locals ∨ ∃ x, c.env.cells.lookup x = some b)) ∧ (∃ outer, c.fr = c.env :: outer) ∧ c.env.frame = some c.env.locals

noncomputable def GoodF (c : Cx) (Q : KS) : Flow → Shared → Prop := fun fl s' => ∃ ρ' σ', At c ρ' σ' s' ∧ match fl with
  | .next => Q .next ρ' σ'
  | .ret v => ∃ V, vval v = some V ∧ Q (.ret V) ρ' σ'
  | _ => False
noncomputable def BadX (c : Cx) (E : KX) : Value → Shared → Prop := fun e s' => ∃ cl ρ' σ', At c ρ' σ' s' ∧ ExcAt c e cl σ' s'.heap ∧ E cl ρ' σ'

noncomputable def SndS (st : St) : Prop := ∀ (c : Cx) (ρ : Loc) (σ : Sto) (s : Shared) (Q : KS) (E : KX) (e : PySem.Stmt), CxOk c → Owns c → At c ρ σ s → mS c.env.scope.names st e = true →
  wpS (WF c.G c.d) c.G.gv c.hd st ρ σ Q E → wpAny (model c.G.prog c.G.w) c.A (exec e c.env) (GoodF c Q) (BadX c E) s
noncomputable def SndSs (sts : List St) : Prop := ∀ (c : Cx) (ρ : Loc) (σ : Sto) (s : Shared) (Q : KS) (E : KX) (es : List PySem.Stmt), CxOk c → Owns c → At c ρ σ s → mSs c.env.scope.names sts es = true →
  wpSs (WF c.G c.d) c.G.gv c.hd sts ρ σ Q E → wpAny (model c.G.prog c.G.w) c.A (execs es c.env) (GoodF c Q) (BadX c E) s

theorem bad_bad {c : Cx} {ρ : Loc} {E : KX} {e : Value} {s : Shared} (h : Bad c ρ (fun cl σ' => E cl ρ σ') e s) : BadX c E e s := by
  refine Classical.byContradiction fun hG => ?_
  obtain ⟨cl, σ', h1, h2, h3⟩ := h
  refine hG ?_
  clear hG
  exact ⟨cl, ρ, σ', h1, h2, h3⟩

section
variable {c : Cx} {ρ : Loc} {σ : Sto} {s : Shared} {E : Value → Shared → Prop}

/-- one address of the context's own changes -/
theorem At.ownUpd (x : At c ρ σ s) {s' : Shared} {b : Addr} (hown : c.own b) (hσ : σ b = none) (hB : c.G.base.get? b = none) 
    (hk : ∀ b' o, b' ≠ b → s.heap.get? b' = some o → s'.heap.get? b' = some o) (hb : ∃ o, s'.heap.get? b = some o ∧ ∀ vs, o.data ≠ .fields vs) {ρ' : Loc} (henv : EnvR c.G c.env ρ' σ s'.heap) (ho : s'.os = s.os := by rfl) (hg : s'.gens = s.gens := by rfl) : At c ρ' σ s' := by
  refine ⟨fun b' o e => hk _ _ (fun q => by rw [q, hB] at e; cases e) (x.stays b' o e), ho.trans x.os, hg.trans x.gens, fun a ob e => ?_, henv, ?_, x.frN, fun b' o e h1 h2 => ?_, fun b' o e => ?_, x.fresh⟩
  · refine Classical.byContradiction fun hG => ?_
    obtain ⟨h1, o, h2, h3⟩ := x.sto a ob e
    refine hG ?_
    clear hG
    exact ⟨h1, o, hk _ _ (fun q => by rw [q, hσ] at e; cases e) h2, h3⟩
  · have key : ∀ l : List Env, s.heap.FunFrames c.G.base l → s'.heap.FunFrames c.G.base l := by
      intro l
      induction l with
      | nil => intro _; trivial
      | cons e r ih =>
        rintro ⟨h1, ⟨L, oL, h2, h3, h4, h5⟩, h6⟩
        refine ⟨h1, ?_, ih h6⟩
        by_cases q : L = b
        · obtain ⟨o', g1, g2⟩ := hb
          exact ⟨L, o', h2, h3, q ▸ g1, g2⟩
        · exact ⟨L, oL, h2, h3, hk _ _ q h4, h5⟩
    exact key _ x.frs
  · obtain ⟨o', h3, h4⟩ := x.keep b' o e h1 h2
    exact ⟨o', hk _ _ (fun q => h2 (q ▸ hown)) h3, h4⟩
  · obtain ⟨o', h⟩ := x.alive b' o e
    by_cases q : b' = b
    · obtain ⟨o', g1, _⟩ := hb; exact ⟨o', q ▸ g1⟩
    · exact ⟨o', hk _ _ q h⟩

theorem isVar_kind {x : String} (h : isVar c.env.scope.names x = true) : x ≠ ".0" ∧ (c.env.kindOf (Str.ofString x) = some .local ∨ c.env.kindOf (Str.ofString x) = some .cell) := by
  simp only [isVar, Bool.and_eq_true, bne_iff_ne, ne_eq, Bool.or_eq_true, beq_iff_eq] at h
  exact ⟨h.1.1, h.2⟩

theorem ns_cell {h : Heap} {a : Addr} {m : Str → Option Value} {v : Option Value} (x : h.Ns a m) (y : h.IsCell a v) : False := by
  refine Classical.byContradiction fun hG => ?_
  obtain ⟨o, es, ep, h1, h2, _⟩ := x
  obtain ⟨o', h3, h4⟩ := y
  refine hG ?_
  clear hG
  rw [h1] at h3; cases h3; rw [h2] at h4; cases h4

/-- a name is bound -/
theorem bind_snd (ha : At c ρ σ s) (hown : Owns c) {x : String} (hx : isVar c.env.scope.names x = true) {v : Value} {V : Val} (hv : vval v = some V) {R : Unit → Shared → Prop}
    (hR : ∀ s', At c (upd ρ x V) σ s' → (∀ b o, ¬ c.own b → s.heap.get? b = some o → s'.heap.get? b = some o) → R () s') :
    wpAny (model c.G.prog c.G.w) c.A (storeName c.env (Str.ofString x) v) R E s := by
  refine Classical.byContradiction fun hG => ?_
  obtain ⟨h0, hk⟩ := isVar_kind hx
  obtain ⟨m, hn, hl⟩ := ha.env.loc
  refine hG ?_
  clear hG
  rcases hk with hk | hk
  · refine wpAny_storeName_local hk hn (fun h' hn' hs' => ?_) (by rw [ha.env.kind]; rfl)
    refine Classical.byContradiction fun hG => ?_
    obtain ⟨oL, es, ep, hoL, hdL, _⟩ := id hn'
    refine hG ?_
    clear hG
    refine hR _ (ha.ownUpd ((hown.1 _).mpr (.inl rfl)) ha.env.locN ha.env.locB (fun b' o hb e => hs'.extBut b' o hb e) ⟨oL, hoL, fun vs q => by rw [hdL] at q; cases q⟩
      ⟨ha.env.kind, ha.env.glob, ha.env.blt, ⟨_, hn', fun y W hy0 hy hW => ?_⟩, ha.env.locN, ha.env.locB, fun y hy => ?_, ha.env.inj⟩) fun b o hb e => hs'.extBut b o (fun q => hb (q ▸ (hown.1 _).mpr (.inl rfl))) e
    · by_cases q : y = x
      · subst q; simp [upd] at hW; subst hW; exact ⟨v, by simp, hv⟩
      · simp only [upd, q, if_false] at hW
        obtain ⟨w, h1, h2⟩ := hl y W hy0 hy hW
        exact ⟨w, by simp only [show ¬ Str.ofString y = Str.ofString x from fun h => q (ofString_inj h), if_false]; exact h1, h2⟩
    · refine Classical.byContradiction fun hG => ?_
      obtain ⟨cc, w, h1, h2, h3, h4, h5⟩ := ha.env.cel y hy
      refine hG ?_
      clear hG
      refine ⟨cc, w, h1, h2.sameBut hs' (fun q => ns_cell hn (q ▸ h2)), h3, h4, fun z W hz hW => ?_⟩
      have : z ≠ x := fun q => by rw [← q, hz, hy] at hk; cases hk
      simp only [upd, this, if_false] at hW
      exact h5 z W hz hW
  · refine Classical.byContradiction fun hG => ?_
    obtain ⟨cc, w, h1, h2, h3, h4, h5⟩ := ha.env.cel _ hk
    refine hG ?_
    clear hG
    refine wpAny_storeName_cell ha.env.kind hk h1 h2 fun h' hc' hs' => ?_
    have hne : c.env.locals ≠ cc := fun q => ns_cell (q ▸ hn) h2
    have hoc : c.own cc := (hown.1 _).mpr (.inr ⟨_, h1⟩)
    obtain ⟨oC, hoC, hdC⟩ := id hc'
    refine hR _ (ha.ownUpd hoc h3 h4 (fun b' o hb e => hs'.extBut b' o hb e) ⟨oC, hoC, fun vs q => by rw [hdC] at q; cases q⟩
      ⟨ha.env.kind, ha.env.glob, ha.env.blt, ⟨m, hn.sameBut hs' hne, fun y W hy0 hy hW => ?_⟩, ha.env.locN, ha.env.locB, fun y hy => ?_, ha.env.inj⟩) fun b o hb e => hs'.extBut b o (fun q => hb (q ▸ hoc)) e
    · have : y ≠ x := fun q => by rw [← q, hy] at hk; cases hk
      simp only [upd, this, if_false] at hW
      exact hl y W hy0 hy hW
    · by_cases q : y = Str.ofString x
      · subst q
        refine ⟨cc, some v, h1, hc', h3, h4, fun z W hz hW => ?_⟩
        have : z = x := ofString_inj hz
        subst this
        simp [upd] at hW; subst hW
        exact ⟨v, rfl, hv⟩
      · refine Classical.byContradiction fun hG => ?_
        obtain ⟨c2, w2, g1, g2, g3, g4, g5⟩ := ha.env.cel y hy
        refine hG ?_
        clear hG
        refine ⟨c2, w2, g1, g2.sameBut hs' (fun e => q (ha.env.inj _ _ _ g1 (e ▸ h1))), g3, g4, fun z W hz hW => ?_⟩
        have : z ≠ x := fun e => q (by rw [← hz, e])
        simp only [upd, this, if_false] at hW
        exact g5 z W hz hW

theorem mE_noComp {nm : Nms} {ex : Ex} {e : PySem.Expr} (h : mE nm ex e = true) (hc : isComp ex = false) (t : Option PySem.Expr) (l : Nat) (env : Env) : swapsWith e t l env = pure false := by
  cases e <;> first | rfl | (exfalso; cases ex <;> first | (exact Bool.noConfusion h) | (simp [isComp] at hc; done))

theorem swaps_pure (elt it : PySem.Expr) (gs : List Comprehension) (sc : Scope) (pos : Pos) (t : PySem.Expr) (l : Nat) (env : Env) : ∃ b, swapsWith (.ListComp elt gs sc pos) (some t) l env = pure b := by
  unfold swapsWith
  cases t <;> exact ⟨_, rfl⟩

theorem snd_assign {x : String} {ex : Ex} : SndS (.assign x ex) := by
  intro c ρ σ s Q E e hc hown ha hm hw
  refine Classical.byContradiction fun hG => ?_
  obtain ⟨y0, hy⟩ : ∃ y, y = e := ⟨e, rfl⟩
  rw [← hy] at hm
  cases y0 <;> try exact Bool.noConfusion hm
  rename_i ts v pos
  cases ts with
  | nil => exact Bool.noConfusion hm
  | cons t ts =>
    cases ts with
    | cons _ _ => cases t <;> exact Bool.noConfusion hm
    | nil =>
      cases t <;> try exact Bool.noConfusion hm
      rename_i y py
      replace hm := and3 hm
      refine Classical.byContradiction fun hG => ?_
      obtain ⟨⟨h0, hx⟩, hm⟩ := hm
      refine hG ?_
      clear hG
      cases beq_iff_eq.mp h0
      subst hy
      refine hG ?_
      clear hG
      simp only [wpS] at hw
      have plain : swapsWith v (some (.Name (Str.ofString x) py)) pos.line c.env = pure false → wpAny (model c.G.prog c.G.w) c.A (exec (.Assign [.Name (Str.ofString x) py] v pos) c.env) (GoodF c Q) (BadX c E) s := fun hs => by
        refine wpAny_Assign_Name (wpAny_mono ((sndE ex).1 c ρ σ s _ _ _ hc ha hm hw) ?_ fun _ _ h => bad_bad h) hs
        intro v s₁ H9 
        refine Classical.byContradiction fun hG => ?_
        obtain ⟨V, σ₁, hV, ha₁, hw₁⟩ := H9
        refine hG ?_
        clear hG
        exact bind_snd ha₁ hown hx hV fun s' h _ => ⟨_, σ₁, h, hw₁⟩
      by_cases hcomp : isComp ex = true
      · cases ex <;> try (simp [isComp] at hcomp; done)
        rename_i elt xs it ifs
        refine Classical.byContradiction fun hG => ?_
        obtain ⟨z, px, elt', it', ifs', sc, pos', rfl, rfl, hok, m0, m1, m2⟩ := mE_comp hm
        obtain ⟨b, hb⟩ := swaps_pure elt' elt' [⟨.Name (Str.ofString z) px, it', ifs', 0⟩] sc pos' (.Name (Str.ofString x) py) pos.line c.env
        refine hG ?_
        clear hG
        cases b with
        | false => exact plain hb
        | true =>
                simp only [wpE] at hw
                obtain ⟨hh, hw⟩ := hw
                rw [exec_Assign_Name_used _ _ _ _ hb]
                refine wpAny_bind (wpAny_standAt (wpAny_bind ?_))
                show wpAny _ _ (do let _ ← comprehension (.ListComp elt' [⟨.Name (Str.ofString z) px, it', ifs', 0⟩] sc pos') sc c.env _ (newList []) false (eval it' c.env) (some (assign (.Name (Str.ofString x) py) c.env))) _ _ _
                refine wpAny_bind (wpAny_mono (comp_core (Qv := fun _ s' => GoodF c Q .next s') (K := fun ys σ' => newW σ' (.list ys) fun v σ₁ => Q .next (upd ρ x v) σ₁) (sndE it).1 (sndE elt).1 (fun e he => (sndAll ifs e he).2) hc ha hh (compOk_of hok) m0 m1 m2 hw ?_) (fun _ s' hq => wpAny_pure (wpAny_pure hq)) fun _ _ e => e)
                intro ys σ' s' D C m at' hD hk hC hC₀ hCσ hCD
                refine wpAny_assign_Name (bind_snd at' hown hx (V := .ref D) rfl fun s'' h hkp => ?_)
                have hCo : ¬ c.own C := fun q => by
                  obtain ⟨n1, n2, _⟩ := hc.old C hC₀
                  rcases (hown.1 C).mp q with q | ⟨y, q⟩
                  · exact n1 q
                  · exact n2 y q
                refine Classical.byContradiction fun hG => ?_
                obtain ⟨oC, es, ep, e1, e2⟩ := hC
                refine hG ?_
                clear hG
                refine ⟨m, ⟨oC, es, ep, hkp C oC hCo e1, e2⟩, fun h₃ hs₃ => ⟨_, _, h.priv hc hC₀ (by rw [Sto.set_other _ _ hCD]; exact hCσ) (fun b o hb e => hs₃.extBut b o hb e), hk D hD⟩⟩
      · exact plain (mE_noComp hm (by simpa using hcomp) _ _ _)

theorem snd_expr {ex : Ex} : SndS (.expr ex) := by
  intro c ρ σ s Q E e hc hown ha hm hw
  refine Classical.byContradiction fun hG => ?_
  obtain ⟨y0, hy⟩ : ∃ y, y = e := ⟨e, rfl⟩
  rw [← hy] at hm
  cases y0 <;> try exact Bool.noConfusion hm
  rename_i e' pos
  replace hm := and2 hm
  subst hy
  refine hG ?_
  clear hG
  simp only [wpS] at hw
  refine wpAny_Expr_any (wpAny_mono ((sndE ex).1 c ρ σ s _ _ _ hc ha hm.2 hw) ?_ fun _ _ h => bad_bad h) ?_ (mE_noComp hm.2 (by simpa using hm.1) _ _ _)
  · intro v s₁ H9 
    refine Classical.byContradiction fun hG => ?_
    obtain ⟨V, σ₁, hV, ha₁, hw₁⟩ := H9
    refine hG ?_
    clear hG
    exact ⟨ρ, σ₁, ha₁, hw₁⟩
  · unfold interactive; rw [ha.env.kind]; rfl

theorem snd_ret {ex : Ex} : SndS (.ret ex) := by
  intro c ρ σ s Q E e hc hown ha hm hw
  refine Classical.byContradiction fun hG => ?_
  obtain ⟨y0, hy⟩ : ∃ y, y = e := ⟨e, rfl⟩
  rw [← hy] at hm
  cases y0 <;> try exact Bool.noConfusion hm
  rename_i e' pos
  cases e' <;> try exact Bool.noConfusion hm
  subst hy
  refine hG ?_
  clear hG
  simp only [wpS] at hw
  refine wpAny_Return_some (wpAny_mono ((sndE ex).1 c ρ σ s _ _ _ hc ha hm hw) ?_ fun _ _ h => bad_bad h)
  intro v s₁ H9 
  refine Classical.byContradiction fun hG => ?_
  obtain ⟨V, σ₁, hV, ha₁, hw₁⟩ := H9
  refine hG ?_
  clear hG
  exact ⟨ρ, σ₁, ha₁, V, hV, hw₁⟩

theorem snd_if {a : Ex} {t e : List St} (ht : SndSs t) (he : SndSs e) : SndS (.if_ a t e) := by
  intro c ρ σ s Q E e' hc hown ha hm hw
  refine Classical.byContradiction fun hG => ?_
  obtain ⟨y0, hy⟩ : ∃ y, y = e' := ⟨e', rfl⟩
  rw [← hy] at hm
  cases y0 <;> try exact Bool.noConfusion hm
  replace hm := and3 hm
  refine Classical.byContradiction fun hG => ?_
  obtain ⟨⟨m1, m2⟩, m3⟩ := hm
  refine hG ?_
  clear hG
  subst hy
  refine hG ?_
  clear hG
  simp only [wpS] at hw
  refine wpAny_If (wpAny_mono ((sndE a).2 c ρ σ s (fun b σ₁ => if b = true then wpSs (WF c.G c.d) c.G.gv c.hd t ρ σ₁ Q E else wpSs (WF c.G c.d) c.G.gv c.hd e ρ σ₁ Q E) _ _ hc ha m1 hw) ?_ fun _ _ h => bad_bad h)
  rintro b s₁ ⟨σ₁, ha₁, hw₁⟩
  cases b with
  | true => exact ht c ρ σ₁ s₁ Q E _ hc hown ha₁ m2 hw₁
  | false => exact he c ρ σ₁ s₁ Q E _ hc hown ha₁ m3 hw₁

theorem sndSs_nil : SndSs [] := by
  intro c ρ σ s Q E es hc hown ha hm hw
  cases es <;> try exact Bool.noConfusion hm
  exact wpAny_execs_nil ⟨ρ, σ, ha, hw⟩
theorem sndSs_cons {st : St} {r : List St} (h1 : SndS st) (h2 : SndSs r) : SndSs (st :: r) := by
  intro c ρ σ s Q E es hc hown ha hm hw
  cases es <;> try exact Bool.noConfusion hm
  replace hm := and2 hm
  simp only [wpSs] at hw
  refine wpAny_execs_cons (wpAny_mono (h1 c ρ σ s _ E _ hc hown ha hm.1 hw) ?_ fun _ _ h => h)
  intro fl s₁ H9 
  refine Classical.byContradiction fun hG => ?_
  obtain ⟨ρ₁, σ₁, ha₁, h⟩ := H9
  refine hG ?_
  clear hG
  cases fl with
  | next => exact h2 c ρ₁ σ₁ s₁ Q E _ hc hown ha₁ hm.2 h
  | ret v => obtain ⟨V, hV, h⟩ := h; exact ⟨ρ₁, σ₁, ha₁, V, hV, h⟩
  | brk => exact h.elim
  | cont => exact h.elim
end
end BP

/-! ## GExc -/
set_option linter.unusedVariables false
set_option linter.unusedSimpArgs false
namespace BP
open PySem PyProof.Rows

section
variable {c : Cx} {ρ : Loc} {σ : Sto} {s : Shared} {E : Value → Shared → Prop} {e : Value} {cl : String}

theorem frames_hidden {b h : Heap} {as : List Addr} {l : List Env} (x : h.FunFrames b l) (hin : ∀ env ∈ l, ∀ a, env.frame = some a → a ∈ as) : h.FunFrames (W.hideAll h as) l := by
  induction l with
  | nil => trivial
  | cons env r ih =>
    refine Classical.byContradiction fun hG => ?_
    obtain ⟨x1, ⟨L, o, x2, _, x4, x5⟩, x6⟩ := x
    refine hG ?_
    clear hG
    exact ⟨x1, ⟨L, o, x2, W.hideAll_none _ (hin env List.mem_cons_self L x2), x4, x5⟩, ih x6 fun e he => hin e (List.mem_cons_of_mem _ he)⟩

/-- an exception that bears a traceback: its flight is noted, or it is not -/
noncomputable def ExcT (c : Cx) (e : Value) (cl : String) (σ : Sto) (h : Heap) (fl : Value) : Prop :=
  ∃ ea C oe vs a0 T oT ts, e = .ref ea ∧ c.G.exc cl = some C ∧ h.get? ea = some oe ∧ oe.cls = .ref C ∧ oe.data = .fields vs ∧ vs[0]? = some a0 ∧ σ ea = none ∧ c.h₀.get? ea = none ∧
    vs[1]? = some (.ref T) ∧ T ≠ ea ∧ h.get? T = some oT ∧ oT.data = .fields ts ∧ ts[3]? = some fl ∧ σ T = none ∧ c.h₀.get? T = none
theorem ExcT.at_ {h : Heap} {fl : Value} (x : ExcT c e cl σ h fl) (hf : fl = .none ∨ ∃ L, c.env.frame = some L ∧ fl = rawInt L) : ExcAt c e cl σ h := by
  refine Classical.byContradiction fun hG => ?_
  obtain ⟨ea, C, oe, vs, a0, T, oT, ts, h1, h2, h3, h4, h5, h6, h7, h8, k1, k2, k3, k4, k5, k7, k8⟩ := x
  refine hG ?_
  clear hG
  exact ⟨ea, C, oe, vs, a0, h1, h2, h3, h4, h5, h6, h7, h8, .inr ⟨T, oT, ts, fl, k1, k2, k3, k4, k5, hf, k7, k8⟩⟩

/-- the heap without the frames and without the exception -/
theorem hidden (ha : At c ρ σ s) {xs : List Addr} (hx : ∀ b ∈ xs, c.h₀.get? b = none ∧ σ b = none) (hc : CxOk c) :
    let B := W.hideAll s.heap (c.fr.filterMap (·.frame) ++ xs)
    B.StaysIn s.heap ∧ s.heap.FunFrames B c.fr ∧ (∀ b ∈ xs, B.get? b = none) ∧ ∀ {s' : Shared}, B.StaysIn s'.heap → (∀ b o, s.heap.get? b = some o → (∀ vs, o.data ≠ .fields vs) → ∃ sl, s'.heap.get? b = some { o with slots := sl }) →
      s'.os = s.os → s'.gens = s.gens → At c ρ σ s' := by
  intro B
  refine ⟨fun b o q => W.of_hideAll _ q, frames_hidden ha.frs fun env he a hf => List.mem_append_left _ (List.mem_filterMap.mpr ⟨env, he, hf⟩), fun b hb => W.hideAll_none _ (List.mem_append_right _ hb), ?_⟩
  intro s' hB hup ho hg
  refine ha.slots hc (X := fun b => b ∈ xs) hx (fun b o e hnx hnf => hB b o (W.hideAll_get _ e fun hm => ?_)) (fun b o hf e => ?_) ho hg
  · rcases List.mem_append.mp hm with h | h
    · obtain ⟨env, he, hf⟩ := List.mem_filterMap.mp h
      exact hnf ⟨env, he, hf⟩
    · exact hnx h
  · refine Classical.byContradiction fun hG => ?_
    obtain ⟨env, he, hf⟩ := hf
    obtain ⟨o', ho', hd⟩ := (ha.frs.mem (List.mem_filterMap.mpr ⟨env, he, hf⟩)).2
    refine hG ?_
    clear hG
    rw [e] at ho'; cases ho'
    exact hup b o e hd

/-- the traceback's entry is laid -/
theorem note_snd (hc : CxOk c) (hown : Owns c) (ha : At c ρ σ s) (x : ExcAt c e cl σ s.heap) {R : Unit → Shared → Prop}
    (hR : ∀ s', At c ρ σ s' → ExcT c e cl σ s'.heap (rawInt c.env.locals) → R () s') : wpAny (model c.G.prog c.G.w) c.A (noteFrame e c.env) R E s := by
  refine Classical.byContradiction fun hG => ?_
  obtain ⟨_, ⟨outer, hfr⟩, hf⟩ := hown
  obtain ⟨ea, C, oe, vs, a0, rfl, h2, h3, h4, h5, h6, h7, h8, h9⟩ := x
  refine hG ?_
  clear hG
  have frames : c.A.frames = some (c.env :: outer) := by rw [hc.frames, hfr]
  have key : ∀ B, s.heap.FunFrames B c.fr → s.heap.FunFrames B (c.env :: outer) := fun B h => by rw [hfr] at h; exact h
  -- what is behind a note
  have fin : ∀ (xs : List Addr), (∀ b ∈ xs, c.h₀.get? b = none ∧ σ b = none) → ea ∈ xs → ∀ h', Heap.NotedW (W.hideAll s.heap (c.fr.filterMap (·.frame) ++ xs)) (c.env :: outer) ea (.ref C) a0 (rawInt c.env.locals) s.heap h' → R () { s with heap := h' } := by
    intro xs hx hea h' hN
    refine Classical.byContradiction fun hG => ?_
    obtain ⟨n1, n2, ⟨oe', vs', T, oT, ts, t1, ⟨t2, t3⟩, t4, t5, t6, t7, t8, t9, t10⟩, n4⟩ := hN
    obtain ⟨_, _, _, hat⟩ := hidden ha hx hc
    refine hG ?_
    clear hG
    have at' : At c ρ σ { s with heap := h' } := hat n1 n4 rfl rfl
    have hT : c.h₀.get? T = none ∧ σ T = none := by
      cases q : s.heap.get? T with
      | none =>
        refine ⟨?_, ha.none_of_fresh q⟩
        cases r : c.h₀.get? T with
        | none => rfl
        | some o => obtain ⟨o', ho'⟩ := ha.alive T o r; rw [q] at ho'; cases ho'
      | some o =>
        by_cases hm : T ∈ c.fr.filterMap (·.frame) ++ xs
        · rcases List.mem_append.mp hm with h | h
          · rw [hfr] at h
            refine Classical.byContradiction fun hG => ?_
            obtain ⟨_, oF, hoF, hdF⟩ := n2.mem h
            refine hG ?_
            clear hG
            rw [t8] at hoF; cases hoF
            exact absurd t9 (hdF ts)
          · exact hx T h
        · rw [W.hideAll_get _ q hm] at t6; cases t6
    exact hR _ at' ⟨ea, C, oe', vs', a0, T, oT, ts, rfl, h2, t1, t2, t4, t3, h7, h8, t5, t7, t8, t9, t10, hT.2, hT.1⟩
  rcases h9 with h9 | ⟨T, oT, ts, fl, k1, k2, k3, k4, k5, k6, k7, k8⟩
  · have hx : ∀ b ∈ [ea], c.h₀.get? b = none ∧ σ b = none := fun b hb => by simp at hb; subst hb; exact ⟨h8, h7⟩
    refine Classical.byContradiction fun hG => ?_
    obtain ⟨b1, b2, b3, _⟩ := hidden ha hx hc
    refine hG ?_
    clear hG
    unfold noteFrame
    simp only [hf]
    refine wpAny_bind (wpAny_field h3 h5 h9 ?_)
    rw [if_neg (by decide)]
    refine wpAny_entryW frames (key _ b2) hf h3 b1 (b3 ea (by simp)) h5 (Array.getElem?_eq_some_iff.mp h9).1 h6 fun h' hN => ?_
    rw [h4] at hN
    exact fin [ea] hx (by simp) h' hN
  · have hx : ∀ b ∈ [ea, T], c.h₀.get? b = none ∧ σ b = none := fun b hb => by
      simp at hb; rcases hb with rfl | rfl
      · exact ⟨h8, h7⟩
      · exact ⟨k8, k7⟩
    rcases k6 with rfl | ⟨L, hL, rfl⟩
    · refine Classical.byContradiction fun hG => ?_
      obtain ⟨b1, b2, b3, _⟩ := hidden ha hx hc
      refine hG ?_
      clear hG
      refine wpAny_noteFrame_onW frames (key _ b2) hf (cls := .ref C) (a0 := a0) ⟨oe, vs, T, oT, ts, h3, ⟨h4, h6⟩, h5, k1, b3 T (by simp), k2, k3, k4, k5⟩ b1 (b3 ea (by simp)) fun h' hN => ?_
      exact fin [ea, T] hx (by simp) h' hN
    · rw [hf] at hL
      cases hL
      refine wpAny_noteFrame_againW (base := W.hideAll s.heap (c.fr.filterMap (·.frame) ++ [ea, T])) (cls := .ref C) (a0 := a0) hf ⟨oe, vs, T, oT, ts, h3, ⟨h4, h6⟩, h5, k1, (hidden ha hx hc).2.2.1 T (by simp), k2, k3, k4, k5⟩ ?_
      exact hR s ha ⟨ea, C, oe, vs, a0, T, oT, ts, rfl, h2, h3, h4, h5, h6, h7, h8, k1, k2, k3, k4, k5, k7, k8⟩

/-- the flight is ended -/
theorem land_snd (hc : CxOk c) (ha : At c ρ σ s) {fl : Value} (x : ExcT c e cl σ s.heap fl) {R : Unit → Shared → Prop}
    (hR : ∀ s', At c ρ σ s' → ExcT c e cl σ s'.heap .none → R () s') : wpAny (model c.G.prog c.G.w) c.A (setFlight e none) R E s := by
  refine Classical.byContradiction fun hG => ?_
  obtain ⟨ea, C, oe, vs, a0, T, oT, ts, rfl, h2, h3, h4, h5, h6, h7, h8, k1, k2, k3, k4, k5, k7, k8⟩ := x
  refine hG ?_
  clear hG
  have hx : ∀ b ∈ [ea, T], c.h₀.get? b = none ∧ σ b = none := fun b hb => by
    simp at hb; rcases hb with rfl | rfl
    · exact ⟨h8, h7⟩
    · exact ⟨k8, k7⟩
  refine Classical.byContradiction fun hG => ?_
  obtain ⟨b1, b2, b3, hat⟩ := hidden ha hx hc
  refine hG ?_
  clear hG
  refine wpAny_setFlight_noneW (cls := .ref C) (a0 := a0) (fl := fl) b1 b2 ⟨oe, vs, T, oT, ts, h3, ⟨h4, h6⟩, h5, k1, b3 T (by simp), k2, k3, k4, k5⟩ fun h' n1 n2 n3 n4 => ?_
  refine Classical.byContradiction fun hG => ?_
  obtain ⟨oe', vs', T', oT', ts', t1, ⟨t2, t3⟩, t4, t5, t6, t7, t8, t9, t10⟩ := n3
  refine hG ?_
  clear hG
  have at' : At c ρ σ { s with heap := h' } := hat n1 (fun b o e hd => ⟨o.slots, n4 b o e hd⟩) rfl rfl
  have hT : c.h₀.get? T' = none ∧ σ T' = none := by
    cases q : s.heap.get? T' with
    | none =>
      refine ⟨?_, ha.none_of_fresh q⟩
      cases r : c.h₀.get? T' with
      | none => rfl
      | some o => obtain ⟨o', ho'⟩ := ha.alive T' o r; rw [q] at ho'; cases ho'
    | some o =>
      by_cases hm : T' ∈ c.fr.filterMap (·.frame) ++ [ea, T]
      · rcases List.mem_append.mp hm with h | h
        · refine Classical.byContradiction fun hG => ?_
          obtain ⟨_, oF, hoF, hdF⟩ := n2.mem h
          refine hG ?_
          clear hG
          rw [t8] at hoF; cases hoF
          exact absurd t9 (hdF ts')
        · exact hx T' h
      · rw [W.hideAll_get _ q hm] at t6; cases t6
  exact hR _ at' ⟨ea, C, oe', vs', a0, T', oT', ts', rfl, h2, t1, t2, t4, t3, h7, h8, t5, t7, t8, t9, t10, hT.2, hT.1⟩

/-- an exception leaves its frame -/
theorem leave_snd (hc : CxOk c) (hown : Owns c) (ha : At c ρ σ s) (x : ExcAt c e cl σ s.heap) {R : Unit → Shared → Prop}
    (hR : ∀ s', At c ρ σ s' → ExcT c e cl σ s'.heap .none → R () s') : wpAny (model c.G.prog c.G.w) c.A (leaving c.env e) R E s := by
  unfold leaving
  exact wpAny_bind (note_snd hc hown ha x fun s' a' x' => land_snd hc a' x' hR)

end
end BP

/-! ## GLoop -/
set_option linter.unusedVariables false
set_option linter.unusedSimpArgs false
namespace BP
open PySem PyProof.Rows

section
variable {c : Cx} {ρ : Loc} {σ : Sto} {s : Shared} {E : Value → Shared → Prop}

/-- the anchor laid anew, the owned kept -/
noncomputable def Cx.anchor (c : Cx) (σ : Sto) (h : Heap) : Cx := { c with σ₀ := σ, h₀ := h }
theorem CxOk.anchor {c : Cx} (x : CxOk c) {ρ : Loc} {σ : Sto} {s : Shared} (y : At c ρ σ s) : CxOk (c.anchor σ s.heap) := by
  refine ⟨y.stays, fun b hb => ?_, x.frames, x.room, x.units, x.handled⟩
  have hb : s.heap.get? b = none := hb
  refine ((x.old b ?_) : _)
  cases e : c.h₀.get? b with
  | none => rfl
  | some o => obtain ⟨o', h⟩ := y.alive b o e; rw [hb] at h; cases h
theorem At.anchor (x : At c ρ σ s) : At (c.anchor σ s.heap) ρ σ s where
  stays := x.stays
  os := x.os
  gens := x.gens
  sto := x.sto
  env := x.env
  frs := x.frs
  frN := x.frN
  keep := fun b o e _ _ => ⟨o, e, .refl o⟩
  alive := fun b o e => ⟨o, e⟩
  fresh := fun b ob e => Or.inl (by rw [show (c.anchor σ s.heap).σ₀ = σ from rfl, e]; exact Option.some_ne_none _)
theorem At.unanchor (x : At c ρ σ s) {ρ' : Loc} {σ' : Sto} {s' : Shared} (y : At (c.anchor σ s.heap) ρ' σ' s') : At c ρ' σ' s' := by
  refine ⟨y.stays, y.os, y.gens, y.sto, y.env, y.frs, y.frN, fun b o e h1 h2 => ?_, fun b o e => ?_, fun b ob e => ?_⟩
  · obtain ⟨o', h3, h4⟩ := x.keep b o e h1 h2
    have hσ : σ b = none := by
      cases q : σ b with
      | none => rfl
      | some ob => rcases x.fresh b ob q with h | h
                   · exact absurd h1 h
                   · rw [e] at h; cases h
    obtain ⟨o'', h5, h6⟩ := y.keep b o' h3 hσ h2
    exact ⟨o'', h5, h4.trans h6⟩
  · obtain ⟨o', h⟩ := x.alive b o e; exact y.alive b o' h
  · rcases y.fresh b ob e with h | h
    · cases q : σ b with
      | none => exact absurd q h
      | some ob' => exact x.fresh b ob' q
    · have h : s.heap.get? b = none := h
      cases q : c.h₀.get? b with
      | none => exact Or.inr rfl
      | some o => obtain ⟨o', h'⟩ := x.alive b o q
                  rw [h] at h'; cases h'
theorem At.kept (y : At (c.anchor σ s.heap) ρ' σ' s') {b : Addr} {o : Obj} (hb : s.heap.get? b = some o) (hσ : σ b = none) (ho : ¬ c.own b) (hc : CxOk c) (h0 : c.h₀.get? b = none) : s'.heap.get? b = some o ∧ σ' b = none := by
  obtain ⟨o', e', q⟩ := y.keep b o hb hσ ho
  refine ⟨by rw [e', q.exact fun ⟨e1, q1, q2⟩ => (hc.old b h0).2.2 e1 q1 q2], ?_⟩
  cases q : σ' b with
  | none => rfl
  | some ob => rcases y.fresh b ob q with h | h
               · exact absurd hσ h
               · have h : s.heap.get? b = none := h
                 rw [hb] at h; cases h

theorem not_own (hc : CxOk c) (hown : Owns c) {b : Addr} (hb : c.h₀.get? b = none) : ¬ c.own b := fun q => by
  obtain ⟨n1, n2, _⟩ := hc.old b hb
  rcases (hown.1 b).mp q with q | ⟨y, q⟩
  · exact n1 q
  · exact n2 y q

theorem badX_elim {c : Cx} {e : Value} {s : Shared} (h : BadX c (fun _ _ _ => False) e s) {P : Prop} : P := by
  obtain ⟨_, _, _, _, _, h⟩ := h; exact h.elim

theorem snd_for {xs : List String} {it : Ex} {body : List St} (hb : SndSs body) : SndS (.for_ xs it body) := by
  intro c ρ σ s Q E e hc hown ha hm hw
  refine Classical.byContradiction fun hG => ?_
  obtain ⟨y0, hy⟩ : ∃ y, y = e := ⟨e, rfl⟩
  rw [← hy] at hm
  cases y0 <;> try exact Bool.noConfusion hm
  rename_i tg it' body' orelse pos
  cases orelse <;> try exact Bool.noConfusion hm
  replace hm := and4 hm
  refine Classical.byContradiction fun hG => ?_
  obtain ⟨⟨⟨htg, hvar⟩, m1⟩, m2⟩ := hm
  obtain ⟨x, px, rfl, rfl⟩ := one_of htg
  refine hG ?_
  clear hG
  simp only [List.all_cons, List.all_nil, Bool.and_true] at hvar
  subst hy
  refine hG ?_
  clear hG
  simp only [wpS] at hw
  obtain ⟨hh, hw⟩ := hw
  refine wpAny_For (wpAny_mono ((sndE it).1 c ρ σ s _ _ _ hc ha m1 hw) ?_ fun _ _ h => bad_bad h) (fun y => (mE_notSet m1).2 _ y)
  intro v s₁ H9 
  refine Classical.byContradiction fun hG => ?_
  obtain ⟨V, σ₁, hV, a1, turns, ht, hw⟩ := H9
  refine hG ?_
  clear hG
  refine iter_snd a1 hV ht fun o kd hkd hit hfo => ?_
  have a2 : At c ρ σ₁ { s₁ with heap := s₁.heap.push o } := a1.grow fun b o' e => Heap.get?_push_of_some _ e
  have hIn : s₁.heap.get? s₁.heap.objs.size = none := a1.size_none
  have hI₀ : c.h₀.get? s₁.heap.objs.size = none := by
    cases e : c.h₀.get? s₁.heap.objs.size with
    | none => rfl
    | some o' => obtain ⟨o'', q⟩ := a1.alive _ o' e; rw [hIn] at q; cases q
  have hIσ : σ₁ s₁.heap.objs.size = none := a1.none_of_fresh hIn
  generalize s₁.heap.objs.size = I at hit hIn hI₀ hIσ ⊢
  have hIo : ¬ c.own I := not_own hc hown hI₀
  refine codeAny_forLoop (fun n s => ∃ i ρ' σ', At c ρ' σ' s ∧ ItAt kd I i s.heap ∧ σ' I = none ∧ n = turns.length + 1 - i ∧ i ≤ turns.length ∧
    wpFor (fun ρ' σ' K => wpSs (WF c.G c.d) c.G.gv c.hd body ρ' σ' K (fun _ _ _ => False)) (stay σ₁ V 1 turns) [x] (turns.drop i) ρ' σ' Q) ?_ (turns.length + 1) ⟨0, ρ, σ₁, a2, hit, hIσ, by omega, by omega, by rw [List.drop_zero]; exact hw⟩
  intro n s H9 
  refine Classical.byContradiction fun hG => ?_
  obtain ⟨i, ρ', σ', a3, hit', hIσ', rfl, hile, hw⟩ := H9
  refine hG ?_
  clear hG
  have hst : stay σ₁ V 1 turns σ' := by
    cases hd : turns.drop i with
    | nil => rw [hd] at hw; exact hw.1
    | cons t ts => rw [hd] at hw; exact hw.1
  refine next_snd hc hh a3 hst.2 (kdOf_stay hkd hst.1) hit' ?_ ?_
  · intro xv X h' n' hX hx hit₂ hsb
    have hil : i < turns.length := (List.getElem?_eq_some_iff.mp hX).1
    have hdrop : turns.drop i = [X] :: turns.drop (i + 1) := by
      rw [List.drop_eq_getElem_cons hil]
      congr 1
      exact (List.getElem?_eq_some_iff.mp hX).2
    rw [hdrop] at hw
    obtain ⟨-, hw⟩ := hw
    have a4 : At c ρ' σ' { s with heap := h', toks := n' } := a3.priv hc hI₀ hIσ' (fun b o hb e => hsb.extBut b o hb e)
    refine wpAny_assign_Name (bind_snd a4 hown hvar hx fun s₅ a5 hkp => ?_)
    have hit₅ : ItAt kd I (i + 1) s₅.heap := itAt_keep hit₂ fun o e _ => hkp I o hIo e
    refine wpAny_mono (hb (c.anchor σ' s₅.heap) _ σ' s₅ _ (fun _ _ _ => False) _ (hc.anchor a5) hown a5.anchor m2 hw) ?_ fun e s' h => badX_elim h
    intro fl s₆ H9 
    refine Classical.byContradiction fun hG => ?_
    obtain ⟨ρ₆, σ₆, a6, h6⟩ := H9
    obtain ⟨oI, hoI, hcI⟩ := itAt_some hit₅
    refine hG ?_
    clear hG
    have a7 := a5.unanchor a6
    have hk := a6.kept hoI hIσ' hIo hc hI₀
    cases fl with
    | next => exact ⟨turns.length + 1 - (i + 1), by omega, i + 1, ρ₆, σ₆, a7, itAt_keep hit₅ (fun o e hf => (a6.kept e hIσ' hIo hc hI₀).1), hk.2, rfl, by omega, h6⟩
    | ret v => obtain ⟨V', hV', h6⟩ := h6; exact ⟨ρ₆, σ₆, a7, V', hV', h6⟩
    | brk => exact h6.elim
    | cont => exact h6.elim
  · intro h' hX hsb
    have hil : turns.length ≤ i := List.getElem?_eq_none_iff.mp hX
    have e : i = turns.length := by omega
    subst e
    rw [List.drop_length] at hw
    exact wpAny_execs_nil ⟨ρ', σ', a3.priv hc hI₀ hIσ' (fun b o hb e => hsb b o hb e), hw.2⟩

end
end BP

/-! ## GRai -/
set_option linter.unusedVariables false
set_option linter.unusedSimpArgs false
namespace BP
open PySem PyProof.Rows

theorem snd_raise {cls msg : String} : SndS (.raise cls msg) := by
  intro c ρ σ s Q E e hc hown ha hm hw
  refine Classical.byContradiction fun hG => ?_
  obtain ⟨y0, hy⟩ : ∃ y, y = e := ⟨e, rfl⟩
  rw [← hy] at hm
  cases y0 <;> try exact Bool.noConfusion hm
  rename_i ex ca pos
  cases ca <;> try exact Bool.noConfusion hm
  refine Classical.byContradiction fun hG => ?_
  obtain ⟨p1, k, p2, p3, rfl, hg⟩ := raise_of hm
  refine hG ?_
  clear hG
  simp only [wpS] at hw
  refine Classical.byContradiction fun hG => ?_
  obtain ⟨hh, hx, hE⟩ := hw
  obtain ⟨C, hC⟩ := Option.isSome_iff_exists.mp (show (c.G.exc cls).isSome = true from hx)
  obtain ⟨hmg, bm, X, _⟩ := c.G.excOk cls C hC
  obtain ⟨N, nm, q, bs, hdct, sn, sub, ab, col, dd, k0, k1, k2, k3, k5, mN, hCo, hN, hq, T⟩ := X
  refine hG ?_
  clear hG
  subst hy
  refine hG ?_
  clear hG
  refine wpAny_Raise_call_subT (nm := nm) (q := q) (C := C) (N := N) (bs := bs) (bm := bm) (hdct := hdct) (sn := sn) (sub := sub) (ab := ab) (col := col) (dd := dd) (k0 := k0) (k1 := k1) (k2 := k2) (k3 := k3) (k5 := k5)
    PySem.F.excBase_ValueError (mN := mN) (T.tail.hasType (by decide +kernel)) (hc.handled hh) rfl (hq _ (by decide)) (load_glob ha hg hmg ⟨rfl, Calls.evalArgs_plain ?_⟩)
  show wpAny _ _ (spliced ((false, eval (.Constant (.str (Str.ofString msg)) k p2) c.env) :: [])) _ _ _
  refine Calls.spliced_cons (wpAny_mono (snd_str msg c ρ σ s (fun v σ' => σ' = σ) (fun _ _ => False) _ hc ha (beq_self_eq_true (Str.ofString msg)) rfl) ?_ fun _ _ h => bad_elim h)
  intro v s₁ H9 
  refine Classical.byContradiction fun hG => ?_
  obtain ⟨V, σ₁, hV, a1, rfl⟩ := H9
  refine hG ?_
  clear hG
  refine Calls.spliced_nil ⟨rfl, by simp [sizeLine], a1.stays _ _ hCo, hN.keeps a1.stays, (T.keeps a1.stays).tail, fun h' e hM => ?_⟩
  have h0 : c.h₀.get? e = none := by
    cases r : c.h₀.get? e with
    | none => rfl
    | some o => obtain ⟨o', ho'⟩ := a1.alive e o r; rw [hM.new] at ho'; cases ho'
  refine Classical.byContradiction fun hG => ?_
  obtain ⟨t, g1, _, _⟩ := hM.there
  refine hG ?_
  clear hG
  exact ⟨cls, ρ, σ₁, a1.grow hM.keeps, ⟨e, C, _, _, _, rfl, hC, g1, rfl, rfl, rfl, a1.none_of_fresh hM.new, h0, .inl rfl⟩, hE⟩
end BP

/-! ## GTry -/
set_option linter.unusedVariables false
set_option linter.unusedSimpArgs false
namespace BP
open PySem PyProof.Rows

section
variable {c : Cx} {ρ : Loc} {σ : Sto} {s : Shared} {E : Value → Shared → Prop} {e : Value} {cl : String}

/-- what was thrown becomes a thing of the store -/
theorem At.adopt (x : At c ρ σ s) (hc : CxOk c) {a : Addr} {o : Obj} {ob : Ob} (ho : s.heap.get? a = some o) (hr : ObR c.G ob o) (hσ : σ a = none) (h0 : c.h₀.get? a = none) : At c ρ (σ.set a ob) s := by
  obtain ⟨n1, n2, n3⟩ := hc.old a h0
  have hB : c.G.base.get? a = none := by
    cases e : c.G.base.get? a with
    | none => rfl
    | some o => have := hc.baseIn a o e; rw [h0] at this; cases this
  refine ⟨x.stays, x.os, x.gens, fun b ob' e => ?_, ⟨x.env.kind, x.env.glob, x.env.blt, x.env.loc, ?_, x.env.locB, fun y hy => ?_, x.env.inj⟩, x.frs, fun e he b hb => ?_, x.keep, x.alive, fun b ob' e => ?_⟩
  · by_cases q : b = a
    · subst q; rw [Sto.set_same] at e; cases e; exact ⟨.inl hB, o, ho, hr⟩
    · rw [Sto.set_other _ _ q] at e; exact x.sto b ob' e
  · rw [Sto.set_other _ _ (Ne.symm n1)]; exact x.env.locN
  · refine Classical.byContradiction fun hG => ?_
    obtain ⟨cc, v, h1, h2, h3, h4, h5⟩ := x.env.cel y hy
    refine hG ?_
    clear hG
    exact ⟨cc, v, h1, h2, (Sto.set_other σ ob (fun q : cc = a => n2 y (q ▸ h1))).trans h3, h4, h5⟩
  · exact (Sto.set_other σ ob (fun q : b = a => n3 e he (q ▸ hb))).trans (x.frN e he b hb)
  · by_cases q : b = a
    · subst q; exact .inr h0
    · rw [Sto.set_other _ _ q] at e; exact x.fresh b ob' e

/-- within a handler -/
noncomputable def Cx.mark (c : Cx) (e : Value) : Cx := { c with A := c.A.mark (some e), hd := true }
theorem CxOk.mark (hc : CxOk c) (e : Value) : CxOk (c.mark e) := ⟨hc.baseIn, hc.old, hc.frames, hc.room, hc.units, fun q => Bool.noConfusion q⟩
theorem At.mark (x : At c ρ σ s) (e : Value) : At (c.mark e) ρ σ s := ⟨x.stays, x.os, x.gens, x.sto, x.env, x.frs, x.frN, x.keep, x.alive, x.fresh⟩
theorem At.unmark {e : Value} (x : At (c.mark e) ρ σ s) : At c ρ σ s := ⟨x.stays, x.os, x.gens, x.sto, x.env, x.frs, x.frN, x.keep, x.alive, x.fresh⟩

/-- the handler's name goes -/
theorem goes_snd (ha : At c ρ σ s) (hown : Owns c) {x : Str} {pos : Pos} (hk : c.env.kindOf x = some .local) {R : Unit → Shared → Prop} (hR : ∀ s', At c (fun _ => none) σ s' → R () s') :
    wpAny (model c.G.prog c.G.w) c.A (do bindName c.env x .none; unbindBehindTheSuite c.env x pos) R E s := by
  obtain ⟨m, hn, _⟩ := ha.env.loc
  refine wpAny_nameGoes hk hn (by rw [ha.env.kind]; rfl) fun h' m' hn' hs' => hR _ ?_
  refine Classical.byContradiction fun hG => ?_
  obtain ⟨oL, es, ep, hoL, hdL, _⟩ := id hn'
  refine hG ?_
  clear hG
  have hoc : ∀ y cc, c.env.cells.lookup y = some cc → c.env.kindOf y = some .cell → cc ≠ c.env.locals := fun y cc h1 hy q => by
    refine Classical.byContradiction fun hG => ?_
    obtain ⟨c2, v, g1, g2, _⟩ := ha.env.cel y hy
    refine hG ?_
    clear hG
    rw [h1] at g1; cases g1
    refine Classical.byContradiction fun hG => ?_
    obtain ⟨o1, q1, q2⟩ := g2
    obtain ⟨o2, es2, ep2, q3, q4, _⟩ := hn
    refine hG ?_
    clear hG
    rw [q, q3] at q1; cases q1; rw [q4] at q2; cases q2
  exact (ha.tok _).ownUpd (s' := { s with heap := h', toks := s.toks + 1 }) ((hown.1 _).mpr (.inl rfl)) ha.env.locN ha.env.locB (fun b' o hb e => hs'.extBut b' o hb e) ⟨oL, hoL, fun vs q => by rw [hdL] at q; cases q⟩
    ⟨ha.env.kind, ha.env.glob, ha.env.blt, ⟨m', hn', fun y W _ _ q => by cases q⟩, ha.env.locN, ha.env.locB, fun y hy => by
      refine Classical.byContradiction fun hG => ?_
      obtain ⟨cc, v, h1, h2, h3, h4, _⟩ := ha.env.cel y hy
      obtain ⟨o1, q1, q2⟩ := h2
      refine hG ?_
      clear hG
      exact ⟨cc, v, h1, ⟨o1, hs'.extBut _ _ (hoc y cc h1 hy) q1, q2⟩, h3, h4, fun y W _ q => by cases q⟩, ha.env.inj⟩

theorem hand_snd (hc : CxOk c) (hown : Owns c) (ha : At c ρ σ s) (x3 : ExcT c e cl σ s.heap .none) {cls x : String} {D : Addr} (hD : c.G.exc cls = some D) (hsub : excSub cl cls = true) (hg : isGlob c.env.scope.names (Str.ofString cls) = true)
    (hv : isVar c.env.scope.names x = true) (hloc : c.env.scope.names.lookup (Str.ofString x) = some .local) {h : List St} (hs : SndSs h) {h' : List PySem.Stmt} (m2 : mSs c.env.scope.names h h' = true) (hne : h'.isEmpty = false) {Q : KS} {p1 p2 : Pos} {rest : List ExceptHandler}
    (hw : ∀ a, σ a = none → wpSs (WF c.G c.d) c.G.gv true h (upd ρ x (.ref a)) (σ.set a (.exc cl)) (fun fl _ σ'' => Q fl (fun _ => none) σ'') (fun _ _ _ => False)) :
    wpAny (model c.G.prog c.G.w) c.A (handleBy e c.env (.ExceptHandler (some (.Name (Str.ofString cls) p1)) (some (Str.ofString x)) h' p2 :: rest)) (GoodF c Q) E s := by
  obtain ⟨ea, C, oe, vs, a0, T, oT, ts, rfl, h2, h3, h4, h5, h6, h7, h8, k1, k2, k3, k4, k5, k7, k8⟩ := id x3
  have hc' := hc.mark (.ref ea)
  have a3 := ha.mark (.ref ea)
  cases h' with
  | nil => cases hne
  | cons b₀ suite =>
    refine wpAny_handleBy_cons (codeAny_handlers_test ?_) (by intro q; cases q)
    refine load_glob (c := c.mark (.ref ea)) a3 hg (c.G.excOk cls D hD).1 ?_
    refine Classical.byContradiction fun hG => ?_
    obtain ⟨_, bm, X, hsb⟩ := c.G.excOk cl C h2
    obtain ⟨_, bmD, XD, _⟩ := c.G.excOk cls D hD
    refine hG ?_
    clear hG
    have X' := X.keeps ha.stays
    have XD' := XD.keeps ha.stays
    refine Classical.byContradiction fun hG => ?_
    obtain ⟨hh', g, dr, t, os⟩ := s
    refine hG ?_
    clear hG
    refine excMatches_x ve_base X' XD' h3 h4 ?_
    rw [hsb cls D hD, hsub]
    refine codeAny_handlers_suite_as ?_
    refine land_snd (c := c.mark (.ref ea)) hc' a3 x3 fun s₄ a4 x4 => ?_
    refine Classical.byContradiction fun hG => ?_
    obtain ⟨ea', C', oe', vs', a0', T', oT', ts', q1, q2, q3, q4, q5, _⟩ := x4
    refine hG ?_
    clear hG
    cases q1
    have a5 := a4.adopt hc' (ob := .exc cl) q3 ⟨C', vs', q2, q4, q5⟩ h7 h8
    refine bind_snd (c := c.mark (.ref ea)) a5 hown hv (V := .ref ea) rfl fun s₅ a6 _ => ?_
    refine wpAny_mono (hs (c.mark (.ref ea)) _ _ s₅ _ (fun _ _ _ => False) _ hc' hown a6 m2 (hw ea h7)) ?_ fun _ _ h => badX_elim h
    intro fl s₆ H9 
    refine Classical.byContradiction fun hG => ?_
    obtain ⟨ρ₆, σ₆, a7, g7⟩ := H9
    refine hG ?_
    clear hG
    refine goes_snd a7.unmark hown hloc fun s₇ a8 => ⟨_, σ₆, a8, ?_⟩
    cases fl with
    | next => exact g7
    | ret v => exact g7
    | brk => exact g7
    | cont => exact g7
end

theorem snd_try {body h : List St} {cls x : String} (hb : SndSs body) (hhd : SndSs h) : SndS (.try_ body cls x h) := by
  intro c ρ σ s Q E e hc hown ha hm hw
  refine Classical.byContradiction fun hG => ?_
  obtain ⟨y0, hy⟩ : ∃ y, y = e := ⟨e, rfl⟩
  rw [← hy] at hm
  cases y0 <;> try exact Bool.noConfusion hm
  rename_i b' hs oe fb pos
  have hm : (match mHand c.env.scope.names cls x hs with | some h' => oe.isEmpty && fb.isEmpty && (mSs c.env.scope.names body b' && mSs c.env.scope.names h h') | none => false) = true := hm
  cases hH : mHand c.env.scope.names cls x hs with
  | none => rw [hH] at hm; exact Bool.noConfusion hm
  | some h' =>
    rw [hH] at hm
    cases oe <;> try exact Bool.noConfusion hm
    cases fb <;> try exact Bool.noConfusion hm
    refine Classical.byContradiction fun hG => ?_
    obtain ⟨m1, m2⟩ := and2 (and2 hm).2
    obtain ⟨p1, p2, rfl, hg, hv, hloc, hne⟩ := hand_of hH
    refine hG ?_
    clear hG
    subst hy
    refine hG ?_
    clear hG
    simp only [wpS] at hw
    refine Classical.byContradiction fun hG => ?_
    obtain ⟨hh, hx, hw⟩ := hw
    obtain ⟨D, hD⟩ := Option.isSome_iff_exists.mp (show (c.G.exc cls).isSome = true from hx)
    refine hG ?_
    clear hG
    refine wpAny_Try_except (wpAny_mono (hb c ρ σ s _ _ _ hc hown ha m1 hw) ?_ ?_)
    · intro fl s₁ hgood
      cases fl with
      | next => exact wpAny_execs_nil hgood
      | ret v => exact hgood
      | brk => exact hgood
      | cont => exact hgood
    · intro e s₁ H9 
      refine Classical.byContradiction fun hG => ?_
      obtain ⟨cl, ρ₁, σ₁, a1, x1, hsub, hk⟩ := H9
      refine hG ?_
      clear hG
      exact note_snd hc hown a1 x1 fun s₂ a2 x2 => land_snd hc a2 x2 fun s₃ a3 x3 => hand_snd hc hown a3 x3 hD hsub hg hv hloc hhd m2 hne hk
end BP

/-! ## GSts -/
set_option linter.unusedVariables false
set_option linter.unusedSimpArgs false
namespace BP
open PySem PyProof.Rows

section
variable {c : Cx} {ρ : Loc} {σ : Sto} {s : Shared} {E : Value → Shared → Prop}

theorem assignEach_tup : ∀ (xs : List String) (ts : List PySem.Expr), mTup xs ts = true → ∀ env, (assignEach ts env).findIdx? (·.1) = none ∧ (assignEach ts env).length = xs.length ∧ ∃ ps : List Pos, ps.length = xs.length ∧ (assignEach ts env).map (·.2) = (xs.zip ps).map fun x v => assign (.Name (Str.ofString x.1) x.2) env v
  | [], [], _, _ => ⟨rfl, rfl, [], rfl, rfl⟩
  | x :: xs, t :: ts, h, env => by
    cases t <;> try exact Bool.noConfusion h
    rename_i y p
    obtain ⟨h0, h9⟩ := and2 h
    cases beq_iff_eq.mp h0
    obtain ⟨h1, h2, ps, h3, h4⟩ := assignEach_tup xs ts h9 env
    refine ⟨?_, ?_, p :: ps, congrArg (· + 1) h3, ?_⟩
    · show List.findIdx? _ ((false, assign (.Name (Str.ofString x) p) env) :: assignEach ts env) = none
      rw [List.findIdx?_cons, h1]; rfl
    · exact congrArg (· + 1) h2
    · exact congrArg (List.cons (assign (.Name (Str.ofString x) p) env)) h4
  | [], _ :: _, h, _ => Bool.noConfusion h
  | _ :: _, [], h, _ => Bool.noConfusion h

theorem inOrder_snd (hown : Owns c) : ∀ (xs : List String) (ps : List Pos) (vals : List Value) (vs : List Val) (ρ : Loc) (s : Shared), xs.all (isVar c.env.scope.names) = true → ps.length = xs.length → VsR vals vs → vs.length = xs.length → At c ρ σ s →
    ∀ {R : Unit → Shared → Prop}, (∀ s', At c (bindT xs vs ρ) σ s' → R () s') → wpAny (model c.G.prog c.G.w) c.A (assignInOrder ((xs.zip ps).map fun x v => assign (.Name (Str.ofString x.1) x.2) c.env v) vals) R E s
  | [], ps, vals, [], ρ, s, _, hp, hv, hl, ha, R, hR => by
    rw [hv.nil_right]
    exact wpAny_pure (hR _ ha)
  | [], ps, vals, _ :: _, ρ, s, _, hp, hv, hl, ha, R, hR => nomatch hl
  | x :: xs, [], vals, vs, ρ, s, hx, hp, hv, hl, ha, R, hR => nomatch hp
  | x :: xs, p :: ps, vals, [], ρ, s, hx, hp, hv, hl, ha, R, hR => nomatch hl
  | x :: xs, p :: ps, vals, V :: vs, ρ, s, hx, hp, hv, hl, ha, R, hR => by
    cases vals with
    | nil => exact absurd hv.len (by simp)
    | cons v vals =>
      rw [VsR.cons] at hv
      have hx := and2 hx
      show wpAny _ _ (assignInOrder ((fun v => assign (.Name (Str.ofString x) p) c.env v) :: (xs.zip ps).map fun x v => assign (.Name (Str.ofString x.1) x.2) c.env v) (v :: vals)) _ _ _
      simp only [assignInOrder]
      refine wpAny_bind (wpAny_holding (wpAny_assign_Name (bind_snd ha hown hx.1 hv.1 fun s' h _ => ?_)))
      exact inOrder_snd hown xs ps vals vs _ s' hx.2 (Nat.succ.inj hp) hv.2 (Nat.succ.inj hl) h hR

theorem snd_assignT {xs : List String} {y : String} : SndS (.assignT xs y) := by
  intro c ρ σ s Q E e hc hown ha hm hw
  refine Classical.byContradiction fun hG => ?_
  obtain ⟨y0, hy⟩ : ∃ y, y = e := ⟨e, rfl⟩
  rw [← hy] at hm
  cases y0 <;> try exact Bool.noConfusion hm
  rename_i ts v pos
  cases ts with
  | nil => exact Bool.noConfusion hm
  | cons t ts =>
    cases t <;> try exact Bool.noConfusion hm
    cases v <;> try exact Bool.noConfusion hm
    cases ts with
    | cons _ _ => exact Bool.noConfusion hm
    | nil =>
      rename_i us k p z pz
      obtain ⟨⟨⟨m1, m2⟩, m3⟩, m4⟩ := and4 hm
      obtain ⟨hh, a, vs, hρ, hσ, hl, hw⟩ := hw
      obtain ⟨ws, n, h1, h2, h3⟩ := ha.tup hσ
      obtain ⟨g1, g2, ps, g3, g4⟩ := assignEach_tup xs us m1 c.env
      subst hy
      refine hG ?_
      clear hG
      have hlen := h2.len
      rw [Array.length_toList] at hlen
      refine wpAny_Assign_stores (wpAny_mono (snd_var y c ρ σ s (fun v σ₁ => v = .ref a ∧ σ₁ = σ) (fun _ _ => False) _ hc ha (by show (_ && _) = true; rw [m3, m4]; rfl) (by
        show match ρ y with | some v => v = .ref a ∧ σ = σ | none => False
        rw [hρ]; exact ⟨rfl, rfl⟩)) ?_ fun _ _ h => bad_elim h) rfl rfl
      intro v s₁ H9
      refine Classical.byContradiction fun hG => ?_
      obtain ⟨V, σ₁, hV, a1, rfl, rfl⟩ := H9
      obtain ⟨ws, n, h1, h2, h3⟩ := a1.tup hσ
      refine hG ?_
      clear hG
      rw [vval_ref hV]
      have hlen := h2.len
      rw [Array.length_toList] at hlen
      show wpAny _ _ (assignAll (.ref a) [assign (.Tuple us k p) c.env]) _ _ _
      refine wpAny_assign_Tuple (hc.handled hh) ⟨_, h1, rfl, n, rfl⟩ (by rw [g2, hlen, hl]) g1 fun h' he => ?_
      have a2 : At c ρ σ₁ { s₁ with heap := h' } := a1.grow fun b o e => he b o (Nat.ne_of_lt (Heap.lt_size e)) e
      rw [g4]
      exact inOrder_snd hown xs ps ws.toList vs ρ _ m2 g3 h2 hl a2 fun s' h => ⟨_, σ₁, h, hw⟩

theorem AttR.append {es : List DictEntry} {fs : List (String × Val)} (h : AttR es fs) {e : DictEntry} {a : String} {V : Val} (hk : ∃ t, e.key = .str (Str.ofString a) t) (hv : vval e.val = some V) : AttR (es ++ [e]) (fs ++ [(a, V)]) := by
  induction h with
  | nil => exact .cons hk hv .nil
  | cons h1 h2 _ ih => exact .cons h1 h2 ih
theorem AttR.len {es : List DictEntry} {fs : List (String × Val)} (h : AttR es fs) : es.length = fs.length := by induction h <;> simp [*]
theorem AttR.none {es : List DictEntry} {fs : List (String × Val)} (h : AttR es fs) {a : String} (hl : fs.lookup a = none) : es.any (·.key.isStr (Str.ofString a)) = false ∧ es.any (·.refKey) = false := by
  induction h with
  | nil => exact ⟨rfl, rfl⟩
  | @cons e es b W fs hk hv _ ih =>
    obtain ⟨t, hk⟩ := hk
    rw [List.lookup_cons] at hl
    by_cases q : a = b
    · subst q; simp at hl
    · have hb : (a == b) = false := by simpa using q
      rw [hb] at hl
      obtain ⟨h1, h2⟩ := ih hl
      refine ⟨?_, ?_⟩
      · rw [List.any_cons, hk, isStr_iff, h1, show decide (b = a) = false from by simpa using fun h => q h.symm]; rfl
      · rw [List.any_cons, h2]; simp [DictEntry.refKey, hk]
theorem putL_none {name : Str} {hsh : Int} {key v : Value} : ∀ {es : List DictEntry}, es.any (·.key.isStr name) = false → W.putL name hsh key v es = es ++ [⟨hsh, key, v⟩]
  | [], _ => rfl
  | e :: es, h => by
    rw [List.any_cons, Bool.or_eq_false_iff] at h
    simp [W.putL, h.1, putL_none h.2]

theorem setAttr_snd (ha : At c ρ σ s) {v x : Value} {V X : Val} (hv : vval v = some V) (hx : vval x = some X) {n : String} {K : Sto → Prop} (h : setAttrW V n X σ K) {R : Unit → Shared → Prop}
    (hR : ∀ σ' s', At c ρ σ' s' → K σ' → R () s') : wpAny (model c.G.prog c.G.w) c.A (setAttr v (Str.ofString n) x) R E s := by
  unfold setAttrW at h
  obtain ⟨hin, h⟩ := h
  split at h
  · rw [vval_ref hv]
    rename_i a
    split at h
    · rename_i cl dx hσ1
      split at h
      · rename_i fs hσ2
        refine Classical.byContradiction fun hG => ?_
        obtain ⟨hnone, hlen, h⟩ := h
        obtain ⟨C, es, m, hC, hI, hr, _⟩ := instAt_of ha hσ1 hσ2
        obtain ⟨k1, k2, k3, k4, k5⟩ := c.G.clsOk _ _ hC
        refine hG ?_
        clear hG
        have ht : W.takerIn c.G.K C (Str.ofString n) = some none := by unfold W.takerIn; rw [k5 n hin]; rfl
        refine W.set_plain (kin_at ha) hI k4 ?_
        have hI' : W.InstAt ({ s with toks := s.toks + 1 } : Shared).heap a ⟨.ref C, some dx, .plain, #[]⟩ C (some (W.dictOf es m)) := hI
        refine W.osa_open (kin_at (ha.tok (s.toks + 1))) hI' k3 ht fun b => ?_
        refine Classical.byContradiction fun hG => ?_
        obtain ⟨cd, hcd, hd'⟩ := W.any_some k2
        obtain ⟨n1, n2⟩ := hr.none hnone
        refine hG ?_
        clear hG
        have D : s.heap.get? dx = some (W.dictOf es m) := hI.dict
        refine wpAny_bind (wpAny_pure (wpAny_bind (wpAny_bind (wpAny_loadPart hI'.at_ (wpAny_bind ((W.looks_clsIn (kin_at (ha.tok (s.toks + 1))) hcd).here ?_))))))
        rw [hd']
        refine wpAny_pure (a := some dx) (wpAny_bind (wpAny_pure (wpAny_bind ?_)))
        unfold nsSet
        refine wpAny_bind (wpAny_bind (wpAny_askSetting (wpAny_pure (wpAny_bind (wpAny_mkText (wpAny_bind (wpAny_loadPart (o := W.dictOf es m) D ?_)))))))
        dsimp only [W.dictOf]
        have hc' : (!es.toArray.any (·.key.isStr (Str.ofString n)) && es.toArray.any (·.refKey)) = false := by
          rw [← Array.any_toList, ← Array.any_toList]; show (_ && es.any _) = false; rw [n2, Bool.and_false]
        rw [aRefKeyMayBeTheName_at, hc']
        have hput : ∀ tk, Obj.putName (Str.ofString n) (PyData.keyHash c.G.w.params (Str.ofString n)) (.str (Str.ofString n) tk) x (W.dictOf es m) = W.dictOf (es ++ [⟨PyData.keyHash c.G.w.params (Str.ofString n), .str (Str.ofString n) tk, x⟩]) (m + 1) := fun tk => by
          rw [W.putName_dict, putL_none n1]; simp [W.putN, n1]
        refine wpAny_updatePart (o := W.dictOf es m) D ?_
        have D' := Heap.get?_update_self (h := s.heap) (f := Obj.putName (Str.ofString n) (PyData.keyHash c.G.w.params (Str.ofString n)) (.str (Str.ofString n) (s.toks + 1)) x) (a := dx) D (by rw [hput]; rfl)
        rw [hput] at D'
        refine wpAny_bind (wpAny_lookBehind D' (pastItsLine_dict (by have := hr.len; simp [sizeLine]; omega)) ?_)
        refine wpAny_pure ?_
        refine hR (σ.set dx (.attrs (fs ++ [(n, X)]))) _ ?_ h
        refine ha.update hσ2 (fun b o hb e => (Heap.get?_update_other _ _ (Ne.symm hb)).trans e) D' ⟨_, _, rfl, hr.append ⟨_, rfl⟩ hx, by simp; omega⟩
      · exact h.elim
    · exact h.elim
  · exact h.elim

theorem snd_assignAttr {o : Ex} {a : String} {ex : Ex} : SndS (.assignAttr o a ex) := by
  intro c ρ σ s Q E e hc hown ha hm hw
  refine Classical.byContradiction fun hG => ?_
  obtain ⟨y0, hy⟩ : ∃ y, y = e := ⟨e, rfl⟩
  rw [← hy] at hm
  cases y0 <;> try exact Bool.noConfusion hm
  rename_i ts v pos
  cases ts with
  | nil => exact Bool.noConfusion hm
  | cons t ts =>
    cases ts with
    | cons _ _ => cases t <;> exact Bool.noConfusion hm
    | nil =>
      cases t <;> try exact Bool.noConfusion hm
      rename_i o' a' py
      replace hm := and3 hm
      refine Classical.byContradiction fun hG => ?_
      obtain ⟨⟨h0, m2⟩, m3⟩ := hm
      refine hG ?_
      clear hG
      cases beq_iff_eq.mp h0
      subst hy
      refine hG ?_
      clear hG
      simp only [wpS] at hw
      have hs : swapsWith v (some (.Attribute o' (Str.ofString a) py)) pos.line c.env = pure false := by cases v <;> rfl
      refine plainObj_wpAny_Assign_Attribute (wpAny_mono ((sndE ex).1 c ρ σ s _ _ _ hc ha m3 hw) ?_ fun _ _ h => bad_bad h) hs
      intro x s₁ H9 
      refine Classical.byContradiction fun hG => ?_
      obtain ⟨X, σ₁, hX, a1, hw⟩ := H9
      refine hG ?_
      clear hG
      refine wpAny_mono ((sndE o).1 c ρ σ₁ s₁ _ _ _ hc a1 m2 hw) ?_ fun _ _ h => bad_bad h
      intro ov s₂ H9 
      refine Classical.byContradiction fun hG => ?_
      obtain ⟨V, σ₂, hV, a2, hw⟩ := H9
      refine hG ?_
      clear hG
      exact setAttr_snd a2 hV hX hw fun σ' s' h hk => ⟨ρ, σ', h, hk⟩
end


mutual
theorem sndS : ∀ st : St, SndS st
  | .assign _ _ => snd_assign
  | .assignAttr _ _ _ => snd_assignAttr
  | .expr _ => snd_expr
  | .ret _ => snd_ret
  | .if_ _ t e => snd_if (sndSs t) (sndSs e)
  | .for_ _ _ b => snd_for (sndSs b)
  | .assignT _ _ => snd_assignT
  | .raise _ _ => snd_raise
  | .try_ b _ _ h => snd_try (sndSs b) (sndSs h)
theorem sndSs : ∀ sts : List St, SndSs sts
  | [] => sndSs_nil
  | s :: r => sndSs_cons (sndS s) (sndSs r)
end
end BP

/-! ## GFn -/
set_option linter.unusedVariables false
set_option linter.unusedSimpArgs false
namespace BP
open PySem PyProof.Rows

/-- a function of the text's own stands in the base -/
structure HasFd (G : Gd) (a : Addr) (df : List String × List St) : Prop where
  ex : ∃ o fd body, G.base.get? a = some o ∧ o.data = .func fd ∧ fd.body = .stmts body ∧ fd.defaults = .none ∧ fd.closure = [] ∧ fd.globals = mainGlobals ∧ fd.builtins = builtinsNs ∧
    G.base.CodeRec fd.code fd.qualname ∧ mFn df fd.params body fd.scope = true

theorem cells_some {x : Str} : ∀ (names : List (Str × NameKind)) (n : Nat) (acc : List (Str × Addr)), names.lookup x = some .cell ∨ (acc.lookup x).isSome = true → ((cellsFrom n names acc).lookup x).isSome = true
  | [], n, acc, h => by
    rcases h with h | h
    · cases h
    · exact h
  | (y, k) :: r, n, acc, h => by
    unfold cellsFrom
    split
    · refine cells_some r _ _ ?_
      by_cases q : x = y
      · subst q; right; rw [List.lookup_cons]; simp
      · rw [List.lookup_cons] at h
        have q' : (x == y) = false := by simpa using q
        rw [q'] at h
        rcases h with h | h
        · exact .inl h
        · right; rw [List.lookup_cons, q']; exact h
    · rename_i hk
      refine cells_some r _ _ ?_
      rcases h with h | h
      · rw [List.lookup_cons] at h
        split at h
        · cases h; simp at hk
        · exact .inl h
      · exact .inr h

theorem zip_lookup {names : List Str} {vals : List Value} (hn : names.Nodup) (hl : vals.length = names.length) : names.filterMap (fun n => ((names.zip vals).lookup n).map (n, ·)) = names.zip vals := by
  have key : ∀ (ns : List Str) (vs : List Value), ns.Nodup → vs.length = ns.length → ∀ (acc : List (Str × Value)), (∀ n ∈ ns, acc.lookup n = none) → ns.filterMap (fun n => ((acc ++ ns.zip vs).lookup n).map (n, ·)) = ns.zip vs := by
    intro ns
    induction ns with
    | nil => intro vs _ _ _ _; simp
    | cons n ns ih =>
      intro vs hn hl acc hacc
      cases vs with
      | nil => simp at hl
      | cons v vs =>
        have hn' := List.nodup_cons.mp hn
        rw [List.zip_cons_cons, List.filterMap_cons]
        have e : (acc ++ (n, v) :: ns.zip vs).lookup n = some v := by
          have : ∀ acc : List (Str × Value), acc.lookup n = none → (acc ++ (n, v) :: ns.zip vs).lookup n = some v := by
            intro acc
            induction acc with
            | nil => intro _; simp [List.lookup_cons]
            | cons p r ihr =>
              intro h
              rw [List.lookup_cons] at h
              rw [List.cons_append, List.lookup_cons]
              split
              · rename_i q; rw [q] at h; cases h
              · rename_i q; rw [q] at h; exact ihr h
          exact this acc (hacc n (by simp))
        rw [e]
        dsimp only [Option.map_some]
        congr 1
        have := ih vs hn'.2 (by simpa using hl) (acc ++ [(n, v)]) (fun m hm => by
          have h1 := hacc m (by simp [hm])
          have hne : m ≠ n := fun q => hn'.1 (q ▸ hm)
          have : ∀ acc : List (Str × Value), acc.lookup m = none → (acc ++ [(n, v)]).lookup m = none := by
            intro acc
            induction acc with
            | nil => intro _; simp [List.lookup_cons, show (m == n) = false from by simpa using hne]
            | cons p r ihr =>
              intro h
              rw [List.lookup_cons] at h
              rw [List.cons_append, List.lookup_cons]
              split
              · rename_i q; rw [q] at h; cases h
              · rename_i q; rw [q] at h; exact ihr h
          exact this acc h1)
        rw [List.append_assoc] at this
        exact this
  have := key names vals hn hl [] (fun _ _ => rfl)
  simpa using this

theorem zip_lookup_some {n : Str} : ∀ {names : List Str} {vals : List Value}, vals.length = names.length → n ∈ names → ((names.zip vals).lookup n).isNone = false
  | [], _, _, h => by simp at h
  | m :: names, [], hl, _ => by simp at hl
  | m :: names, v :: vals, hl, h => by
    rw [List.zip_cons_cons, List.lookup_cons]
    split
    · rfl
    · rename_i q
      rcases List.mem_cons.mp h with e | e
      · subst e; simp at q
      · exact zip_lookup_some (by simpa using hl) e

theorem bindArgs_plain {fd : FuncData} {vals : List Value} (h1 : fd.params.posonlyargs = []) (h2 : fd.params.vararg = none) (h3 : fd.params.kwonlyargs = []) (h4 : fd.params.kwarg = none) (h5 : fd.defaults = .none)
    (hn : (fd.params.args.map (·.arg)).Nodup) (hl : vals.length = (fd.params.args.map (·.arg)).length) : bindArgs fd ⟨vals, []⟩ = pure ((fd.params.args.map (·.arg)).zip vals) := by
  unfold bindArgs
  have hs : seqItems? Value.none = pure none := rfl
  have hz := zip_lookup hn hl
  have hm : List.filter (fun n => (((fd.params.args.map (·.arg)).zip vals).lookup n).isNone) (fd.params.args.map (·.arg)) = [] := by
    rw [List.filter_eq_nil_iff]
    intro n hn'
    rw [zip_lookup_some hl hn']; simp
  have ht : ∀ l : List Str, List.take (l.length - 0) l = l := fun l => by simp
  simp only [h1, h2, h3, h4, h5, hs, List.map_nil, List.nil_append, List.forIn_nil, pure_bind, Option.getD_none, List.append_nil]
  generalize fd.params.args.map (·.arg) = names at *
  have hd : List.drop (0 - names.length) ([] : List Value) = [] := by simp
  simp [hl, hm, hz, hd]

theorem bindL_zip (kindOf : Str → Option NameKind) : ∀ (names : List String) (vals : List Value) (vs : List Val) (m : Str → Option Value) (ρ : Loc) (x : String) (V : Val), VsR vals vs → kindOf (Str.ofString x) = some .local →
    (ρ x = some V → ∃ v, m (Str.ofString x) = some v ∧ vval v = some V) → bindT names vs ρ x = some V → ∃ v, bindL kindOf ((names.map Str.ofString).zip vals) m (Str.ofString x) = some v ∧ vval v = some V
  | [], vals, vs, m, ρ, x, V, hv, hk, h0, h => by
    cases vs <;> exact h0 h
  | n :: names, vals, vs, m, ρ, x, V, hv, hk, h0, h => by
    cases vs with
    | nil => cases vals with
      | nil => exact h0 h
      | cons _ _ => simp [VsR] at hv
    | cons W vs =>
      cases vals with
      | nil => simp [VsR] at hv
      | cons v vals =>
        rw [VsR.cons] at hv
        refine bindL_zip kindOf names vals vs _ (upd ρ n W) x V hv.2 hk ?_ h
        intro hx
        by_cases q : x = n
        · subst q; simp [upd] at hx; subst hx
          exact ⟨v, by simp [hk], hv.1⟩
        · simp only [upd, q, if_false] at hx
          obtain ⟨v', g1, g2⟩ := h0 hx
          refine ⟨v', ?_, g2⟩
          have : Str.ofString x ≠ Str.ofString n := fun e => q (ofString_inj e)
          split <;> simp [this, g1]
theorem bindC_zip (kindOf : Str → Option NameKind) : ∀ (names : List String) (vals : List Value) (vs : List Val) (m : Str → Option Value) (ρ : Loc) (x : String) (V : Val), VsR vals vs → kindOf (Str.ofString x) = some .cell →
    (ρ x = some V → ∃ v, m (Str.ofString x) = some v ∧ vval v = some V) → bindT names vs ρ x = some V → ∃ v, bindC kindOf ((names.map Str.ofString).zip vals) m (Str.ofString x) = some v ∧ vval v = some V
  | [], vals, vs, m, ρ, x, V, hv, hk, h0, h => by
    cases vs <;> exact h0 h
  | n :: names, vals, vs, m, ρ, x, V, hv, hk, h0, h => by
    cases vs with
    | nil => cases vals with
      | nil => exact h0 h
      | cons _ _ => simp [VsR] at hv
    | cons W vs =>
      cases vals with
      | nil => simp [VsR] at hv
      | cons v vals =>
        rw [VsR.cons] at hv
        refine bindC_zip kindOf names vals vs _ (upd ρ n W) x V hv.2 hk ?_ h
        intro hx
        by_cases q : x = n
        · subst q; simp [upd] at hx; subst hx
          exact ⟨v, by simp [hk], hv.1⟩
        · simp only [upd, q, if_false] at hx
          obtain ⟨v', g1, g2⟩ := h0 hx
          refine ⟨v', ?_, g2⟩
          have : Str.ofString x ≠ Str.ofString n := fun e => q (ofString_inj e)
          split <;> simp [this, g1]

theorem lookup_apart {l : List (Str × Addr)} (h : l.Pairwise fun x y => x.2 ≠ y.2) {x y : Str} {a : Addr} (hx : l.lookup x = some a) (hy : l.lookup y = some a) : x = y := by
  induction l with
  | nil => cases hx
  | cons p r ih =>
    obtain ⟨h1, h2⟩ := List.pairwise_cons.mp h
    rw [List.lookup_cons] at hx hy
    split at hx
    · rename_i qx
      split at hy
      · rename_i qy; rw [beq_iff_eq] at qx qy; rw [qx, qy]
      · cases hx; exact absurd rfl (h1 (y, p.2) (mem_of_lookup hy))
    · split at hy
      · cases hy; exact absurd rfl (h1 (x, p.2) (mem_of_lookup hx))
      · exact ih h2 hx hy

/-- back from a call -/
theorem At.ret {c c' : Cx} {ρ ρ' : Loc} {σ σ' : Sto} {s s' : Shared} (x : At c ρ σ s) (y : At c' ρ' σ' s') (hG : c'.G = c.G) (hσ : c'.σ₀ = σ) {e : Env} (hfr : c'.fr = e :: c.fr) (hh : ∀ b o, s.heap.get? b = some o → c'.h₀.get? b = some o ∧ ¬ c'.own b) (hne : ∀ b o, s.heap.get? b = some o → e.frame ≠ some b) : At c ρ σ' s' := by
  have y2 : At { c' with fr := c.fr, h₀ := s.heap, own := fun _ => False } ρ' σ' s' := by
    refine ⟨y.stays, y.os, y.gens, y.sto, y.env, ?_, fun e' he => y.frN e' (by rw [hfr]; exact List.mem_cons_of_mem _ he), fun b o hb h1 _ => ?_, fun b o hb => ?_, fun b ob hb => ?_⟩
    · have := y.frs; rw [hfr] at this; exact this.2.2
    · obtain ⟨o', g1, g2⟩ := y.keep b o (hh b o hb).1 h1 (hh b o hb).2
      refine ⟨o', g1, g2.mono fun ⟨e', q1, q2⟩ => ⟨e', ?_, q2⟩⟩
      rw [hfr] at q1
      rcases List.mem_cons.mp q1 with q | q
      · rw [q] at q2; exact absurd q2 (hne b o hb)
      · exact q
    · exact y.alive b o (hh b o hb).1
    · rcases y.fresh b ob hb with h | h
      · exact .inl h
      · right
        cases q : s.heap.get? b with
        | none => rfl
        | some o => have := (hh b o q).1; rw [h] at this; cases this
  exact x.back y2 hG rfl rfl hσ fun _ h => h

theorem ExcT.move {c c' : Cx} {e fl : Value} {cl : String} {σ : Sto} {h : Heap} (x : ExcT c' e cl σ h fl) (hG : c'.G = c.G) (hn : ∀ b, c'.h₀.get? b = none → c.h₀.get? b = none) : ExcT c e cl σ h fl := by
  refine Classical.byContradiction fun hG => ?_
  obtain ⟨ea, C, oe, vs, a0, T, oT, ts, h1, h2, h3, h4, h5, h6, h7, h8, k1, k2, k3, k4, k5, k7, k8⟩ := x
  refine hG ?_
  clear hG
  exact ⟨ea, C, oe, vs, a0, T, oT, ts, h1, hG ▸ h2, h3, h4, h5, h6, h7, hn _ h8, k1, k2, k3, k4, k5, k7, hn _ k8⟩

/-- what stands under a call -/
structure Low (G : Gd) (fr : List Env) (σ : Sto) (s : Shared) : Prop where
  stays : G.base.StaysIn s.heap
  os : s.os = G.os
  gens : s.gens = G.gens
  sto : ∀ a ob, σ a = some ob → (G.base.get? a = none ∨ ob.isRo = true) ∧ ∃ o, s.heap.get? a = some o ∧ ObR G ob o
  frs : s.heap.FunFrames G.base fr
  frN : ∀ e ∈ fr, ∀ L, e.frame = some L → σ L = none

theorem At.low {c : Cx} {ρ : Loc} {σ : Sto} {s : Shared} (x : At c ρ σ s) : Low c.G c.fr σ s := ⟨x.stays, x.os, x.gens, x.sto, x.frs, x.frN⟩

/-- what a call of a function of the text's own does -/
theorem call_low {G : Gd} {a : Addr} {df : List String × List St} (H : HasFd G a df) {d : Nat} {hd : Bool} {vs : List Val} {σ : Sto} {Q : KV} {E : KE} (hlen : vs.length = df.1.length)
    (hw : wpSs (WF G d) G.gv hd df.2 (bindT df.1 vs fun _ => none) σ (fun fl _ σ' => match fl with | .next => Q .none σ' | .ret v => Q v σ') (fun cl _ σ' => E cl σ'))
    {fr : List Env} (s : Shared) (vals : List Value) (A : Around) (hA : A.frames = some fr) (hAd : A.depth + 1 + 2 * d ≤ 900) (hAu : A.units + 3 + 20 * d ≤ 9000) (hAh : hd = false → A.handled = none) (ha : Low G fr σ s) (hvs : VsR vals vs)
    {R : Result → Shared → Prop} (hR : ∀ (c' : Cx) env ρ' v V σ' s', vval v = some V → c'.G = G → c'.σ₀ = σ → c'.fr = env :: fr → (∀ b o, s.heap.get? b = some o → c'.h₀.get? b = some o ∧ ¬ c'.own b) → (∀ b o, s.heap.get? b = some o → env.frame ≠ some b) → At c' ρ' σ' s' → Q V σ' → R (.ok (.ret v)) s')
    (hX : ∀ (c' : Cx) env ρ' e cl σ' s', c'.G = G → c'.σ₀ = σ → c'.fr = env :: fr → (∀ b o, s.heap.get? b = some o → c'.h₀.get? b = some o ∧ ¬ c'.own b) → (∀ b o, s.heap.get? b = some o → env.frame ≠ some b) → At c' ρ' σ' s' → ExcT c' e cl σ' s'.heap .none → E cl σ' → R (.error e) s') :
    codeAny (model G.prog G.w) A (.call (.ref a) ⟨vals, []⟩) R s := by
  refine Classical.byContradiction fun hG => ?_
  obtain ⟨o, fd, body, h1, h2, h3, h4, h5, h6, h7, h8, hm⟩ := H.ex
  refine hG ?_
  clear hG
  simp only [mFn, Bool.and_eq_true, List.isEmpty_iff, decide_eq_true_eq, beq_iff_eq, List.all_eq_true, Option.isNone_iff_eq_none, Bool.not_eq_true'] at hm
  refine Classical.byContradiction fun hG => ?_
  obtain ⟨⟨⟨⟨⟨⟨⟨⟨⟨⟨⟨⟨⟨⟨p1, p2⟩, p3⟩, p4⟩, p5⟩, p6⟩, p7⟩, p8⟩, p9⟩, p10⟩, p11⟩, p12⟩, p13⟩, p14⟩, p15⟩ := hm
  refine hG ?_
  clear hG
  have hvl : vals.length = vs.length := by have := congrArg List.length hvs; simpa using this
  have hnd : (fd.params.args.map (·.arg)).Nodup := by
    rw [← p7]; exact List.Pairwise.map _ (fun x y h e => h (ofString_inj e)) p14
  refine codeAny_call_function (by simp [recursionLimit]; omega) (ha.stays _ _ h1) h2 p9 p10 h3 (h8.keeps ha.stays) ?_
  rw [bindArgs_plain p1 p2 p3 p4 h4 hnd (by rw [hvl, hlen, ← p7]; simp), ← p7]
  refine wpAny_pure ?_
  have hkind : ∀ n, ∀ x ∈ (df.1.map Str.ofString).zip vals, fd.scope.names.lookup x.1 = some .local ∨ (fd.scope.names.lookup x.1 = some .cell ∧ ((cellsFrom n fd.scope.names []).lookup x.1).isSome = true) := by
    intro n x hx
    have hx1 : x.1 ∈ df.1.map Str.ofString := (List.of_mem_zip hx).1
    obtain ⟨y, hy, e⟩ := List.mem_map.mp hx1
    have hv := p13 y hy
    simp only [isVar, Bool.and_eq_true, bne_iff_ne, ne_eq, Bool.or_eq_true, beq_iff_eq] at hv
    rw [← e]
    rcases hv.2 with h | h
    · exact .inl h
    · exact .inr ⟨h, cells_some _ _ _ (.inl h)⟩
  rw [h5]
  refine wpAny_newFunctionEnv_cells p8 (hkind _) fun env he s₁ X => ?_
  refine Classical.byContradiction fun hG => ?_
  obtain ⟨h₁, tk, hs₁, hk₁⟩ := X.done
  refine hG ?_
  clear hG
  have hfresh : s.heap.get? s.heap.objs.size = none := by
    cases e : s.heap.get? s.heap.objs.size with
    | none => rfl
    | some o => exact absurd (Heap.lt_size e) (Nat.lt_irrefl _)
  have none_of_fresh : ∀ b, s.heap.get? b = none → σ b = none := fun b hb => by
    cases e : σ b with
    | none => rfl
    | some ob => obtain ⟨_, o, h2, _⟩ := ha.sto b ob e; rw [hb] at h2; cases h2
  have ge_none : ∀ b, s.heap.objs.size ≤ b → s.heap.get? b = none := fun b hb => by
    cases e : s.heap.get? b with
    | none => rfl
    | some o' => exact absurd (Heap.lt_size e) (Nat.not_lt.mpr hb)
  have base_none : ∀ b, s.heap.get? b = none → G.base.get? b = none := fun b hb => by
    cases e : G.base.get? b with
    | none => rfl
    | some o' => have := ha.stays b o' e; rw [hb] at this; cases this
  refine ⟨(G.nolimit.keeps ha.stays).keeps (by rw [hs₁]; exact hk₁), codeAny_func ?_⟩
  have eL : env.locals = s.heap.objs.size := by rw [he]; rfl
  have eK : env.scope = fd.scope := by rw [he]; rfl
  have eF : env.frame = some env.locals := by rw [he]; rfl
  have eC : env.cells = cellsFrom (s.heap.objs.size + 1) fd.scope.names [] := by rw [he]; rfl
  have eG : env.globals = mainGlobals := by rw [he]; exact h6
  have eB : env.builtins = builtinsNs := by rw [he]; exact h7
  have ns := X.toInCall.ns
  refine Classical.byContradiction fun hG => ?_
  obtain ⟨oL, esL, epL, hoL, hdL, _⟩ := id ns
  refine hG ?_
  clear hG
  let c' : Cx := { G := G, d := d, hd := hd, A := A.deeper env, fr := env :: fr, env := env, own := fun b => b = env.locals ∨ ∃ x, env.cells.lookup x = some b, σ₀ := σ, h₀ := s₁.heap }
  have keep : ∀ b o, s.heap.get? b = some o → s₁.heap.get? b = some o := by rw [hs₁]; exact hk₁
  have cellHi : ∀ x b, env.cells.lookup x = some b → s.heap.get? b = none := fun x b hb => ge_none b (by have : env.locals < b := X.above x b (mem_of_lookup hb); rw [eL] at this; exact Nat.le_of_lt this)
  have hc' : CxOk c' := by
    refine ⟨fun b o e => keep b o (ha.stays b o e), fun b hb => ⟨fun q => ?_, fun x q => ?_, fun e he' q => ?_⟩, ?_, hAd, hAu, fun h => ?_⟩
    · have hb : s₁.heap.get? b = none := hb
      have q : b = env.locals := q
      rw [q, hoL] at hb; cases hb
    · have hb : s₁.heap.get? b = none := hb
      obtain ⟨oc, hoc, _⟩ := X.cell x b q
      rw [hb] at hoc; cases hoc
    · have hb : s₁.heap.get? b = none := hb
      rcases List.mem_cons.mp he' with e' | e'
      · rw [e', eF] at q; cases q; rw [hoL] at hb; cases hb
      · obtain ⟨o', ho', _⟩ := (ha.frs.mem (List.mem_filterMap.mpr ⟨e, e', q⟩)).2
        rw [keep _ _ ho'] at hb; cases hb
    · show (A.deeper env).frames = some (env :: fr)
      simp only [Around.deeper, hA]; rfl
    · show (A.deeper env).handled = none
      exact hAh h
  have at' : At c' (bindT df.1 vs fun _ => none) σ s₁ := by
    refine ⟨fun b o e => keep b o (ha.stays b o e), by rw [hs₁]; exact ha.os, by rw [hs₁]; exact ha.gens, fun b ob e => ?_, ?_, ?_, ?_, fun b o e _ _ => ⟨o, e, .refl o⟩, fun b o e => ⟨o, e⟩, fun b ob e => .inl (by rw [show c'.σ₀ = σ from rfl, e]; simp)⟩
    · obtain ⟨g1, o', g2, g3⟩ := ha.sto b ob e; exact ⟨g1, o', keep _ _ g2, g3⟩
    · refine ⟨by rw [show c'.env = env from rfl, eK]; exact p8, eG, eB, ⟨_, ns, fun x V _ hx hV => ?_⟩, ?_, ?_, fun x hx => ?_, fun x y b hx hy => lookup_apart X.apart hx hy⟩
      · exact bindL_zip env.kindOf df.1 vals vs _ _ x V hvs hx (fun h => by cases h) hV
      · show σ env.locals = none
        rw [eL]; exact none_of_fresh _ hfresh
      · show G.base.get? env.locals = none
        rw [eL]; exact base_none _ hfresh
      · have hx' : fd.scope.names.lookup x = some .cell := by rw [← eK]; exact hx
        obtain ⟨b, hb⟩ := Option.isSome_iff_exists.mp (cells_some (x := x) fd.scope.names (s.heap.objs.size + 1) [] (.inl hx'))
        rw [← eC] at hb
        have hbn := cellHi x b hb
        refine ⟨b, _, hb, X.cell x b hb, none_of_fresh _ hbn, base_none _ hbn, fun y V hy hV => ?_⟩
        subst hy
        exact bindC_zip env.kindOf df.1 vals vs _ _ y V hvs hx (fun h => by cases h) hV
    · refine ⟨by rw [eK, p8]; simp, ⟨env.locals, oL, eF, by rw [eL]; exact base_none _ hfresh, hoL, fun v q => by rw [hdL] at q; cases q⟩, ?_⟩
      exact ha.frs.of_keeps fun b o e _ => ⟨o, keep _ _ e, rfl⟩
    · intro e he' L hL
      rcases List.mem_cons.mp he' with e' | e'
      · rw [e', eF] at hL; cases hL; rw [eL]; exact none_of_fresh _ hfresh
      · exact ha.frN e e' L hL
  have hm' : mSs c'.env.scope.names df.2 body = true := by rw [show c'.env = env from rfl, eK]; exact p15
  have hown' : Owns c' := ⟨fun b => Iff.rfl, ⟨fr, rfl⟩, eF⟩
  have old : ∀ b o, s.heap.get? b = some o → c'.h₀.get? b = some o ∧ ¬ c'.own b := fun b o e => ⟨keep b o e, fun q => by
    rcases q with q | ⟨x, q⟩
    · rw [q, eL, hfresh] at e; cases e
    · rw [cellHi x b q] at e; cases e⟩
  have hne : ∀ b o, s.heap.get? b = some o → env.frame ≠ some b := fun b o e q => by
    rw [eF, eL] at q; cases q; rw [hfresh] at e; cases e
  refine wpAny_mono (sndSs df.2 c' _ σ s₁ _ _ body hc' hown' at' hm' hw) ?_ ?_
  · intro fl s₂ H9 
    refine Classical.byContradiction fun hG => ?_
    obtain ⟨ρ₂, σ₂, a2, h2⟩ := H9
    refine hG ?_
    clear hG
    cases fl with
    | next => exact hR c' env ρ₂ _ _ _ _ rfl rfl rfl rfl old hne a2 h2
    | ret v => obtain ⟨V, hV, h2⟩ := h2; exact hR c' env ρ₂ _ _ _ _ hV rfl rfl rfl old hne a2 h2
    | brk => exact h2.elim
    | cont => exact h2.elim
  · intro e s₂ H9 
    refine Classical.byContradiction fun hG => ?_
    obtain ⟨cl, ρ₂, σ₂, a2, x2, h2⟩ := H9
    refine hG ?_
    clear hG
    exact leave_snd (c := c') hc' hown' a2 x2 fun s₃ a3 x3 => hX c' env ρ₂ e cl σ₂ s₃ rfl rfl rfl old hne a3 x3 h2

theorem call_fd {G : Gd} {a : Addr} {df : List String × List St} (H : HasFd G a df) {d : Nat} {hd : Bool} {vs : List Val} {σ : Sto} {Q : KV} {E : KE} (hlen : vs.length = df.1.length)
    (hw : wpSs (WF G d) G.gv hd df.2 (bindT df.1 vs fun _ => none) σ (fun fl _ σ' => match fl with | .next => Q .none σ' | .ret v => Q v σ') (fun cl _ σ' => E cl σ'))
    (c : Cx) (ρ : Loc) (s : Shared) (vals : List Value) (hG : c.G = G) (hhd : c.hd = hd) (A : Around) (hA : A.frames = c.A.frames) (hAd : A.depth + 1 + 2 * d ≤ 900) (hAu : A.units + 3 + 20 * d ≤ 9000) (hAh : A.handled = c.A.handled) (hc : CxOk c) (ha : At c ρ σ s) (hvs : VsR vals vs)
    {R : Result → Shared → Prop} (hR : ∀ v V σ' s', vval v = some V → At c ρ σ' s' → Q V σ' → R (.ok (.ret v)) s') (hX : ∀ e cl σ' s', At c ρ σ' s' → ExcAt c e cl σ' s'.heap → E cl σ' → R (.error e) s') :
    codeAny (model G.prog G.w) A (.call (.ref a) ⟨vals, []⟩) R s := by
  subst hG
  refine call_low H hlen hw s vals A (hA.trans hc.frames) hAd hAu (fun h => hAh.trans (hc.handled (hhd.trans h))) ha.low hvs ?_ ?_
  · intro c' env ρ' v V σ' s' hv h1 h2 h3 h4 hne h5 h6
    exact hR v V σ' s' hv (ha.ret h5 h1 h2 h3 h4 hne) h6
  · intro c' env ρ' e cl σ' s' h1 h2 h3 h4 hne h5 x h6
    refine hX e cl σ' s' (ha.ret h5 h1 h2 h3 h4 hne) ((x.move h1 fun b hb => ?_).at_ (.inl rfl)) h6
    cases q : c.h₀.get? b with
    | none => rfl
    | some o => obtain ⟨o', ho'⟩ := ha.alive b o q; rw [(h4 b o' ho').1] at hb; cases hb

theorem fn_ok {G : Gd} {f : String} {a : Addr} {df : List String × List St} (hf : G.mg (Str.ofString f) = some (.ref a)) (H : HasFd G a df) {d : Nat} {hd : Bool} {vs : List Val} {σ : Sto} {Q : KV} {E : KE} (hlen : vs.length = df.1.length)
    (hw : wpSs (WF G d) G.gv hd df.2 (bindT df.1 vs fun _ => none) σ (fun fl _ σ' => match fl with | .next => Q .none σ' | .ret v => Q v σ') (fun cl _ σ' => E cl σ')) : WF G (d + 1) hd f vs σ Q E := by
  intro c ρ s vals fv hG hd' hhd hc ha hvs hfv
  rw [hf] at hfv
  cases hfv
  have h1 := hc.room
  have h2 := hc.units
  rw [hd'] at h1 h2
  refine wpAny_call (call_fd H hlen hw c ρ s vals hG hhd c.A rfl (by omega) (by omega) rfl hc ha hvs ?_ ?_)
  · intro v V σ' s' hv ha' hq
    exact ⟨V, σ', hv, ha', hq⟩
  · intro e cl σ' s' ha' x hq
    exact ⟨cl, σ', ha', x, hq⟩
end BP

/-! ## GCls -/
set_option linter.unusedVariables false
set_option linter.unusedSimpArgs false
namespace BP
open PySem PyProof.Rows

theorem cls_ok {G : Gd} {f : String} {C fI : Addr} {df : List String × List St} (hf : G.mg (Str.ofString f) = some (.ref C)) (hcl : G.cls f = some C) (hmk : W.makesIn G.K C = true) (hi : W.findIn G.K (.ref C) "__init__" = some (some (.ref fI)))
    (hfn : W.typeIn G.K (.ref fI) = some (.type "function")) (H : HasFd G fI df) {d : Nat} {hd : Bool} {vs : List Val} {σ : Sto} {Q : KV} {E : KE} (hlen : vs.length + 1 = df.1.length)
    (hw : ∀ dx x : Nat, σ dx = none → σ x = none → dx ≠ x → wpSs (WF G d) G.gv hd df.2 (bindT df.1 (.ref x :: vs) fun _ => none) ((σ.set dx (.attrs [])).set x (.inst f dx)) (fun fl _ σ' => match fl with | .next => Val.none = Val.none ∧ Q (.ref x) σ' | .ret v => v = .none ∧ Q (.ref x) σ') (fun cl _ σ' => E cl σ')) : WF G (d + 1) hd f vs σ Q E := by
  intro c ρ s vals fv hG hd' hhd hc ha hvs hfv
  rw [hf] at hfv
  cases hfv
  have h1 := hc.room
  have h2 := hc.units
  rw [hd'] at h1 h2
  subst hG
  refine wpAny_call ?_
  obtain ⟨hh, g, dr, t, os⟩ := s
  have X : c.G.K.In hh := kin_at ha
  refine W.make_core (W.makes_of X hmk) (W.looks_findIn X hi) (fun self => W.bind_fn X self hfn) (.inl rfl) ?_
  have n1 : hh.get? hh.objs.size = none := ha.size_none
  have n2 : (hh.push W.emptyDict).get? (hh.push W.emptyDict).objs.size = none := by
    cases e : (hh.push W.emptyDict).get? (hh.push W.emptyDict).objs.size with
    | none => rfl
    | some o => exact absurd (Heap.lt_size e) (Nat.lt_irrefl _)
  rw [Heap.size_push] at n2
  have a1 : At c ρ (σ.set hh.objs.size (.attrs [])) ⟨hh.push W.emptyDict, g, dr, t, os⟩ :=
    ha.alloc (s' := ⟨hh.push W.emptyDict, g, dr, t, os⟩) n1 (fun b o e => Heap.get?_push_of_some _ e) (Heap.get?_push_size _ rfl) ⟨[], 0, rfl, .nil, by simp⟩
  have a2 : At c ρ ((σ.set hh.objs.size (.attrs [])).set (hh.objs.size + 1) (.inst f hh.objs.size)) ⟨(hh.push W.emptyDict).push (W.instObj C hh.objs.size), g, dr, t, os⟩ :=
    a1.alloc (s' := ⟨(hh.push W.emptyDict).push (W.instObj C hh.objs.size), g, dr, t, os⟩) n2 (fun b o e => Heap.get?_push_of_some _ e) (by have := Heap.get?_push_size (hh.push W.emptyDict) (o := W.instObj C hh.objs.size) rfl; rw [Heap.size_push] at this; exact this) ⟨C, hcl, rfl⟩
  have n3 : σ (hh.objs.size + 1) = none := by
    have := a1.none_of_fresh n2
    rwa [Sto.set_other _ _ (by exact Nat.succ_ne_self _)] at this
  have hw' := hw hh.objs.size (hh.objs.size + 1) (ha.none_of_fresh n1) n3 (Nat.ne_of_lt (Nat.lt_succ_self _))
  refine call_fd (E := E) (Q := fun v σ' => v = .none ∧ Q (.ref (hh.objs.size + 1)) σ') (vs := .ref (hh.objs.size + 1) :: vs) H (by simpa using hlen) hw' c ρ _ (.ref (hh.objs.size + 1) :: vals) rfl hhd (c.A.under (.builtin "type.__call__" ⟨.ref C :: vals, []⟩)) (by unfold Around.under; dsimp only; cases c.A.frames <;> rfl) ?_ ?_ rfl hc a2 ?_ ?_ ?_
  · rw [depth_under_make]; omega
  · rw [PyProof.Rows.units_under_make]; omega
  · rw [VsR.cons]; exact ⟨rfl, hvs⟩
  · intro v V σ' s' hv ha' hq
    rw [hq.1] at hv
    exact ⟨vval_none hv, ⟨_, σ', rfl, ha', hq.2⟩⟩
  · intro e cl σ' s' ha' x hq
    exact ⟨cl, σ', ha', x, hq⟩
end BP

/-! ## GJoin -/
set_option linter.unusedVariables false
set_option linter.unusedSimpArgs false
namespace BP
open PySem PyProof.Rows

/-! ## from the written part of the heap to the ground of the layer -/
noncomputable def fdB (K : W.Frag) (a : Addr) (df : List String × List St) : Bool := match K.lookup a with
  | some ⟨_, _, .func fd, _⟩ => (match fd.body with | .stmts body => mFn df fd.params body fd.scope | _ => false) && fd.defaults == .none && fd.closure.isEmpty && fd.globals == mainGlobals && fd.builtins == builtinsNs && W.codeIn K fd.code fd.qualname
  | _ => false
noncomputable def refB (K : W.Frag) (x : String) : Option Addr := match W.nsIn K mainGlobals (Str.ofString x) with
  | some (some (.ref a)) => some a
  | _ => none
noncomputable def fnB (K : W.Frag) (x : String) (df : List String × List St) : Bool := match refB K x with
  | some a => fdB K a df
  | none => false
noncomputable def calB (K : W.Frag) (x : String) : Bool := match refB K x with
  | some a => W.keepIn K (.ref a)
  | none => false
noncomputable def freeB (K : W.Frag) (x : String) : Bool := W.nsIn K mainGlobals (Str.ofString x) == some none
noncomputable def clsB (K : W.Frag) (C : Addr) : Bool := W.plainGet K C "" && W.hasDictIn K C && W.plainOver K C && W.findIn K (.ref C) "__setattr__" == some (some (.builtin "object.__setattr__")) && attrNames.all fun a => W.findIn K (.ref C) (Str.ofString a) == some none
noncomputable def makeB (K : W.Frag) (C : Addr) (df : List String × List St) : Bool := W.makesIn K C && match W.findIn K (.ref C) "__init__" with
  | some (some (.ref f)) => W.typeIn K (.ref f) == some (.type "function") && fdB K f df
  | _ => false

theorem ns_free {K : W.Frag} {h : Heap} {N : Addr} {mg : Str → Option Value} {n : Str} (X : K.In h) (G : h.Ns N mg) (e : W.nsIn K N n = some none) : mg n = none := by
  obtain ⟨o, es, ep, ho, hd, _, hf⟩ := G
  unfold W.nsIn at e
  split at e
  · rename_i c d es' n' sl q
    have q := X _ _ q
    rw [ho] at q
    cases q
    cases hd
    split at e
    · cases e
    · rename_i he
      rw [← hf]
      unfold nsFind findBy
      rw [← Array.find?_toList, he]
      rfl
  · cases e
theorem refB_mg {K : W.Frag} {h : Heap} {mg : Str → Option Value} {x : String} {a : Addr} (X : K.In h) (g : h.Ns mainGlobals mg) (e : refB K x = some a) : mg (Str.ofString x) = some (.ref a) := by
  unfold refB at e
  split at e
  · rename_i q; cases e; exact W.mg_of X g q
  · cases e

theorem fdB_has {G : Gd} {a : Addr} {df : List String × List St} (e : fdB G.K a df = true) : HasFd G a df := by
  unfold fdB at e
  split at e
  · rename_i oc od fd sl q
    simp only [Bool.and_eq_true, beq_iff_eq, List.isEmpty_iff] at e
    obtain ⟨⟨⟨⟨⟨e1, e2⟩, e3⟩, e4⟩, e5⟩, e6⟩ := e
    split at e1
    · rename_i body hb
      exact ⟨⟨_, fd, body, G.kin _ _ q, rfl, hb, e2, e3, e4, e5, W.codeRec_of G.kin e6, e1⟩⟩
    · cases e1
  · cases e

theorem fnB_ok {G : Gd} {f : String} {df : List String × List St} (e : fnB G.K f df = true) {d : Nat} {hd : Bool} {vs : List Val} {σ : Sto} {Q : KV} {E : KE} (hlen : vs.length = df.1.length)
    (hw : wpSs (WF G d) G.gv hd df.2 (bindT df.1 vs fun _ => none) σ (fun fl _ σ' => match fl with | .next => Q .none σ' | .ret v => Q v σ') (fun cl _ σ' => E cl σ')) : WF G (d + 1) hd f vs σ Q E := by
  unfold fnB at e
  split at e
  · rename_i a q
    exact fn_ok (refB_mg G.kin G.g q) (fdB_has e) hlen hw
  · cases e

theorem makeB_ok {G : Gd} {f : String} {C : Addr} {df : List String × List St} (hr : refB G.K f = some C) (hc : G.cls f = some C) (e : makeB G.K C df = true) {d : Nat} {hd : Bool} {vs : List Val} {σ : Sto} {Q : KV} {E : KE} (hlen : vs.length + 1 = df.1.length)
    (hw : ∀ dx x : Nat, σ dx = none → σ x = none → dx ≠ x → wpSs (WF G d) G.gv hd df.2 (bindT df.1 (.ref x :: vs) fun _ => none) ((σ.set dx (.attrs [])).set x (.inst f dx)) (fun fl _ σ' => match fl with | .next => Val.none = Val.none ∧ Q (.ref x) σ' | .ret v => v = .none ∧ Q (.ref x) σ') (fun cl _ σ' => E cl σ')) : WF G (d + 1) hd f vs σ Q E := by
  unfold makeB at e
  rw [Bool.and_eq_true] at e
  obtain ⟨e1, e2⟩ := e
  split at e2
  · rename_i fI q
    rw [Bool.and_eq_true, beq_iff_eq] at e2
    exact cls_ok (refB_mg G.kin G.g hr) hc e1 q e2.1 (fdB_has e2.2) hlen hw
  · cases e2

/-! ### exception classes of the text's own -/
noncomputable def nsB (K : W.Frag) (N : Addr) : Bool := (match K.lookup N with
  | some ⟨_, _, .dict es _, _⟩ => es.all fun e => match e.key with | .str _ _ => true | _ => false
  | _ => false) && xNames.all fun n => W.nsIn K N n == some none
theorem nsB_of {K : W.Frag} {h : Heap} {N : Addr} (X : K.In h) (e : nsB K N = true) : ∃ m, h.Ns N m ∧ ∀ n ∈ xNames, m n = none := by
  obtain ⟨e1, e2⟩ := and2 e
  have hi : h.isNs N = true := by
    split at e1
    · rename_i ho
      unfold Heap.isNs
      rw [X _ _ ho]
      exact e1
    · cases e1
  exact ⟨_, .of_isNs hi, fun n hn => ns_free X (.of_isNs hi) (beq_iff_eq.mp (List.all_eq_true.mp e2 n hn))⟩
noncomputable def tailB (K : W.Frag) : List Value → Bool
  | [] => false
  | v :: r => (v :: r) == veMro || match v with
    | .ref A => (match K.lookup A with
      | some ⟨_, _, .cls cd, _⟩ => nsB K cd.ns && tailB K r
      | _ => false)
    | _ => false
theorem tailB_of {K : W.Frag} {h : Heap} (X : K.In h) : ∀ {l : List Value}, tailB K l = true → TailX h veMro l
  | [], e => Bool.noConfusion e
  | v :: r, e => by
    unfold tailB at e
    rcases Bool.or_eq_true_iff.mp e with q | q
    · rw [beq_iff_eq.mp q]; exact .base
    · split at q
      · split at q
        · rename_i ho
          obtain ⟨q1, q2⟩ := and2 q
          obtain ⟨m, hm, hq⟩ := nsB_of X q1
          exact .own (X _ _ ho) hm hq (tailB_of X q2)
        · cases q
      · cases q
noncomputable def excB (K : W.Frag) (C : Addr) (bm : List Value) : Bool := match K.lookup C with
  | some ⟨cl, _, .cls cd, sl⟩ => (match sl.toList with
    | [_, _, _, _, k4, _] => cd.mro == .ref C :: bm && (cl == .type "type" && k4 == some (.builtin "ValueError.__new__")) && !cd.hasDel && tailB K bm && nsB K cd.ns
    | _ => false)
  | _ => false
theorem excB_of {K : W.Frag} {h : Heap} {C : Addr} {bm : List Value} (X : K.In h) (q : excB K C bm = true) : XCls h C bm veMro "ValueError.__new__" := by
  unfold excB at q
  split at q
  · rename_i cl dd cd sl ho
    split at q
    · rename_i k0 k1 k2 k3 k4 k5 hs
      obtain ⟨⟨⟨⟨h1, h2⟩, h3⟩, h4⟩, h5⟩ := and5 q
      obtain ⟨nm, bs, mro, ns, qn, hd, sn, sub, ab, col, del⟩ := cd
      have g1 : mro = _ := beq_iff_eq.mp h1
      have g2 := beq_iff_eq.mp (and2 h2).2
      have g4 := beq_iff_eq.mp (and2 h2).1
      have g3 : del = false := by simpa using h3
      clear q h1 h2 h3
      subst g1 g2 g3 g4
      have hsl : sl = #[k0, k1, k2, k3, some (.builtin "ValueError.__new__"), k5] := by
        obtain ⟨l⟩ := sl
        simp only at hs
        rw [hs]
      subst hsl
      obtain ⟨m, hm, hq⟩ := nsB_of X h5
      exact ⟨ns, nm, qn, bs, hd, sn, sub, ab, col, dd, k0, k1, k2, k3, k5, m, X _ _ ho, hm, hq, tailB_of X h4⟩
    · cases q
  · cases q
noncomputable def mroB (K : W.Frag) (C : Addr) : List Value := match K.lookup C with
  | some ⟨_, _, .cls cd, _⟩ => cd.mro.tail
  | _ => []
noncomputable def excsB (K : W.Frag) (names : List String) : Bool := names.all fun c => match refB K c with
  | some C => excB K C (mroB K C) && names.all fun d => match refB K d with
    | some D => (Value.ref C :: mroB K C).contains (.ref D) == excSub c d
    | none => false
  | none => false

/-- the ground of a law, out of the written part of the heap -/
noncomputable def mkGd (prog : Program) (w : World) (s : Shared) (mg mb : Str → Option Value) (K : W.Frag) (KX : K.In s.heap) (g : s.heap.Ns mainGlobals mg) (b : s.heap.Ns builtinsNs mb) (bi : ∀ x : Str, x ≠ "__name__" → mb x = bootBuiltins x) (nl : s.heap.NoLimit)
    (hfree : bNames.all (freeB K) = true) (cls : String → Option Addr) (hcls : ∀ c C, cls c = some C → clsB K C = true) (fns : List String) (hcal : fns.all (calB K) = true) (xs : List String) (hxs : excsB K xs = true) (hmods : (K.lookup sysModules).isSome = true) : Gd where
  prog := prog
  w := w
  base := s.heap
  mg := mg
  mb := mb
  os := s.os
  gens := s.gens
  cls := cls
  g := g
  b := b
  bi := bi
  nolimit := nl
  free := fun x hx => ns_free KX g (beq_iff_eq.mp (List.all_eq_true.mp hfree x hx))
  K := K
  kin := KX
  clsOk := fun c C h => by
    have := hcls c C h
    simp only [clsB, Bool.and_eq_true, beq_iff_eq, List.all_eq_true] at this
    exact ⟨this.1.1.1.1, this.1.1.1.2, this.1.1.2, this.1.2, this.2⟩
  exc := fun c => if xs.contains c then refB K c else none
  excOk := fun c C h => by
    have hc : xs.contains c = true ∧ refB K c = some C := by
      by_cases q : xs.contains c = true
      · rw [if_pos q] at h; exact ⟨q, h⟩
      · rw [if_neg q] at h; cases h
    have hx := List.all_eq_true.mp hxs c (by simpa using hc.1)
    rw [hc.2] at hx
    obtain ⟨h1, h2⟩ := and2 hx
    refine ⟨refB_mg KX g hc.2, mroB K C, excB_of KX h1, fun d D hd => ?_⟩
    have hd' : xs.contains d = true ∧ refB K d = some D := by
      by_cases q : xs.contains d = true
      · rw [if_pos q] at hd; exact ⟨q, hd⟩
      · rw [if_neg q] at hd; cases hd
    have h3 := List.all_eq_true.mp h2 d (by simpa using hd'.1)
    rw [hd'.2] at h3
    exact beq_iff_eq.mp h3
  mods := by
    obtain ⟨o, ho⟩ := Option.isSome_iff_exists.mp hmods
    exact ⟨o, KX _ _ ho⟩
  fns := fns
  callee := fun f hf => by
    have := List.all_eq_true.mp hcal f hf
    unfold calB at this
    split at this
    · rename_i a q
      refine ⟨_, refB_mg KX g q, fun M A s' Q E hs hQ => ?_⟩
      obtain ⟨k, hk, L⟩ := W.looks_keep (M := M) this (KX.keeps hs)
      exact L.here (hQ k hk)
    · cases this

/-- the law's own call -/
theorem top_call {G : Gd} {s : Shared} (hb : G.base = s.heap) (ho : s.os = G.os) (hg : s.gens = G.gens) {a : Addr} {df : List String × List St} (H : fdB G.K a df = true) {d : Nat} (hd : 2 * d ≤ 500) {vs : List Val} (hlen : vs.length = df.1.length) {σ : Sto} (hσ : ∀ a ob, σ a = some ob → ob.isRo = true ∧ ∃ o, s.heap.get? a = some o ∧ ObR G ob o)
    (hw : wpSs (WF G d) G.gv false df.2 (bindT df.1 vs fun _ => none) σ (fun fl _ _ => match fl with | .next => Val.none = .bool true | .ret v => v = .bool true) (fun _ _ _ => False)) {vals : List Value} (hv : VsR vals vs)
    {R : Result → Shared → Prop} (hR : ∀ s', (∀ b o, s.heap.get? b = some o → s'.heap.get? b = some o) → s'.os = s.os → s'.gens = s.gens → R (.ok (.ret (.bool true))) s') :
    codeAny (model G.prog G.w) callerA (.call (.ref a) ⟨vals, []⟩) R s := by
  refine call_low (Q := fun v _ => v = .bool true) (E := fun _ _ => False) (fdB_has H) hlen hw s vals callerA rfl ?_ ?_ (fun _ => rfl) ⟨?_, ho, hg, (fun a ob h => ⟨.inr (hσ a ob h).1, (hσ a ob h).2⟩), trivial, (fun e he => by simp at he)⟩ hv ?_ ?_
  · show 1 + claimMargin + 1 + 2 * d ≤ 900
    simp only [claimMargin]; omega
  · show 4 + 3 + 20 * d ≤ 9000
    omega
  · rw [hb]; exact fun _ _ e => e
  · intro c' env ρ' v V σ' s' hv h1 h2 h3 h4 hne h5 h6
    subst h6
    rw [vval_bool hv]
    refine hR s' (fun b o e => ?_) (h5.os.trans (by rw [h1]; exact ho.symm)) (h5.gens.trans (by rw [h1]; exact hg.symm))
    have := h5.stays
    rw [h1, hb] at this
    exact this b o e
  · intro c' env ρ' e cl σ' s' h1 h2 h3 h4 hne h5 x h6
    exact h6.elim
end BP

/-! ## GProg1 -/
set_option linter.unusedVariables false
set_option linter.unusedSimpArgs false
namespace BP
open PySem

/-! ## tools for what the text computes: no model in sight -/
noncomputable def Ext (σ σ' : Sto) : Prop := ∀ a ob, σ a = some ob → σ' a = some ob
theorem Ext.refl (σ : Sto) : Ext σ σ := fun _ _ h => h
theorem Ext.trans {σ σ' σ'' : Sto} (h : Ext σ σ') (h' : Ext σ' σ'') : Ext σ σ'' := fun a ob e => h' a ob (h a ob e)
theorem Ext.set {σ : Sto} {a : Nat} (h : σ a = none) (ob : Ob) : Ext σ (σ.set a ob) := fun b ob' e => by
  unfold Sto.set
  split
  · rename_i q; rw [q, h] at e; cases e
  · exact e
theorem set_at (σ : Sto) (a : Nat) (ob : Ob) : σ.set a ob a = some ob := by simp [Sto.set]
theorem set_ne (σ : Sto) {a b : Nat} (ob : Ob) (h : b ≠ a) : σ.set a ob b = σ b := by simp [Sto.set, h]

mutual
theorem Has.ext {σ σ' : Sto} (h : Ext σ σ') : ∀ {d : Dat} {v : Val}, Has σ d v → Has σ' d v
  | .none, v, x => x
  | .bool _, v, x => x
  | .int _, v, x => x
  | .str _, v, x => x
  | .list ds, v, x => by
    simp only [Has] at *
    obtain ⟨a, xs, h1, h2, h3⟩ := x
    exact ⟨a, xs, h1, h a _ h2, HasL.ext h h3⟩
  | .tup ds, v, x => by
    simp only [Has] at *
    obtain ⟨a, xs, h1, h2, h3⟩ := x
    exact ⟨a, xs, h1, h a _ h2, HasL.ext h h3⟩
theorem HasL.ext {σ σ' : Sto} (h : Ext σ σ') : ∀ {ds : List Dat} {xs : List Val}, HasL σ ds xs → HasL σ' ds xs
  | [], xs, x => x
  | d :: ds, xs, x => by
    simp only [HasL] at *
    obtain ⟨y, ys, h1, h2, h3⟩ := x
    exact ⟨y, ys, h1, Has.ext h h2, HasL.ext h h3⟩
end

theorem HasL.cons {σ : Sto} {d : Dat} {ds : List Dat} {x : Val} {xs : List Val} : HasL σ (d :: ds) (x :: xs) ↔ Has σ d x ∧ HasL σ ds xs := by
  simp only [HasL]
  constructor
  · rintro ⟨y, ys, e, h1, h2⟩; cases e; exact ⟨h1, h2⟩
  · rintro ⟨h1, h2⟩; exact ⟨x, xs, rfl, h1, h2⟩
theorem HasL.nil {σ : Sto} : HasL σ [] [] := by simp [HasL]
theorem hasL_ints {σ : Sto} : ∀ {ns : List Int}, HasL σ (ns.map .int) (ns.map .int)
  | [] => HasL.nil
  | n :: ns => by rw [List.map_cons, List.map_cons, HasL.cons]; exact ⟨rfl, hasL_ints⟩
theorem hasL_ints_eq {σ : Sto} : ∀ {ns : List Int} {xs : List Val}, HasL σ (ns.map .int) xs → xs = ns.map .int
  | [], xs, h => by simpa [HasL] using h
  | n :: ns, xs, h => by
    simp only [List.map_cons, HasL] at h
    obtain ⟨y, ys, rfl, h1, h2⟩ := h
    simp only [Has] at h1
    rw [h1, hasL_ints_eq h2, List.map_cons]
theorem hasL_append {σ : Sto} : ∀ {ds es : List Dat} {xs ys : List Val}, HasL σ ds xs → HasL σ es ys → HasL σ (ds ++ es) (xs ++ ys)
  | [], es, xs, ys, h, h' => by have : xs = [] := by simpa [HasL] using h
                                subst this; exact h'
  | d :: ds, es, xs, ys, h, h' => by
    simp only [HasL] at h
    obtain ⟨y, zs, rfl, h1, h2⟩ := h
    rw [List.cons_append, List.cons_append, HasL.cons]
    exact ⟨h1, hasL_append h2 h'⟩
theorem hasL_len {σ : Sto} : ∀ {ds : List Dat} {xs : List Val}, HasL σ ds xs → xs.length = ds.length
  | [], xs, h => by have : xs = [] := by simpa [HasL] using h
                    subst this; rfl
  | d :: ds, xs, h => by
    simp only [HasL] at h
    obtain ⟨y, zs, rfl, h1, h2⟩ := h
    simp [hasL_len h2]
theorem hasL_get {σ : Sto} : ∀ {ds : List Dat} {xs : List Val}, HasL σ ds xs → ∀ {i : Nat} {d : Dat}, ds[i]? = some d → ∃ x, xs[i]? = some x ∧ Has σ d x
  | [], xs, h, i, d, e => by simp at e
  | d' :: ds, xs, h, i, d, e => by
    simp only [HasL] at h
    obtain ⟨y, zs, rfl, h1, h2⟩ := h
    cases i with
    | zero => simp at e; subst e; exact ⟨y, by simp, h1⟩
    | succ i => simp at e; obtain ⟨x, g1, g2⟩ := hasL_get h2 e; exact ⟨x, by simpa using g1, g2⟩

mutual
/-- the data, all of whose addresses are such -/
noncomputable def HasF (ok : Nat → Prop) (σ : Sto) : Dat → Val → Prop
  | .none, v => v = .none
  | .bool b, v => v = .bool b
  | .int i, v => v = .int i
  | .str s, v => v = .str s
  | .list ds, v => ∃ a xs, v = .ref a ∧ ok a ∧ σ a = some (.list xs) ∧ HasFL ok σ ds xs
  | .tup ds, v => ∃ a xs, v = .ref a ∧ ok a ∧ σ a = some (.tup xs) ∧ HasFL ok σ ds xs
noncomputable def HasFL (ok : Nat → Prop) (σ : Sto) : List Dat → List Val → Prop
  | [], xs => xs = []
  | d :: ds, xs => ∃ y ys, xs = y :: ys ∧ HasF ok σ d y ∧ HasFL ok σ ds ys
end
mutual
theorem HasF.has {ok : Nat → Prop} {σ : Sto} : ∀ {d : Dat} {v : Val}, HasF ok σ d v → Has σ d v
  | .none, v, x => x
  | .bool _, v, x => x
  | .int _, v, x => x
  | .str _, v, x => x
  | .list ds, v, x => by
    simp only [Has, HasF] at *
    obtain ⟨a, xs, h1, _, h2, h3⟩ := x
    exact ⟨a, xs, h1, h2, HasFL.has h3⟩
  | .tup ds, v, x => by
    simp only [Has, HasF] at *
    obtain ⟨a, xs, h1, _, h2, h3⟩ := x
    exact ⟨a, xs, h1, h2, HasFL.has h3⟩
theorem HasFL.has {ok : Nat → Prop} {σ : Sto} : ∀ {ds : List Dat} {xs : List Val}, HasFL ok σ ds xs → HasL σ ds xs
  | [], xs, x => by simpa [HasL, HasFL] using x
  | d :: ds, xs, x => by
    simp only [HasL, HasFL] at *
    obtain ⟨y, ys, h1, h2, h3⟩ := x
    exact ⟨y, ys, h1, HasF.has h2, HasFL.has h3⟩
end
mutual
theorem Has.hasF {σ : Sto} : ∀ {d : Dat} {v : Val}, Has σ d v → HasF (fun _ => True) σ d v
  | .none, v, x => x
  | .bool _, v, x => x
  | .int _, v, x => x
  | .str _, v, x => x
  | .list ds, v, x => by
    simp only [Has, HasF] at *
    obtain ⟨a, xs, h1, h2, h3⟩ := x
    exact ⟨a, xs, h1, trivial, h2, HasL.hasF h3⟩
  | .tup ds, v, x => by
    simp only [Has, HasF] at *
    obtain ⟨a, xs, h1, h2, h3⟩ := x
    exact ⟨a, xs, h1, trivial, h2, HasL.hasF h3⟩
theorem HasL.hasF {σ : Sto} : ∀ {ds : List Dat} {xs : List Val}, HasL σ ds xs → HasFL (fun _ => True) σ ds xs
  | [], xs, x => by simpa [HasL, HasFL] using x
  | d :: ds, xs, x => by
    simp only [HasL, HasFL] at *
    obtain ⟨y, ys, h1, h2, h3⟩ := x
    exact ⟨y, ys, h1, Has.hasF h2, HasL.hasF h3⟩
end
mutual
theorem HasF.move {ok ok' : Nat → Prop} {σ σ' : Sto} (h : ∀ a ob, ok a → σ a = some ob → σ' a = some ob) (h' : ∀ a, ok a → ok' a) : ∀ {d : Dat} {v : Val}, HasF ok σ d v → HasF ok' σ' d v
  | .none, v, x => x
  | .bool _, v, x => x
  | .int _, v, x => x
  | .str _, v, x => x
  | .list ds, v, x => by
    simp only [HasF] at *
    obtain ⟨a, xs, h1, h0, h2, h3⟩ := x
    exact ⟨a, xs, h1, h' a h0, h a _ h0 h2, HasFL.move h h' h3⟩
  | .tup ds, v, x => by
    simp only [HasF] at *
    obtain ⟨a, xs, h1, h0, h2, h3⟩ := x
    exact ⟨a, xs, h1, h' a h0, h a _ h0 h2, HasFL.move h h' h3⟩
theorem HasFL.move {ok ok' : Nat → Prop} {σ σ' : Sto} (h : ∀ a ob, ok a → σ a = some ob → σ' a = some ob) (h' : ∀ a, ok a → ok' a) : ∀ {ds : List Dat} {xs : List Val}, HasFL ok σ ds xs → HasFL ok' σ' ds xs
  | [], xs, x => by simpa [HasFL] using x
  | d :: ds, xs, x => by
    simp only [HasFL] at *
    obtain ⟨y, ys, h1, h2, h3⟩ := x
    exact ⟨y, ys, h1, HasF.move h h' h2, HasFL.move h h' h3⟩
end
mutual
/-- each address of the tree is there -/
theorem HasF.there {ok : Nat → Prop} {σ : Sto} : ∀ {d : Dat} {v : Val}, HasF ok σ d v → HasF (fun a => ok a ∧ σ a ≠ none) σ d v
  | .none, v, x => x
  | .bool _, v, x => x
  | .int _, v, x => x
  | .str _, v, x => x
  | .list ds, v, x => by
    simp only [HasF] at *
    obtain ⟨a, xs, h1, h0, h2, h3⟩ := x
    exact ⟨a, xs, h1, ⟨h0, by rw [h2]; simp⟩, h2, HasFL.there h3⟩
  | .tup ds, v, x => by
    simp only [HasF] at *
    obtain ⟨a, xs, h1, h0, h2, h3⟩ := x
    exact ⟨a, xs, h1, ⟨h0, by rw [h2]; simp⟩, h2, HasFL.there h3⟩
theorem HasFL.there {ok : Nat → Prop} {σ : Sto} : ∀ {ds : List Dat} {xs : List Val}, HasFL ok σ ds xs → HasFL (fun a => ok a ∧ σ a ≠ none) σ ds xs
  | [], xs, x => by simpa [HasFL] using x
  | d :: ds, xs, x => by
    simp only [HasFL] at *
    obtain ⟨y, ys, h1, h2, h3⟩ := x
    exact ⟨y, ys, h1, HasF.there h2, HasFL.there h3⟩
end
theorem HasF.ext {ok : Nat → Prop} {σ σ' : Sto} (h : Ext σ σ') {d : Dat} {v : Val} (x : HasF ok σ d v) : HasF ok σ' d v := x.move (fun a ob _ e => h a ob e) fun _ q => q
theorem HasFL.ext {ok : Nat → Prop} {σ σ' : Sto} (h : Ext σ σ') {ds : List Dat} {xs : List Val} (x : HasFL ok σ ds xs) : HasFL ok σ' ds xs := x.move (fun a ob _ e => h a ob e) fun _ q => q
theorem HasFL.cons {ok : Nat → Prop} {σ : Sto} {d : Dat} {ds : List Dat} {x : Val} {xs : List Val} : HasFL ok σ (d :: ds) (x :: xs) ↔ HasF ok σ d x ∧ HasFL ok σ ds xs := by
  simp only [HasFL]
  constructor
  · rintro ⟨y, ys, e, h1, h2⟩; cases e; exact ⟨h1, h2⟩
  · rintro ⟨h1, h2⟩; exact ⟨x, xs, rfl, h1, h2⟩
theorem HasFL.nil {ok : Nat → Prop} {σ : Sto} : HasFL ok σ [] [] := by simp [HasFL]
theorem hasFL_append {ok : Nat → Prop} {σ : Sto} : ∀ {ds es : List Dat} {xs ys : List Val}, HasFL ok σ ds xs → HasFL ok σ es ys → HasFL ok σ (ds ++ es) (xs ++ ys)
  | [], es, xs, ys, h, h' => by have : xs = [] := by simpa [HasFL] using h
                                subst this; exact h'
  | d :: ds, es, xs, ys, h, h' => by
    simp only [HasFL] at h
    obtain ⟨y, zs, rfl, h1, h2⟩ := h
    rw [List.cons_append, List.cons_append, HasFL.cons]
    exact ⟨h1, hasFL_append h2 h'⟩
theorem hasFL_ints {ok : Nat → Prop} {σ : Sto} : ∀ {ns : List Int}, HasFL ok σ (ns.map .int) (ns.map .int)
  | [] => HasFL.nil
  | n :: ns => by rw [List.map_cons, List.map_cons, HasFL.cons]; exact ⟨rfl, hasFL_ints⟩
/-- what was not there before -/
abbrev new (σ : Sto) : Nat → Prop := fun a => σ a = none
theorem Ext.new {σ σ' : Sto} (e : Ext σ σ') {a : Nat} (h : σ' a = none) : σ a = none := by
  cases q : σ a with
  | none => rfl
  | some ob => rw [e a ob q] at h; cases h
theorem newF_list {ok : Nat → Prop} {σ : Sto} {a : Nat} {ds : List Dat} {xs : List Val} (hn : σ a = none) (ha : ok a) (h : HasFL ok σ ds xs) : HasF ok (σ.set a (.list xs)) (.list ds) (.ref a) := by
  simp only [HasF]
  exact ⟨a, xs, rfl, ha, set_at _ _ _, h.ext (.set hn _)⟩
theorem newF_tup {ok : Nat → Prop} {σ : Sto} {a : Nat} {ds : List Dat} {xs : List Val} (hn : σ a = none) (ha : ok a) (h : HasFL ok σ ds xs) : HasF ok (σ.set a (.tup xs)) (.tup ds) (.ref a) := by
  simp only [HasF]
  exact ⟨a, xs, rfl, ha, set_at _ _ _, h.ext (.set hn _)⟩

noncomputable def ilist (ns : List Int) : Dat := .list (ns.map .int)
theorem ilist_has {σ : Sto} {ns : List Int} {v : Val} : Has σ (ilist ns) v ↔ ∃ a, v = .ref a ∧ σ a = some (.list (ns.map .int)) := by
  simp only [ilist, Has]
  constructor
  · rintro ⟨a, xs, h1, h2, h3⟩; exact ⟨a, h1, by rw [h2, hasL_ints_eq h3]⟩
  · rintro ⟨a, h1, h2⟩; exact ⟨a, _, h1, h2, hasL_ints⟩

noncomputable def rv : Fl → Val | .ret v => v | .next => .none
/-- a call of the name runs this text -/
noncomputable def FnOk (F : Nat → CallW) (gv : Glo) (name : String) (df : List String × List St) : Prop :=
  gv.cf name = true ∧ ∀ d hd vs σ Q E, vs.length = df.1.length → wpSs (F d) gv hd df.2 (bindT df.1 vs (fun _ => none)) σ (fun fl _ σ' => match fl with | .next => Q .none σ' | .ret v => Q v σ') (fun c _ σ' => E c σ') → F (d + 1) hd name vs σ Q E

@[simp] theorem truthyW_bool (σ : Sto) (b : Bool) (K : Bool → Prop) : truthyW σ (.bool b) K = K b := rfl
@[simp] theorem truthyW_int (σ : Sto) (i : Int) (K : Bool → Prop) : truthyW σ (.int i) K = K (decide (i ≠ 0)) := rfl
@[simp] theorem truthyW_none (σ : Sto) (K : Bool → Prop) : truthyW σ .none K = K false := rfl
@[simp] theorem upd_same (ρ : Loc) (x : String) (v : Val) : upd ρ x v x = some v := by simp [upd]
@[simp] theorem upd_ne (ρ : Loc) {x y : String} (v : Val) (h : y ≠ x) : upd ρ x v y = ρ y := by simp [upd, h]
@[simp] theorem binW_add (i j : Int) (σ : Sto) (Q : KV) : binW .add (.int i) (.int j) σ Q = Q (.int (i + j)) σ := rfl
@[simp] theorem binW_sub (i j : Int) (σ : Sto) (Q : KV) : binW .sub (.int i) (.int j) σ Q = Q (.int (i - j)) σ := rfl
@[simp] theorem isiW_bool (b : Bool) (t : Ty) (σ : Sto) (K : Bool → Prop) : isiW (.bool b) t σ K = (t.plain = true ∧ K t.isB) := rfl
@[simp] theorem isiW_int (i : Int) (t : Ty) (σ : Sto) (K : Bool → Prop) : isiW (.int i) t σ K = (t.plain = true ∧ K t.isI) := rfl
@[simp] theorem plain_list : Ty.plain .list = true := rfl
@[simp] theorem plain_int : Ty.plain .int = true := rfl
@[simp] theorem plain_bool : Ty.plain .bool = true := rfl
@[simp] theorem isL_list : Ty.isL .list = true := rfl
@[simp] theorem isL_int : Ty.isL .int = false := rfl
@[simp] theorem isL_bool : Ty.isL .bool = false := rfl
@[simp] theorem isB_int : Ty.isB .int = true := rfl
@[simp] theorem isB_bool : Ty.isB .bool = true := rfl
@[simp] theorem isI_int : Ty.isI .int = true := rfl
@[simp] theorem isB_list : Ty.isB .list = false := rfl
@[simp] theorem isI_list : Ty.isI .list = false := rfl
@[simp] theorem isI_bool : Ty.isI .bool = false := rfl
theorem isiW_list {σ : Sto} {a : Nat} {xs : List Val} (h : σ a = some (.list xs)) (t : Ty) (K : Bool → Prop) : isiW (.ref a) t σ K = (t.plain = true ∧ K t.isL) := by simp [isiW, h]
theorem isiW_tup {σ : Sto} {a : Nat} {xs : List Val} (h : σ a = some (.tup xs)) (t : Ty) (K : Bool → Prop) : isiW (.ref a) t σ K = (t.plain = true ∧ K false) := by simp [isiW, h]
theorem turns_list {σ : Sto} {a : Nat} {xs : List Val} (h : σ a = some (.list xs)) : turnsOf σ (.ref a) 1 = some (xs.map fun v => [v]) := by simp [turnsOf, h]
theorem stay_list {σ σ' : Sto} {a : Nat} {xs : List Val} (h : σ a = some (.list xs)) (h' : σ' a = some (.list xs)) : stay σ (.ref a) 1 (xs.map fun v => [v]) σ' := ⟨fun b e => by cases e; rw [h, h'], turns_list h'⟩

theorem bcall_len {σ : Sto} {a : Nat} {xs : List Val} (h : σ a = some (.list xs)) (Q : KV) : bcallW .len [.ref a] σ Q = Q (.int xs.length) σ := by simp [bcallW, h]
theorem bcall_len_tup {σ : Sto} {a : Nat} {xs : List Val} (h : σ a = some (.tup xs)) (Q : KV) : bcallW .len [.ref a] σ Q = Q (.int xs.length) σ := by simp [bcallW, h]
theorem bcall_all {σ : Sto} {a : Nat} {bs : List Bool} (h : σ a = some (.list (bs.map .bool))) {Q : KV} (hQ : Q (.bool (bs.all id)) σ) : bcallW .all [.ref a] σ Q := by simp only [bcallW, ref1, h, onL]; exact ⟨bs, rfl, hQ⟩
theorem bcall_list {σ : Sto} {a : Nat} {xs : List Val} (h : σ a = some (.list xs)) (Q : KV) : bcallW .list [.ref a] σ Q = newW σ (.list xs) Q := by simp [bcallW, h]
theorem pyEq_int (i j : Int) : pyEq (.int i) (.int j) = decide (i = j) := by simp only [pyEq]; by_cases q : i = j <;> simp [q]
theorem has_int_inv {σ : Sto} {d : Dat} {i : Int} (h : Has σ d (.int i)) : d = .int i := by
  cases d <;> first | exact Val.noConfusion h | (cases h; rfl) | (obtain ⟨_, _, q, _⟩ := h; cases q)
@[simp] theorem cmpW_eq_int (i j : Int) (σ : Sto) (K : Bool → Prop) : cmpW .eq (.int i) (.int j) σ K = K (decide (i = j)) :=
  propext ⟨fun ⟨d, e, h1, h2, _, _, h⟩ => by rw [has_int_inv h1, has_int_inv h2, pyEq_int] at h; exact h, fun h => ⟨.int i, .int j, rfl, rfl, rfl, rfl, by rw [pyEq_int]; exact h⟩⟩
@[simp] theorem cmpW_ne_int (i j : Int) (σ : Sto) (K : Bool → Prop) : cmpW .ne (.int i) (.int j) σ K = K (decide (i ≠ j)) :=
  propext ⟨fun ⟨d, e, h1, h2, _, _, h⟩ => by rw [has_int_inv h1, has_int_inv h2, pyEq_int] at h; rw [decide_not]; exact h, fun h => ⟨.int i, .int j, rfl, rfl, rfl, rfl, by rw [pyEq_int]; rw [decide_not] at h; exact h⟩⟩
@[simp] theorem cmpW_lt_int (i j : Int) (σ : Sto) (K : Bool → Prop) : cmpW .lt (.int i) (.int j) σ K = K (decide (i < j)) := rfl
@[simp] theorem cmpW_le_int (i j : Int) (σ : Sto) (K : Bool → Prop) : cmpW .le (.int i) (.int j) σ K = K (decide (i ≤ j)) := rfl
@[simp] theorem bcall_max (i j : Int) (σ : Sto) (Q : KV) : bcallW .max [.int i, .int j] σ Q = Q (.int (max i j)) σ := rfl
theorem wpSs_step {F : CallW} {gv : Glo} {hd : Bool} {s : St} {r : List St} {ρ : Loc} {σ : Sto} {Q : KS} {E : KX} (h : ∀ K1 : KS, (∀ ρ' σ', wpSs F gv hd r ρ' σ' Q E → K1 .next ρ' σ') → (∀ v ρ' σ', Q (.ret v) ρ' σ' → K1 (.ret v) ρ' σ') → wpS F gv hd s ρ σ K1 E) : wpSs F gv hd (s :: r) ρ σ Q E := by
  rw [wpSs]; exact h _ (fun _ _ h => h) (fun _ _ _ h => h)
@[simp] theorem wpSs_nil (F : CallW) (gv : Glo) (hd : Bool) (ρ : Loc) (σ : Sto) (Q : KS) (E : KX) : wpSs F gv hd [] ρ σ Q E = Q .next ρ σ := by rw [wpSs]
theorem filter_tt {α : Type} (l : List α) : l.filter (fun _ => true) = l := List.filter_eq_self.mpr (by simp)
theorem subW_list {σ : Sto} {a : Nat} {xs : List Val} (h : σ a = some (.list xs)) {k : Int} {x : Val} (hx : getIdx xs k = some x) {Q : KV} (hQ : Q x σ) : subW (.ref a) (.int k) σ Q := by simp only [subW, h, hx]; exact hQ
theorem subW_tup {σ : Sto} {a : Nat} {xs : List Val} (h : σ a = some (.tup xs)) {k : Int} {x : Val} (hx : getIdx xs k = some x) {Q : KV} (hQ : Q x σ) : subW (.ref a) (.int k) σ Q := by simp only [subW, h, hx]; exact hQ
theorem getIdx_nat {α : Type} {xs : List α} {k : Nat} : getIdx xs (k : Int) = xs[k]? := by simp [getIdx]

/-! ### loops -/
/-- a comprehension over items, each turn leaving the store but for what is new -/
theorem wpComp_ext {C : Loc → Sto → (Bool → Sto → Prop) → Prop} {B : Loc → Sto → KV → Prop} {it : Sto → Prop} {x : String} {ρ : Loc} {K : List Val → Sto → Prop} (p : Val → Bool) (P : Val → Val → Sto → Prop) (hP : ∀ a b σ σ', Ext σ σ' → P a b σ → P a b σ') :
    ∀ (items : List Val) (acc : List Val) (σ : Sto), (∀ σ', Ext σ σ' → it σ') →
      (∀ v ∈ items, ∀ σ', Ext σ σ' → ∀ K' : Bool → Sto → Prop, (∀ σ'', Ext σ' σ'' → K' (p v) σ'') → C (upd ρ x v) σ' K') →
      (∀ v ∈ items, p v = true → ∀ σ', Ext σ σ' → ∀ K' : KV, (∀ y σ'', Ext σ' σ'' → P v y σ'' → K' y σ'') → B (upd ρ x v) σ' K') →
      (∀ (ys : List Val) σ', Ext σ σ' → ys.length = (items.filter p).length → (∀ (i : Nat) (v y : Val), (items.filter p)[i]? = some v → ys[i]? = some y → P v y σ') → K (acc ++ ys) σ') →
      wpComp C B it [x] (items.map fun v => [v]) acc ρ σ K
  | [], acc, σ, hit, hC, hB, hK => by
    simp only [List.map_nil, wpComp]
    have := hK [] σ (.refl σ) (by simp) (by simp)
    rw [List.append_nil] at this
    exact ⟨hit σ (.refl σ), this⟩
  | v :: items, acc, σ, hit, hC, hB, hK => by
    simp only [List.map_cons, wpComp, bindT]
    refine ⟨hit σ (.refl σ), hC v (by simp) σ (.refl σ) _ fun σ₁ e1 => ?_⟩
    cases hp : p v with
    | true =>
      simp only [if_true]
      refine hB v (by simp) hp σ₁ e1 _ fun y σ₂ e2 hy => ?_
      refine wpComp_ext p P hP items (acc ++ [y]) σ₂ (fun σ' e => hit σ' (e1.trans (e2.trans e))) (fun u hu σ' e => hC u (by simp [hu]) σ' (e1.trans (e2.trans e))) (fun u hu hpu σ' e => hB u (by simp [hu]) hpu σ' (e1.trans (e2.trans e))) fun ys σ' e hl hys => ?_
      rw [List.append_assoc]
      refine hK ([y] ++ ys) σ' (e1.trans (e2.trans e)) (by simp [hp, hl]) fun i u z hu hz => ?_
      rw [List.filter_cons_of_pos hp] at hu
      cases i with
      | zero => simp at hu hz; subst hu hz; exact hP _ _ _ _ e hy
      | succ i => simp at hu hz; exact hys i u z hu hz
    | false =>
      simp only [Bool.false_eq_true, if_false]
      refine wpComp_ext p P hP items acc σ₁ (fun σ' e => hit σ' (e1.trans e)) (fun u hu σ' e => hC u (by simp [hu]) σ' (e1.trans e)) (fun u hu hpu σ' e => hB u (by simp [hu]) hpu σ' (e1.trans e)) fun ys σ' e hl hys => ?_
      refine hK ys σ' (e1.trans e) (by simp [hp, hl]) fun i u z hu hz => hys i u z (by simpa [List.filter_cons_of_neg (by simpa using hp : ¬ p v = true)] using hu) hz

/-- a comprehension whose elements are computed by a function on values -/
theorem wpComp_fun {C : Loc → Sto → (Bool → Sto → Prop) → Prop} {B : Loc → Sto → KV → Prop} {it : Sto → Prop} {x : String} {ρ : Loc} {K : List Val → Sto → Prop} (p : Val → Bool) (f : Val → Val) {items : List Val} {σ : Sto} (hit : ∀ σ', Ext σ σ' → it σ')
    (hC : ∀ v ∈ items, ∀ σ', Ext σ σ' → ∀ K' : Bool → Sto → Prop, (∀ σ'', Ext σ' σ'' → K' (p v) σ'') → C (upd ρ x v) σ' K')
    (hB : ∀ v ∈ items, p v = true → ∀ σ', Ext σ σ' → ∀ K' : KV, (∀ σ'', Ext σ' σ'' → K' (f v) σ'') → B (upd ρ x v) σ' K')
    (hK : ∀ σ', Ext σ σ' → K ((items.filter p).map f) σ') : wpComp C B it [x] (items.map fun v => [v]) [] ρ σ K := by
  refine wpComp_ext p (fun a b _ => b = f a) (fun _ _ _ _ _ h => h) items [] σ hit hC (fun v hv hp σ' e K' hK' => hB v hv hp σ' e K' fun σ'' e' => hK' _ σ'' e' rfl) fun ys σ' e hl hys => ?_
  have : ys = (items.filter p).map f := by
    apply List.ext_getElem?
    intro i
    rw [List.getElem?_map]
    cases hu : (items.filter p)[i]? with
    | none =>
      have := List.getElem?_eq_none_iff.mp hu
      simp [hl, this]
    | some u =>
      have hlt := (List.getElem?_eq_some_iff.mp hu).1
      have hz : ys[i]? = some ys[i] := List.getElem?_eq_getElem (by omega)
      rw [hz, hys i u _ hu hz]; rfl
  subst this
  exact hK σ' e

/-- a comprehension over what is known as data -/
theorem wpComp_ok {α : Type} {C : Loc → Sto → (Bool → Sto → Prop) → Prop} {B : Loc → Sto → KV → Prop} {it : Sto → Prop} {x : String} {ρ : Loc} {K : List Val → Sto → Prop} (ok : Nat → Prop) (D : α → Dat) (p : α → Bool) (g : α → Dat) :
    ∀ (as : List α) (items : List Val) (acc : List Val) (σ : Sto), HasL σ (as.map D) items → (∀ σ', Ext σ σ' → it σ') →
      (∀ a ∈ as, ∀ v σ', Ext σ σ' → Has σ' (D a) v → ∀ K' : Bool → Sto → Prop, (∀ σ'', Ext σ' σ'' → K' (p a) σ'') → C (upd ρ x v) σ' K') →
      (∀ a ∈ as, p a = true → ∀ v σ', Ext σ σ' → Has σ' (D a) v → ∀ K' : KV, (∀ y σ'', Ext σ' σ'' → HasF ok σ'' (g a) y → K' y σ'') → B (upd ρ x v) σ' K') →
      (∀ (ys : List Val) σ', Ext σ σ' → HasFL ok σ' ((as.filter p).map g) ys → K (acc ++ ys) σ') →
      wpComp C B it [x] (items.map fun v => [v]) acc ρ σ K
  | [], items, acc, σ, hi, hit, hC, hB, hK => by
    have : items = [] := by simpa [HasL] using hi
    subst this
    simp only [List.map_nil, wpComp]
    have := hK [] σ (.refl σ) (by simp [HasFL])
    rw [List.append_nil] at this
    exact ⟨hit σ (.refl σ), this⟩
  | a :: as, items, acc, σ, hi, hit, hC, hB, hK => by
    simp only [List.map_cons, HasL] at hi
    obtain ⟨v, items, rfl, hv, hi⟩ := hi
    simp only [List.map_cons, wpComp, bindT]
    refine ⟨hit σ (.refl σ), hC a (by simp) v σ (.refl σ) hv _ fun σ₁ e1 => ?_⟩
    cases hp : p a with
    | true =>
      simp only [if_true]
      refine hB a (by simp) hp v σ₁ e1 (hv.ext e1) _ fun y σ₂ e2 hy => ?_
      refine wpComp_ok ok D p g as items (acc ++ [y]) σ₂ (hi.ext (e1.trans e2)) (fun σ' e => hit σ' (e1.trans (e2.trans e))) (fun u hu w σ' e => hC u (by simp [hu]) w σ' (e1.trans (e2.trans e))) (fun u hu hpu w σ' e => hB u (by simp [hu]) hpu w σ' (e1.trans (e2.trans e))) fun ys σ' e hys => ?_
      rw [List.append_assoc]
      refine hK ([y] ++ ys) σ' (e1.trans (e2.trans e)) ?_
      rw [List.filter_cons_of_pos hp, List.map_cons]
      exact HasFL.cons.mpr ⟨hy.ext e, hys⟩
    | false =>
      simp only [Bool.false_eq_true, if_false]
      refine wpComp_ok ok D p g as items acc σ₁ (hi.ext e1) (fun σ' e => hit σ' (e1.trans e)) (fun u hu w σ' e => hC u (by simp [hu]) w σ' (e1.trans e)) (fun u hu hpu w σ' e => hB u (by simp [hu]) hpu w σ' (e1.trans e)) fun ys σ' e hys => ?_
      refine hK ys σ' (e1.trans e) ?_
      rw [List.filter_cons_of_neg (by simpa using hp)]
      exact hys

theorem wpComp_of {α : Type} {C : Loc → Sto → (Bool → Sto → Prop) → Prop} {B : Loc → Sto → KV → Prop} {it : Sto → Prop} {x : String} {ρ : Loc} {K : List Val → Sto → Prop} (D : α → Dat) (p : α → Bool) (g : α → Dat)
    (as : List α) (items : List Val) (acc : List Val) (σ : Sto) (hi : HasL σ (as.map D) items) (hit : ∀ σ', Ext σ σ' → it σ')
    (hC : ∀ a ∈ as, ∀ v σ', Ext σ σ' → Has σ' (D a) v → ∀ K' : Bool → Sto → Prop, (∀ σ'', Ext σ' σ'' → K' (p a) σ'') → C (upd ρ x v) σ' K')
    (hB : ∀ a ∈ as, p a = true → ∀ v σ', Ext σ σ' → Has σ' (D a) v → ∀ K' : KV, (∀ y σ'', Ext σ' σ'' → Has σ'' (g a) y → K' y σ'') → B (upd ρ x v) σ' K')
    (hK : ∀ (ys : List Val) σ', Ext σ σ' → HasL σ' ((as.filter p).map g) ys → K (acc ++ ys) σ') :
    wpComp C B it [x] (items.map fun v => [v]) acc ρ σ K :=
  wpComp_ok (fun _ => True) D p g as items acc σ hi hit hC (fun a ha hp v σ' e hv K' h => hB a ha hp v σ' e hv K' fun y σ'' e' hy => h y σ'' e' hy.hasF) fun ys σ' e hys => hK ys σ' e hys.has

theorem hasL_bools {σ : Sto} : ∀ {bs : List Bool} {xs : List Val}, HasL σ (bs.map .bool) xs → xs = bs.map .bool
  | [], xs, h => by simpa [HasL] using h
  | n :: ns, xs, h => by
    simp only [List.map_cons, HasL] at h
    obtain ⟨y, ys, rfl, h1, h2⟩ := h
    simp only [Has] at h1
    rw [h1, hasL_bools h2, List.map_cons]
theorem has_new_list {σ : Sto} {a : Nat} {ds : List Dat} {xs : List Val} (hn : σ a = none) (h : HasL σ ds xs) : Has (σ.set a (.list xs)) (.list ds) (.ref a) := by
  simp only [Has]
  exact ⟨a, xs, rfl, set_at _ _ _, h.ext (.set hn _)⟩
theorem has_new_tup {σ : Sto} {a : Nat} {ds : List Dat} {xs : List Val} (hn : σ a = none) (h : HasL σ ds xs) : Has (σ.set a (.tup xs)) (.tup ds) (.ref a) := by
  simp only [Has]
  exact ⟨a, xs, rfl, set_at _ _ _, h.ext (.set hn _)⟩
theorem dOk_ilist (n : Nat) (ns : List Int) : dOk (n + 1) (ilist ns) = true := by
  simp [ilist, dOk]
theorem pyEqL_ints : ∀ (as bs : List Int), pyEqL (as.map .int) (bs.map .int) = decide (as = bs)
  | [], [] => rfl
  | [], _ :: _ => rfl
  | _ :: _, [] => rfl
  | a :: as, b :: bs => by
    simp only [List.map_cons, pyEqL, pyEq, pyEqL_ints as bs, List.cons.injEq, Bool.decide_and]
    by_cases q : a = b <;> simp [q]
theorem pyEq_ilist (as bs : List Int) : pyEq (ilist as) (ilist bs) = decide (as = bs) := by simp only [ilist, pyEq, pyEqL_ints]
theorem has_list_len {σ : Sto} {ds : List Dat} {v : Val} (h : Has σ (.list ds) v) : ∃ a xs, v = .ref a ∧ σ a = some (.list xs) ∧ HasL σ ds xs ∧ xs.length = ds.length := by
  simp only [Has] at h
  obtain ⟨a, xs, h1, h2, h3⟩ := h
  exact ⟨a, xs, h1, h2, h3, hasL_len h3⟩

/-- a loop, by what is known ahead of each turn -/
theorem wpFor_inv {B : Loc → Sto → (Fl → Loc → Sto → Prop) → Prop} {it : Sto → Prop} {x : String} {Q : Fl → Loc → Sto → Prop} (I : List Val → Loc → Sto → Prop) (hit : ∀ l ρ σ, I l ρ σ → it σ) (hnil : ∀ ρ σ, I [] ρ σ → Q .next ρ σ)
    (hcons : ∀ v l ρ σ (K : Fl → Loc → Sto → Prop), I (v :: l) ρ σ → (∀ ρ' σ', I l ρ' σ' → K .next ρ' σ') → (∀ w ρ' σ', Q (.ret w) ρ' σ' → K (.ret w) ρ' σ') → B (upd ρ x v) σ K) :
    ∀ (l : List Val) (ρ : Loc) (σ : Sto), I l ρ σ → wpFor B it [x] (l.map fun v => [v]) ρ σ Q
  | [], ρ, σ, h => ⟨hit _ _ _ h, hnil _ _ h⟩
  | v :: l, ρ, σ, h => ⟨hit _ _ _ h, hcons v l ρ σ _ h (fun ρ' σ' h' => wpFor_inv I hit hnil hcons l ρ' σ' h') fun w ρ' σ' h' => h'⟩
end BP

/-! ## GRule -/
set_option linter.unusedVariables false
namespace BP
open PySem
/-! ## one rule for each form: a goal is taken apart from its head, the rest stays folded -/
section
variable {F : CallW} {gv : Glo} {hd : Bool} {ρ : Loc} {σ : Sto} {Q : KV} {E : KE}
theorem r_none (h : Q .none σ) : wpE F gv hd .none_ ρ σ Q E := h
theorem r_bool {b : Bool} (h : Q (.bool b) σ) : wpE F gv hd (.bool_ b) ρ σ Q E := h
theorem r_int {i : Int} (h : Q (.int i) σ) : wpE F gv hd (.int_ i) ρ σ Q E := h
theorem r_str {s : String} (h : Q (.str (Str.ofString s)) σ) : wpE F gv hd (.str_ s) ρ σ Q E := h
theorem r_var {x : String} {v : Val} (e : ρ x = some v) (h : Q v σ) : wpE F gv hd (.var x) ρ σ Q E := by
  show match ρ x with | some v => Q v σ | none => False
  rw [e]; exact h
theorem r_glob {x : String} {v : Val} (e : gv.gv x = some v) (h : Q v σ) : wpE F gv hd (.glob x) ρ σ Q E := by
  show match gv.gv x with | some v => Q v σ | none => False
  rw [e]; exact h
theorem r_bin {op : OpB} {l r : Ex} (h : wpE F gv hd l ρ σ (fun a σ₁ => wpE F gv hd r ρ σ₁ (fun b σ₂ => binW op a b σ₂ Q) E) E) : wpE F gv hd (.bin op l r) ρ σ Q E := h
theorem r_not {e : Ex} (h : wpE F gv hd e ρ σ (fun v σ₁ => truthyW σ₁ v fun b => Q (.bool (!b)) σ₁) E) : wpE F gv hd (.not_ e) ρ σ Q E := h
theorem r_neg {i : Int} (h : Q (.int (-i)) σ) : wpE F gv hd (.neg (.int_ i)) ρ σ Q E := h
theorem r_ite {c t e : Ex} (h : wpE F gv hd c ρ σ (fun v σ₁ => truthyW σ₁ v fun b => if b = true then wpE F gv hd t ρ σ₁ Q E else wpE F gv hd e ρ σ₁ Q E) E) : wpE F gv hd (.ite c t e) ρ σ Q E := h
theorem r_and {es : List Ex} (h : wpAnd F gv hd es ρ σ Q E) : wpE F gv hd (.and_ es) ρ σ Q E := h
theorem r_or {es : List Ex} (h : wpOr F gv hd es ρ σ Q E) : wpE F gv hd (.or_ es) ρ σ Q E := h
theorem r_cmp {l r : Ex} {op : OpC} (h : wpE F gv hd l ρ σ (fun v σ₁ => wpE F gv hd r ρ σ₁ (fun w σ₁ => cmpW op v w σ₁ fun b => Q (.bool b) σ₁) E) E) : wpE F gv hd (.cmp l [op] [r]) ρ σ Q E := h
theorem r_cmp2 {l r r' : Ex} {op op' : OpC} (h : wpE F gv hd l ρ σ (fun v σ₁ => wpE F gv hd r ρ σ₁ (fun w σ₁ => cmpW op v w σ₁ fun b => if b = true then wpE F gv hd r' ρ σ₁ (fun u σ₁ => cmpW op' w u σ₁ fun b => Q (.bool b) σ₁) E else Q (.bool b) σ₁) E) E) : wpE F gv hd (.cmp l [op, op'] [r, r']) ρ σ Q E := h
theorem r_list0 (h : newW σ (.list []) Q) : wpE F gv hd (.list []) ρ σ Q E := ⟨Nat.zero_le _, h⟩
theorem r_list {es : List Ex} (h : wpEs F gv hd es ρ σ (fun vs σ₁ => vs.length ≤ lim ∧ newW σ₁ (.list vs) Q) E) : wpE F gv hd (.list es) ρ σ Q E := h
theorem r_tup {es : List Ex} (h : wpEs F gv hd es ρ σ (fun vs σ₁ => vs.length ≤ lim ∧ newW σ₁ (.tup vs) Q) E) : wpE F gv hd (.tup es) ρ σ Q E := h
theorem r_call {f : String} {as : List Ex} (hc : gv.cf f = true) (h : wpEs F gv hd as ρ σ (fun vs σ₁ => F hd f vs σ₁ Q E) E) : wpE F gv hd (.call f as) ρ σ Q E := ⟨hc, h⟩
theorem r_bcall {f : BI} {as : List Ex} (h : wpEs F gv false as ρ σ (fun vs σ₁ => bcallW f vs σ₁ Q) E) : wpE F gv false (.bcall f as) ρ σ Q E := ⟨.inl rfl, h⟩
theorem r_bint {as : List Ex} (h : wpEs F gv hd as ρ σ (fun vs σ₁ => bcallW .int vs σ₁ Q) E) : wpE F gv hd (.bcall .int as) ρ σ Q E := ⟨.inr rfl, h⟩
theorem r_isi {e : Ex} {t : Ty} (h : wpE F gv hd e ρ σ (fun v σ₁ => isiAny gv v t σ₁ fun b => Q (.bool b) σ₁) E) : wpE F gv hd (.isi e t) ρ σ Q E := h
theorem r_meth {o : Ex} {m : ME} {as : List Ex} (h : wpE F gv hd o ρ σ (fun v σ₁ => methOn v σ₁ ∧ wpEs F gv hd as ρ σ₁ (fun vs σ₂ => methW m v vs σ₂ Q) E) E) : wpE F gv hd (.meth o m as) ρ σ Q E := h
theorem r_sub {o i : Ex} (h : wpE F gv hd o ρ σ (fun v σ₁ => wpE F gv hd i ρ σ₁ (fun k σ₂ => subW v k σ₂ Q) E) E) : wpE F gv hd (.sub o i) ρ σ Q E := h
theorem r_slice {o lo hi st : Ex} (h : wpE F gv hd o ρ σ (fun v σ₁ => wpE F gv hd lo ρ σ₁ (fun l σ₂ => wpE F gv hd hi ρ σ₂ (fun u σ₃ =>
      wpE F gv hd st ρ σ₃ (fun s σ₄ => sliceW v l u s σ₄ Q) E) E) E) E) : wpE F gv hd (.slice o lo hi st) ρ σ Q E := h
theorem r_attr {o : Ex} {a : String} (h : wpE F gv hd o ρ σ (fun v σ₁ => attrW v a σ₁ Q) E) : wpE F gv hd (.attr o a) ρ σ Q E := h
theorem r_comp {elt it : Ex} {x : String} {ifs : List Ex} (h : wpE F gv false it ρ σ (fun v σ₁ => ∃ turns, turnsOf σ₁ v 1 = some turns ∧ turns.length ≤ lim ∧
      wpComp (fun ρ' σ' K => wpIfs F gv false ifs ρ' σ' K (fun _ _ => False)) (fun ρ' σ' K => wpE F gv false elt ρ' σ' K (fun _ _ => False)) (stay σ₁ v 1 turns) [x] turns [] ρ σ₁
        (fun ys σ' => newW σ' (.list ys) Q)) (fun _ _ => False)) : wpE F gv false (.comp elt [x] it ifs) ρ σ Q E := ⟨rfl, h⟩
theorem r_nil {K : List Val → Sto → Prop} (h : K [] σ) : wpEs F gv hd [] ρ σ K E := h
theorem r_cons {e : Ex} {es : List Ex} {K : List Val → Sto → Prop} (h : wpE F gv hd e ρ σ (fun v σ₁ => wpEs F gv hd es ρ σ₁ (fun vs σ₂ => K (v :: vs) σ₂) E) E) : wpEs F gv hd (e :: es) ρ σ K E := h
theorem r_and1 {e : Ex} (h : wpE F gv hd e ρ σ Q E) : wpAnd F gv hd [e] ρ σ Q E := h
theorem r_and2 {e e' : Ex} {es : List Ex} (h : wpE F gv hd e ρ σ (fun v σ₁ => truthyW σ₁ v fun b => if b = true then wpAnd F gv hd (e' :: es) ρ σ₁ Q E else Q v σ₁) E) : wpAnd F gv hd (e :: e' :: es) ρ σ Q E := h
theorem r_or1 {e : Ex} (h : wpE F gv hd e ρ σ Q E) : wpOr F gv hd [e] ρ σ Q E := h
theorem r_or2 {e e' : Ex} {es : List Ex} (h : wpE F gv hd e ρ σ (fun v σ₁ => truthyW σ₁ v fun b => if b = true then Q v σ₁ else wpOr F gv hd (e' :: es) ρ σ₁ Q E) E) : wpOr F gv hd (e :: e' :: es) ρ σ Q E := h
theorem r_if0 {K : Bool → Sto → Prop} (h : K true σ) : wpIfs F gv hd [] ρ σ K E := h
theorem r_if1 {e : Ex} {es : List Ex} {K : Bool → Sto → Prop} (h : wpE F gv hd e ρ σ (fun v σ₁ => truthyW σ₁ v fun b => if b = true then wpIfs F gv hd es ρ σ₁ K E else K false σ₁) E) : wpIfs F gv hd (e :: es) ρ σ K E := h
/-! the operations -/
theorem o_add {i j : Int} (h : Q (.int (i + j)) σ) : binW .add (.int i) (.int j) σ Q := h
theorem o_sub {i j : Int} (h : Q (.int (i - j)) σ) : binW .sub (.int i) (.int j) σ Q := h
theorem o_mul {i j : Int} (hi : (-lim ≤ i ∧ i ≤ lim) ∨ (-lim ≤ j ∧ j ≤ lim)) (h : Q (.int (i * j)) σ) : binW .mul (.int i) (.int j) σ Q := ⟨hi, h⟩
noncomputable def inLim (i : Int) : Bool := decide (-lim ≤ i) && decide (i ≤ lim)
noncomputable def posLim (i : Int) : Bool := decide (0 < i) && decide (i ≤ lim)
theorem o_mulr {i j : Int} (hi : inLim j = true) (h : Q (.int (i * j)) σ) : binW .mul (.int i) (.int j) σ Q := ⟨.inr (by simpa [inLim] using hi), h⟩
theorem o_mull {i j : Int} (hi : inLim i = true) (h : Q (.int (i * j)) σ) : binW .mul (.int i) (.int j) σ Q := ⟨.inl (by simpa [inLim] using hi), h⟩
theorem o_fdiv {i j : Int} (hj : posLim j = true) (h : Q (.int (i / j)) σ) : binW .fdiv (.int i) (.int j) σ Q := by
  simp only [posLim, Bool.and_eq_true, decide_eq_true_eq] at hj; exact ⟨hj.1, hj.2, h⟩
theorem o_mod {i j : Int} (hj : posLim j = true) (h : Q (.int (i % j)) σ) : binW .mod (.int i) (.int j) σ Q := by
  simp only [posLim, Bool.and_eq_true, decide_eq_true_eq] at hj; exact ⟨hj.1, hj.2, h⟩
theorem o_fdivn {i j : Int} (h0 : 0 < j) (h1 : j ≤ 1000000) (h : Q (.int (i / j)) σ) : binW .fdiv (.int i) (.int j) σ Q := ⟨h0, h1, h⟩
theorem o_modn {i j : Int} (h0 : 0 < j) (h1 : j ≤ 1000000) (h : Q (.int (i % j)) σ) : binW .mod (.int i) (.int j) σ Q := ⟨h0, h1, h⟩
variable {K : Bool → Prop}
theorem t_bool {b : Bool} (h : K b) : truthyW σ (.bool b) K := h
theorem t_int {i : Int} (h : K (decide (i ≠ 0))) : truthyW σ (.int i) K := h
theorem c_eq {i j : Int} (h : K (decide (i = j))) : cmpW .eq (.int i) (.int j) σ K := by rw [cmpW_eq_int]; exact h
theorem c_ne {i j : Int} (h : K (decide (i ≠ j))) : cmpW .ne (.int i) (.int j) σ K := by rw [cmpW_ne_int]; exact h
theorem c_lt {i j : Int} (h : K (decide (i < j))) : cmpW .lt (.int i) (.int j) σ K := h
theorem c_le {i j : Int} (h : K (decide (i ≤ j))) : cmpW .le (.int i) (.int j) σ K := h
theorem c_gt {i j : Int} (h : K (decide (i > j))) : cmpW .gt (.int i) (.int j) σ K := h
theorem c_ge {i j : Int} (h : K (decide (i ≥ j))) : cmpW .ge (.int i) (.int j) σ K := h
theorem b_max {i j : Int} (h : Q (.int (max i j)) σ) : bcallW .max [.int i, .int j] σ Q := h
theorem b_int {b : Bool} (h : Q (.int (if b then 1 else 0)) σ) : bcallW .int [.bool b] σ Q := h
theorem b_len {a : Nat} {xs : List Val} (e : σ a = some (.list xs)) (h : Q (.int xs.length) σ) : bcallW .len [.ref a] σ Q := by rw [bcall_len e]; exact h
theorem b_tup {a : Nat} {xs : List Val} (e : σ a = some (.list xs)) (h : newW σ (.tup xs) Q) : bcallW .tuple [.ref a] σ Q := by simp only [bcallW, ref1, e, onL]; exact h
theorem o_rep {x : Nat} {xs : List Val} {n : Int} (e : σ x = some (.list xs)) (hl : xs.length ≤ 1000) (h0 : 0 ≤ n) (h6 : n ≤ 6) (h : newW σ (.list (List.replicate n.toNat xs).flatten) Q) : binW .mul (.ref x) (.int n) σ Q := by simp only [binW, e, onL]; exact ⟨hl, h0, h6, h⟩
theorem o_cat {x y : Nat} {xs ys : List Val} (hx : σ x = some (.list xs)) (hy : σ y = some (.list ys)) (hl : xs.length + ys.length ≤ 1000000) (h : newW σ (.list (xs ++ ys)) Q) : binW .add (.ref x) (.ref y) σ Q := by
  simp only [binW, hx, hy, onL]; exact ⟨hl, h⟩
theorem b_lrange {a : Nat} {lo hi : Int} (e : σ a = some (.range lo hi)) (h : newW σ (.list ((irange lo hi).map .int)) Q) : bcallW .list [.ref a] σ Q := by simp only [bcallW, ref1, e]; exact h
theorem b_list {a : Nat} {xs : List Val} (e : σ a = some (.list xs)) (h : newW σ (.list xs) Q) : bcallW .list [.ref a] σ Q := by rw [bcall_list e]; exact h
theorem a_set {a dx : Nat} {n c : String} {y : Val} {fs fs' : List (String × Val)} {K : Sto → Prop} (hn : attrNames.elem n = true) (hx : σ a = some (.inst c dx)) (hd : σ dx = some (.attrs fs)) (hl : fs.lookup n = none) (hf : Nat.blt fs.length 100 = true) (e : fs ++ [(n, y)] = fs') (h : K (σ.set dx (.attrs fs'))) : setAttrW (.ref a) n y σ K := by
  subst e
  simp only [setAttrW, hx, hd]
  exact ⟨List.elem_iff.mp hn, hl, Nat.le_of_ble_eq_true hf, h⟩
variable {gv : Glo}
theorem y_ll {a : Nat} {xs : List Val} (e : σ a = some (.list xs)) (h : K true) : isiAny gv (.ref a) .list σ K := by simp only [isiAny]; rw [isiW_list e]; exact ⟨rfl, h⟩
theorem y_ii {i : Int} (h : K true) : isiAny gv (.int i) .int σ K := ⟨rfl, h⟩
theorem y_ib {i : Int} (h : K false) : isiAny gv (.int i) .bool σ K := ⟨rfl, h⟩
theorem y_il {i : Int} (h : K false) : isiAny gv (.int i) .list σ K := ⟨rfl, h⟩
theorem z_own {a : Nat} {c d : String} (hx : gv.ex d = true) (e : σ a = some (.exc c)) (h : K (excSub c d)) : isiAny gv (.ref a) (.own d) σ K := ⟨hx, by simp only [isxW, e]; exact h⟩
theorem z_val {a : Nat} {c : String} (e : σ a = some (.exc c)) (h : K true) : isiAny gv (.ref a) .valueError σ K := by simp only [isiAny, isxW, e]; exact h
noncomputable def rep (b : Bool) (x : Str) : Str := bif b then x else Str.empty
theorem o_smul {b : Bool} {x : Str} (hl : Nat.ble x.length 1000000 = true) (h : Q (.str (rep b x)) σ) : binW .mul (.str x) (.int (if b then 1 else 0)) σ Q := by
  cases b
  · exact ⟨by simp, by simp, Nat.le_of_ble_eq_true hl, h⟩
  · exact ⟨by simp, by simp, Nat.le_of_ble_eq_true hl, h⟩
theorem o_sadd {x y : Str} (hl : Nat.ble (x.length + y.length) 1000000 = true) (h : Q (.str (x ++ y)) σ) : binW .add (.str x) (.str y) σ Q := ⟨Nat.le_of_ble_eq_true hl, h⟩
theorem b_lent {a : Nat} {xs : List Val} (e : σ a = some (.tup xs)) (h : Q (.int xs.length) σ) : bcallW .len [.ref a] σ Q := by rw [bcall_len_tup e]; exact h
theorem m_on {a : Nat} {xs : List Val} {P : Prop} (e : σ a = some (.list xs)) (h : P) : methOn (.ref a) σ ∧ P := ⟨⟨a, xs, rfl, e⟩, h⟩
theorem m_app {a : Nat} {xs : List Val} {x : Val} (e : σ a = some (.list xs)) (hl : xs.length < 1000000) (h : Q .none (σ.set a (.list (xs ++ [x])))) : methW .append (.ref a) [x] σ Q := by simp only [methW, e, onL]; exact ⟨hl, h⟩
theorem n_ob {o : Ob} (h : ∀ a, σ a = none → Q (.ref a) (σ.set a o)) : newW σ o Q := h
/-- a list literal is made -/
theorem n_lit {vs : List Val} (hl : Nat.ble vs.length 1000000 = true) {o : Ob} (h : ∀ a, σ a = none → Q (.ref a) (σ.set a o)) : vs.length ≤ lim ∧ newW σ o Q := ⟨Nat.le_of_ble_eq_true hl, h⟩
variable {A B : Prop}
theorem i_t (h : A) : if true = true then A else B := by rw [if_pos rfl]; exact h
theorem i_f (h : B) : if false = true then A else B := by rw [if_neg (by simp)]; exact h
theorem i_nt (h : B) : if (!true) = true then A else B := by rw [if_neg (by simp)]; exact h
theorem i_nf (h : A) : if (!false) = true then A else B := by rw [if_pos (by simp)]; exact h
theorem i_pos {b : Bool} (hb : b = true) (h : A) : if b = true then A else B := by rw [if_pos hb]; exact h
theorem i_neg {b : Bool} (hb : b = false) (h : B) : if b = true then A else B := by subst hb; rw [if_neg (by simp)]; exact h
theorem i_dec {p : Prop} [Decidable p] (h1 : p → A) (h2 : ¬ p → B) : if decide p = true then A else B := by
  by_cases q : p
  · rw [if_pos (decide_eq_true q)]; exact h1 q
  · rw [if_neg (by simp [q])]; exact h2 q
theorem i_ndec {p : Prop} [Decidable p] (h1 : ¬ p → A) (h2 : p → B) : if (!decide p) = true then A else B := by
  by_cases q : p
  · rw [if_neg (by simp [q])]; exact h2 q
  · rw [if_pos (by simp [q])]; exact h1 q
end
/-! lookups -/
theorem l_here {ρ : Loc} {x : String} {v : Val} : upd ρ x v x = some v := upd_same _ _ _
theorem l_there {ρ : Loc} {x y : String} {v : Val} {o : Option Val} (hn : (y == x) = false) (h : ρ y = o) : upd ρ x v y = o := by rw [upd_ne ρ v (by simpa using hn)]; exact h
theorem l_bind {ρ : Loc} {x y : String} {xs : List String} {v : Val} {vs : List Val} {o : Option Val} (h : bindT xs vs (upd ρ x v) y = o) : bindT (x :: xs) (v :: vs) ρ y = o := h
theorem l_bind0 {ρ : Loc} {y : String} {vs : List Val} {o : Option Val} (h : ρ y = o) : bindT [] vs ρ y = o := h
/-! statements -/
section
variable {F : CallW} {gv : Glo} {hd : Bool} {ρ : Loc} {σ : Sto} {Q : KS} {E : KX}
/-- what is left of a row of statements -/
noncomputable def nxt (F : CallW) (gv : Glo) (hd : Bool) (r : List St) (Q : KS) (E : KX) : KS := fun fl ρ' σ' => match fl with
  | .next => wpSs F gv hd r ρ' σ' Q E
  | .ret v => Q (.ret v) ρ' σ'
theorem s_cons {s : St} {r : List St} (h : wpS F gv hd s ρ σ (nxt F gv hd r Q E) E) : wpSs F gv hd (s :: r) ρ σ Q E := h
theorem s_nil (h : Q .next ρ σ) : wpSs F gv hd [] ρ σ Q E := h
theorem s_nxt {r : List St} (h : wpSs F gv hd r ρ σ Q E) : nxt F gv hd r Q E .next ρ σ := h
theorem s_out {r : List St} {v : Val} (h : Q (.ret v) ρ σ) : nxt F gv hd r Q E (.ret v) ρ σ := h
/-- what a call makes of its text's end -/
noncomputable def Kh (Q : KV) : KS := fun fl _ σ' => match fl with | .next => Q .none σ' | .ret v => Q v σ'
theorem k_ret {Q : KV} {v : Val} (h : Q v σ) : Kh Q (.ret v) ρ σ := h
theorem k_nxt {Q : KV} (h : Q .none σ) : Kh Q .next ρ σ := h
theorem FnOk.go {F : Nat → CallW} {gv : Glo} {name : String} {ps : List String} {body : List St} (h : FnOk F gv name (ps, body)) {d : Nat} {hd : Bool} {vs : List Val} {σ : Sto} {Q : KV} {E : KE} (hl : vs.length = ps.length)
    (k : wpSs (F d) gv hd body (bindT ps vs (fun _ => none)) σ (Kh Q) (fun c _ σ' => E c σ')) : F (d + 1) hd name vs σ Q E := h.2 d hd vs σ Q E hl k
/-- a call of the class's name makes an object and runs this text -/
noncomputable def ClsOk (F : Nat → CallW) (gv : Glo) (name : String) (df : List String × List St) : Prop :=
  gv.cf name = true ∧ ∀ d hd vs σ Q E, vs.length + 1 = df.1.length → (∀ dx x : Nat, σ dx = none → σ x = none → dx ≠ x → wpSs (F d) gv hd df.2 (bindT df.1 (.ref x :: vs) (fun _ => none)) ((σ.set dx (.attrs [])).set x (.inst name dx)) (fun fl _ σ' => match fl with | .next => Val.none = Val.none ∧ Q (.ref x) σ' | .ret v => v = .none ∧ Q (.ref x) σ') (fun c _ σ' => E c σ')) → F (d + 1) hd name vs σ Q E

/-- what the making of an object makes of its text's end -/
noncomputable def Kc (x : Nat) (Q : KV) : KS := fun fl _ σ' => match fl with | .next => Val.none = Val.none ∧ Q (.ref x) σ' | .ret v => v = .none ∧ Q (.ref x) σ'
theorem ClsOk.go {F : Nat → CallW} {gv : Glo} {name : String} {ps : List String} {body : List St} (h : ClsOk F gv name (ps, body)) {d : Nat} {hd : Bool} {vs : List Val} {σ : Sto} {Q : KV} {E : KE} (hl : vs.length + 1 = ps.length)
    (k : ∀ dx x : Nat, σ dx = none → σ x = none → dx ≠ x → wpSs (F d) gv hd body (bindT ps (.ref x :: vs) (fun _ => none)) ((σ.set dx (.attrs [])).set x (.inst name dx)) (Kc x Q) (fun c _ σ' => E c σ')) : F (d + 1) hd name vs σ Q E := h.2 d hd vs σ Q E hl k
theorem FnOk.cf {F : Nat → CallW} {gv : Glo} {name : String} {df : List String × List St} (h : FnOk F gv name df) : gv.cf name = true := h.1
theorem ClsOk.cf {F : Nat → CallW} {gv : Glo} {name : String} {df : List String × List St} (h : ClsOk F gv name df) : gv.cf name = true := h.1
theorem s_assign {x : String} {e : Ex} (h : wpE F gv hd e ρ σ (fun v σ₁ => Q .next (upd ρ x v) σ₁) (fun c σ₁ => E c ρ σ₁)) : wpS F gv hd (.assign x e) ρ σ Q E := h
theorem s_expr {e : Ex} (h : wpE F gv hd e ρ σ (fun _ σ₁ => Q .next ρ σ₁) (fun c σ₁ => E c ρ σ₁)) : wpS F gv hd (.expr e) ρ σ Q E := h
theorem s_ret {e : Ex} (h : wpE F gv hd e ρ σ (fun v σ₁ => Q (.ret v) ρ σ₁) (fun c σ₁ => E c ρ σ₁)) : wpS F gv hd (.ret e) ρ σ Q E := h
theorem s_if {c : Ex} {t e : List St} (h : wpE F gv hd c ρ σ (fun v σ₁ => truthyW σ₁ v fun b => if b = true then wpSs F gv hd t ρ σ₁ Q E else wpSs F gv hd e ρ σ₁ Q E) (fun c σ' => E c ρ σ')) : wpS F gv hd (.if_ c t e) ρ σ Q E := h
theorem s_for {x : String} {it : Ex} {body : List St} (h : wpE F gv false it ρ σ (fun v σ₁ => ∃ turns, turnsOf σ₁ v 1 = some turns ∧
      wpFor (fun ρ' σ' K => wpSs F gv false body ρ' σ' K (fun _ _ _ => False)) (stay σ₁ v 1 turns) [x] turns ρ σ₁ Q) (fun c σ' => E c ρ σ')) : wpS F gv false (.for_ [x] it body) ρ σ Q E := ⟨rfl, h⟩
theorem s_raise {cls m : String} (hc : gv.ex cls = true) (h : E cls ρ σ) : wpS F gv false (.raise cls m) ρ σ Q E := ⟨rfl, hc, h⟩
theorem s_unpack {xs : List String} {y : String} {a : Nat} {vs : List Val} (e : ρ y = some (.ref a)) (e' : σ a = some (.tup vs)) (hl : vs.length = xs.length) (h : Q .next (bindT xs vs ρ) σ) : wpS F gv false (.assignT xs y) ρ σ Q E := ⟨rfl, a, vs, e, e', hl, h⟩
theorem s_attr {o e : Ex} {a : String} (h : wpE F gv hd e ρ σ (fun x σ₁ => wpE F gv hd o ρ σ₁ (fun v σ₂ => setAttrW v a x σ₂ fun σ₃ => Q .next ρ σ₃)
      (fun c σ' => E c ρ σ')) (fun c σ' => E c ρ σ')) : wpS F gv hd (.assignAttr o a e) ρ σ Q E := h
end
end BP

/-! ## GDefs03 -/
namespace BP
noncomputable def d_is_whole : List String × List St := (["thing", "least", "most"],
  [.ret (.and_ [(.isi (.var "thing") .int), (.not_ (.isi (.var "thing") .bool)), (.cmp (.var "least") [.le, .le] [(.var "thing"), (.var "most")])])])

noncomputable def d_is_rising : List String × List St := (["thing", "many"],
  [.if_ (.not_ (.isi (.var "thing") .list))
     [.ret (.bool_ false)]
     [],
   .assign "before" (.neg (.int_ 1)),
   .for_ ["room"] (.var "thing")
     [.if_ (.not_ (.call "is_whole" [(.var "room"), (.bin .add (.var "before") (.int_ 1)), (.bin .sub (.var "many") (.int_ 1))]))
        [.ret (.bool_ false)]
        [],
      .assign "before" (.var "room")],
   .ret (.bool_ true)])

noncomputable def d_is_deed : List String × List St := (["thing", "many"],
  [.if_ (.or_ [(.not_ (.isi (.var "thing") .list)), (.cmp (.bcall .len [(.var "thing")]) [.ne] [(.var "many")])])
     [.ret (.bool_ false)]
     [],
   .ret (.bcall .all [(.comp (.and_ [(.call "is_rising" [(.var "rooms"), (.var "many")]), (.cmp (.var "rooms") [.ne] [(.list [])])]) ["rooms"] (.var "thing") [])])])

noncomputable def d_House_init : List String × List St := (["self", "looks", "deeds", "wished"],
  [.if_ (.or_ [(.not_ (.isi (.var "looks") .list)), (.not_ (.cmp (.int_ 1) [.le, .le] [(.bcall .len [(.var "looks")]), (.glob "MOST_ROOMS")]))])
     [.raise "BadHouse" "no rooms"]
     [],
   .if_ (.not_ (.bcall .all [(.comp (.call "is_whole" [(.var "look"), (.int_ 0), (.glob "MOST_LOOK")]) ["look"] (.var "looks") [])]))
     [.raise "BadHouse" "no look"]
     [],
   .if_ (.or_ [(.not_ (.isi (.var "deeds") .list)), (.not_ (.cmp (.int_ 1) [.le, .le] [(.bcall .len [(.var "deeds")]), (.glob "MOST_DEEDS")]))])
     [.raise "BadHouse" "no deeds"]
     [],
   .if_ (.not_ (.bcall .all [(.comp (.call "is_deed" [(.var "deed"), (.bcall .len [(.var "looks")])]) ["deed"] (.var "deeds") [])]))
     [.raise "BadHouse" "no deed"]
     [],
   .if_ (.not_ (.call "is_rising" [(.var "wished"), (.bcall .len [(.var "looks")])]))
     [.raise "BadHouse" "no wished rooms"]
     [],
   .assignAttr (.var "self") "looks" (.bcall .list [(.var "looks")]),
   .assignAttr (.var "self") "deeds" (.comp (.call "own_deed" [(.var "deed")]) ["deed"] (.var "deeds") []),
   .assignAttr (.var "self") "wished" (.bcall .list [(.var "wished")])])

noncomputable def d_own_deed : List String × List St := (["deed"],
  [.ret (.comp (.bcall .list [(.var "rooms")]) ["rooms"] (.var "deed") [])])

noncomputable def d_law_cell : List String × List St := (["_law_script", "_law_k"],
  [.ret (.sub (.bin .add (.slice (.var "_law_script") (.var "_law_k") (.bin .add (.var "_law_k") (.int_ 1)) .none_) (.list [(.int_ 0)])) (.int_ 0))])

noncomputable def d_law_int : List String × List St := (["_law_found"],
  [.ret (.and_ [(.cmp (.var "_law_found") [.isNot] [(.bool_ true)]), (.cmp (.var "_law_found") [.isNot] [(.bool_ false)]), (.isi (.var "_law_found") .int)])])

noncomputable def d_law_to : List String × List St := (["_law_cell_here", "_law_room", "_law_many"],
  [.assign "_law_mixed" (.bin .mod (.bin .add (.bin .mul (.bin .fdiv (.var "_law_cell_here") (.int_ 6)) (.int_ 48271)) (.bin .mul (.bin .mul (.var "_law_room") (.bin .add (.int_ 7) (.bin .mod (.var "_law_cell_here") (.int_ 101)))) (.int_ 31))) (.int_ 65537)),
   .if_ (.cmp (.bin .mod (.var "_law_cell_here") (.int_ 6)) [.eq] [(.int_ 0)])
     [.ret (.list [(.bin .mod (.bin .add (.bin .add (.var "_law_room") (.int_ 1)) (.bin .fdiv (.var "_law_cell_here") (.int_ 6))) (.var "_law_many"))])]
     [],
   .if_ (.cmp (.bin .mod (.var "_law_cell_here") (.int_ 6)) [.eq] [(.int_ 1)])
     [.ret (.list [(.bcall .max [(.int_ 0), (.bin .sub (.bin .sub (.var "_law_room") (.int_ 1)) (.bin .mod (.bin .fdiv (.var "_law_cell_here") (.int_ 6)) (.int_ 2)))])])]
     [],
   .if_ (.cmp (.bin .mod (.var "_law_cell_here") (.int_ 6)) [.lt] [(.int_ 4)])
     [.ret (.list [(.bin .mod (.var "_law_mixed") (.var "_law_many"))])]
     [],
   .if_ (.cmp (.bin .mod (.var "_law_cell_here") (.int_ 6)) [.eq] [(.int_ 4)])
     [.ret (.comp (.var "_law_k") ["_law_k"] (.bcall .range [(.var "_law_many")]) [(.or_ [(.cmp (.var "_law_k") [.eq] [(.var "_law_room")]), (.cmp (.var "_law_k") [.eq] [(.bin .mod (.var "_law_mixed") (.var "_law_many"))])])])]
     [],
   .ret (.comp (.var "_law_k") ["_law_k"] (.bcall .range [(.var "_law_many")]) [(.or_ [(.cmp (.var "_law_k") [.eq] [(.var "_law_room")]), (.cmp (.bin .mod (.bin .fdiv (.var "_law_mixed") (.bin .add (.var "_law_k") (.int_ 1))) (.int_ 3)) [.eq] [(.int_ 0)])])])])

noncomputable def d_law_looks : List String × List St := (["_law_script", "_law_many"],
  [.assign "_law_kinds" (.sub (.list [(.int_ 1), (.int_ 2), (.int_ 3), (.int_ 2), (.int_ 3), (.int_ 4), (.int_ 5), (.int_ 9)]) (.bin .mod (.bin .fdiv (.call "_law_cell" [(.var "_law_script"), (.int_ 0)]) (.int_ 120)) (.int_ 8))),
   .assign "_law_base" (.call "_law_cell" [(.var "_law_script"), (.int_ 1)]),
   .assign "_law_step" (.sub (.list [(.int_ 3), (.int_ 1), (.int_ 7), (.int_ 9)]) (.bin .mod (.bin .fdiv (.var "_law_base") (.int_ 10)) (.int_ 4))),
   .assign "_law_seed" (.bin .mul (.call "_law_cell" [(.var "_law_script"), (.int_ 2)]) (.int_ 48271)),
   .assign "_law_picks" (.comp (.bin .mod (.bin .fdiv (.bin .add (.var "_law_seed") (.bin .mul (.bin .mul (.var "_law_room") (.var "_law_room")) (.int_ 7919))) (.sub (.list [(.int_ 1), (.int_ 3), (.int_ 9), (.int_ 27), (.int_ 81), (.int_ 243), (.int_ 729), (.int_ 2187)]) (.var "_law_room"))) (.var "_law_kinds")) ["_law_room"] (.bcall .range [(.var "_law_many")]) []),
   .if_ (.cmp (.var "_law_kinds") [.eq] [(.int_ 9)])
     [.assign "_law_picks" (.comp (.var "_law_room") ["_law_room"] (.bcall .range [(.var "_law_many")]) [])]
     [],
   .ret (.comp (.bin .mod (.bin .add (.var "_law_base") (.bin .mul (.var "_law_step") (.var "_law_pick"))) (.int_ 10)) ["_law_pick"] (.var "_law_picks") [])])

noncomputable def d_law_house : List String × List St := (["_law_script"],
  [.assign "_law_head" (.call "_law_cell" [(.var "_law_script"), (.int_ 0)]),
   .assign "_law_many" (.bin .add (.int_ 1) (.bin .mod (.var "_law_head") (.int_ 5))),
   .if_ (.cmp (.bin .mod (.bin .fdiv (.var "_law_head") (.int_ 5)) (.int_ 8)) [.eq] [(.int_ 1)])
     [.assign "_law_many" (.bin .add (.int_ 6) (.bin .mod (.bin .fdiv (.var "_law_head") (.int_ 40)) (.int_ 3)))]
     [],
   .assign "_law_count" (.bin .add (.int_ 1) (.bin .mod (.call "_law_cell" [(.var "_law_script"), (.int_ 3)]) (.int_ 3))),
   .if_ (.cmp (.bin .mod (.bin .fdiv (.call "_law_cell" [(.var "_law_script"), (.int_ 3)]) (.int_ 3)) (.int_ 8)) [.eq] [(.int_ 1)])
     [.assign "_law_count" (.bin .add (.int_ 4) (.bin .mod (.bin .fdiv (.call "_law_cell" [(.var "_law_script"), (.int_ 3)]) (.int_ 24)) (.int_ 2)))]
     [],
   .assign "_law_deeds" (.list []),
   .for_ ["_law_k"] (.bcall .range [(.var "_law_count")])
     [.assign "_law_cell_here" (.call "_law_cell" [(.var "_law_script"), (.bin .add (.int_ 4) (.var "_law_k"))]),
      .expr (.meth (.var "_law_deeds") .append [(.comp (.call "_law_to" [(.var "_law_cell_here"), (.var "_law_room"), (.var "_law_many")]) ["_law_room"] (.bcall .range [(.var "_law_many")]) [])])],
   .assign "_law_bits" (.call "_law_cell" [(.var "_law_script"), (.int_ 9)]),
   .assign "_law_wished" (.comp (.var "_law_room") ["_law_room"] (.bcall .range [(.var "_law_many")]) [(.cmp (.bin .mod (.bin .fdiv (.var "_law_bits") (.sub (.list [(.int_ 1), (.int_ 2), (.int_ 4), (.int_ 8), (.int_ 16), (.int_ 32), (.int_ 64), (.int_ 128)]) (.var "_law_room"))) (.int_ 2)) [.eq] [(.int_ 1)])]),
   .if_ (.cmp (.bin .mod (.bin .fdiv (.var "_law_bits") (.int_ 256)) (.int_ 2)) [.eq] [(.int_ 1)])
     [.assign "_law_wished" (.list [(.bin .mod (.bin .fdiv (.var "_law_bits") (.int_ 512)) (.var "_law_many"))])]
     [],
   .ret (.tup [(.call "_law_looks" [(.var "_law_script"), (.var "_law_many")]), (.var "_law_deeds"), (.var "_law_wished")])])

noncomputable def d03_law_copy : List String × List St := (["_law_deed"],
  [.if_ (.not_ (.isi (.var "_law_deed") .list))
     [.ret (.var "_law_deed")]
     [],
   .ret (.comp (.ite (.isi (.var "_law_rooms") .list) (.bcall .list [(.var "_law_rooms")]) (.var "_law_rooms")) ["_law_rooms"] (.var "_law_deed") [])])

noncomputable def d_law_copied : List String × List St := (["_law_deeds"],
  [.if_ (.not_ (.isi (.var "_law_deeds") .list))
     [.ret (.var "_law_deeds")]
     [],
   .ret (.comp (.call "_law_copy" [(.var "_law_deed")]) ["_law_deed"] (.var "_law_deeds") [])])

noncomputable def d_law_put : List String × List St := (["_law_row", "_law_at", "_law_thing"],
  [.if_ (.cmp (.var "_law_row") [.eq] [(.list [])])
     [.ret (.list [(.var "_law_thing")])]
     [],
   .ret (.bin .add (.bin .add (.slice (.var "_law_row") .none_ (.bin .mod (.var "_law_at") (.bcall .len [(.var "_law_row")])) .none_) (.list [(.var "_law_thing")])) (.slice (.var "_law_row") (.bin .add (.bin .mod (.var "_law_at") (.bcall .len [(.var "_law_row")])) (.int_ 1)) .none_ .none_))])

noncomputable def d_law_is_rising : List String × List St := (["_law_row", "_law_many"],
  [.if_ (.not_ (.isi (.var "_law_row") .list))
     [.ret (.bool_ false)]
     [],
   .for_ ["_law_k"] (.bcall .range [(.bcall .len [(.var "_law_row")])])
     [.if_ (.or_ [(.not_ (.call "_law_int" [(.sub (.var "_law_row") (.var "_law_k"))])), (.cmp (.sub (.var "_law_row") (.var "_law_k")) [.lt] [(.int_ 0)]), (.cmp (.sub (.var "_law_row") (.var "_law_k")) [.ge] [(.var "_law_many")]), (.and_ [(.cmp (.var "_law_k") [.gt] [(.int_ 0)]), (.cmp (.sub (.var "_law_row") (.var "_law_k")) [.le] [(.sub (.var "_law_row") (.bin .sub (.var "_law_k") (.int_ 1)))])])])
        [.ret (.bool_ false)]
        []],
   .ret (.bool_ true)])

noncomputable def d03_law_good : List String × List St := (["_law_looks_here", "_law_deeds", "_law_wished"],
  [.if_ (.or_ [(.not_ (.isi (.var "_law_looks_here") .list)), (.not_ (.isi (.var "_law_deeds") .list))])
     [.ret (.bool_ false)]
     [],
   .if_ (.or_ [(.not_ (.cmp (.int_ 1) [.le, .le] [(.bcall .len [(.var "_law_looks_here")]), (.int_ 8)])), (.not_ (.cmp (.int_ 1) [.le, .le] [(.bcall .len [(.var "_law_deeds")]), (.int_ 5)])), (.not_ (.call "_law_is_rising" [(.var "_law_wished"), (.bcall .len [(.var "_law_looks_here")])]))])
     [.ret (.bool_ false)]
     [],
   .if_ (.cmp (.comp (.var "_law_look") ["_law_look"] (.var "_law_looks_here") [(.or_ [(.not_ (.call "_law_int" [(.var "_law_look")])), (.cmp (.var "_law_look") [.lt] [(.int_ 0)]), (.cmp (.var "_law_look") [.gt] [(.int_ 9)])])]) [.ne] [(.list [])])
     [.ret (.bool_ false)]
     [],
   .for_ ["_law_deed"] (.var "_law_deeds")
     [.if_ (.or_ [(.not_ (.isi (.var "_law_deed") .list)), (.cmp (.bcall .len [(.var "_law_deed")]) [.ne] [(.bcall .len [(.var "_law_looks_here")])])])
        [.ret (.bool_ false)]
        [],
      .if_ (.cmp (.comp (.var "_law_rooms") ["_law_rooms"] (.var "_law_deed") [(.or_ [(.cmp (.var "_law_rooms") [.eq] [(.list [])]), (.not_ (.call "_law_is_rising" [(.var "_law_rooms"), (.bcall .len [(.var "_law_looks_here")])]))])]) [.ne] [(.list [])])
        [.ret (.bool_ false)]
        []],
   .ret (.bool_ true)])

noncomputable def d_law_changed : List String × List St := (["_law_house_here", "_law_way", "_law_at", "_law_cell_here"],
  [.assignT ["_law_looks_here", "_law_deeds", "_law_wished"] "_law_house_here",
   .assign "_law_many" (.bcall .len [(.var "_law_looks_here")]),
   .assign "_law_odd" (.sub (.list [(.neg (.int_ 1)), (.var "_law_many"), (.bool_ true), .none_, (.str_ "0"), (.int_ 10), (.int_ 9), (.int_ 0), (.tup [(.int_ 0)]), (.list []), (.bool_ false)]) (.bin .mod (.var "_law_cell_here") (.int_ 11))),
   .assign "_law_place" (.bin .mod (.var "_law_at") (.bcall .len [(.var "_law_deeds")])),
   .assign "_law_deed" (.sub (.var "_law_deeds") (.var "_law_place")),
   .if_ (.cmp (.var "_law_way") [.eq] [(.int_ 1)])
     [.assign "_law_looks_here" (.call "_law_put" [(.var "_law_looks_here"), (.var "_law_at"), (.var "_law_odd")])]
     [.if_ (.cmp (.var "_law_way") [.eq] [(.int_ 2)])
        [.assign "_law_rooms" (.list [(.list []), (.list [(.var "_law_many")]), (.list [(.int_ 0), (.int_ 0)]), (.list [(.bin .sub (.var "_law_many") (.int_ 1)), (.int_ 0)]), (.tup [(.int_ 0)]), (.list [(.int_ 0)]), .none_, (.list [(.neg (.int_ 1))]), (.list [(.bool_ true)]), (.bcall .list [(.bcall .range [(.var "_law_many")])]), (.list [(.bool_ false)]), (.list []), (.list [])]),
         .assign "_law_rooms" (.sub (.var "_law_rooms") (.bin .mod (.var "_law_cell_here") (.int_ 13))),
         .assign "_law_deeds" (.call "_law_put" [(.var "_law_deeds"), (.var "_law_place"), (.call "_law_put" [(.var "_law_deed"), (.bin .fdiv (.var "_law_at") (.int_ 5)), (.var "_law_rooms")])])]
        [.if_ (.cmp (.var "_law_way") [.eq] [(.int_ 3)])
           [.assign "_law_rooms" (.call "_law_put" [(.sub (.var "_law_deed") (.bin .mod (.bin .fdiv (.var "_law_at") (.int_ 5)) (.var "_law_many"))), (.bin .fdiv (.var "_law_at") (.int_ 40)), (.var "_law_odd")]),
            .assign "_law_deeds" (.call "_law_put" [(.var "_law_deeds"), (.var "_law_place"), (.call "_law_put" [(.var "_law_deed"), (.bin .fdiv (.var "_law_at") (.int_ 5)), (.var "_law_rooms")])])]
           [.if_ (.cmp (.var "_law_way") [.eq] [(.int_ 4)])
              [.assign "_law_deeds" (.call "_law_put" [(.var "_law_deeds"), (.var "_law_place"), (.sub (.list [(.slice (.var "_law_deed") .none_ (.neg (.int_ 1)) .none_), (.bin .add (.var "_law_deed") (.list [(.list [(.int_ 0)])])), (.bcall .tuple [(.var "_law_deed")]), .none_, (.list []), (.var "_law_deed")]) (.bin .mod (.var "_law_cell_here") (.int_ 6)))])]
              [.if_ (.cmp (.var "_law_way") [.eq] [(.int_ 5)])
                 [.assign "_law_some" (.list [(.call "_law_put" [(.var "_law_wished"), (.var "_law_at"), (.var "_law_odd")]), (.bin .add (.var "_law_wished") (.list [(.var "_law_many")])), (.list [(.int_ 0), (.int_ 0)]), (.bcall .tuple [(.var "_law_wished")]), .none_, (.str_ ""), (.list [(.bin .sub (.var "_law_many") (.int_ 1)), (.int_ 0)]), (.list [(.bool_ false)])]),
                  .assign "_law_wished" (.sub (.var "_law_some") (.bin .mod (.bin .fdiv (.var "_law_cell_here") (.int_ 11)) (.int_ 8)))]
                 [.if_ (.cmp (.var "_law_way") [.eq] [(.int_ 6)])
                    [.assign "_law_looks_here" (.sub (.list [(.bcall .tuple [(.var "_law_looks_here")]), .none_, (.list []), (.str_ "0"), (.bin .add (.var "_law_looks_here") (.list [(.int_ 0)])), (.slice (.var "_law_looks_here") .none_ (.neg (.int_ 1)) .none_)]) (.bin .mod (.var "_law_cell_here") (.int_ 6)))]
                    [.if_ (.cmp (.var "_law_way") [.eq] [(.int_ 7)])
                       [.assign "_law_deeds" (.sub (.list [(.bcall .tuple [(.var "_law_deeds")]), .none_, (.list []), (.bin .mul (.slice (.var "_law_deeds") .none_ (.int_ 1) .none_) (.int_ 5)), (.bin .mul (.slice (.var "_law_deeds") .none_ (.int_ 1) .none_) (.int_ 6)), (.str_ "0")]) (.bin .mod (.var "_law_cell_here") (.int_ 6)))]
                       [.assign "_law_looks_here" (.comp (.bin .mod (.var "_law_k") (.int_ 10)) ["_law_k"] (.bcall .range [(.bin .add (.int_ 8) (.bin .mod (.var "_law_cell_here") (.int_ 2)))]) []),
                        .assign "_law_deeds" (.list [(.comp (.list [(.var "_law_k")]) ["_law_k"] (.bcall .range [(.bcall .len [(.var "_law_looks_here")])]) [])]),
                        .assign "_law_wished" (.list [(.int_ 0)])]]]]]]],
   .ret (.tup [(.var "_law_looks_here"), (.var "_law_deeds"), (.var "_law_wished")])])

noncomputable def d_law_word : List String × List St := (["_law_e"],
  [.assign "_law_word_here" (.bin .add (.bin .mul (.str_ "bare") (.bcall .int [(.not_ (.isi (.var "_law_e") .valueError))])) (.bin .mul (.str_ "house") (.bcall .int [(.isi (.var "_law_e") (.own "BadHouse"))]))),
   .assign "_law_word_here" (.bin .add (.bin .add (.var "_law_word_here") (.bin .mul (.str_ "guess") (.bcall .int [(.isi (.var "_law_e") (.own "BadGuess"))]))) (.bin .mul (.str_ "deed") (.bcall .int [(.isi (.var "_law_e") (.own "BadDeed"))]))),
   .assign "_law_word_here" (.bin .add (.bin .add (.var "_law_word_here") (.bin .mul (.str_ "plan") (.bcall .int [(.isi (.var "_law_e") (.own "BadPlan"))]))) (.bin .mul (.str_ "steps") (.bcall .int [(.isi (.var "_law_e") (.own "BadSteps"))]))),
   .ret (.bin .add (.bin .add (.var "_law_word_here") (.bin .mul (.str_ "way") (.bcall .int [(.isi (.var "_law_e") (.own "NoWay"))]))) (.bin .mul (.str_ "text") (.bcall .int [(.isi (.var "_law_e") (.own "BadText"))])))])

noncomputable def d03_law_refused : List String × List St := (["_law_looks_here", "_law_deeds", "_law_wished"],
  [.try_ [.expr (.call "House" [(.var "_law_looks_here"), (.var "_law_deeds"), (.var "_law_wished")])] "HouseError" "_law_e"
     [.ret (.cmp (.call "_law_word" [(.var "_law_e")]) [.eq] [(.str_ "house")])],
   .ret (.bool_ false)])

noncomputable def d03_law : List String × List St := (["_law_script"],
  [.assign "_law_house_here" (.call "_law_house" [(.var "_law_script")]),
   .assign "_law_cell_here" (.call "_law_cell" [(.var "_law_script"), (.int_ 11)]),
   .if_ (.cmp (.bin .mod (.var "_law_cell_here") (.int_ 4)) [.gt] [(.int_ 0)])
     [.assign "_law_way" (.sub (.list [(.int_ 1), (.int_ 2), (.int_ 3), (.int_ 4), (.int_ 5), (.int_ 6), (.int_ 7), (.int_ 8), (.int_ 2), (.int_ 3)]) (.bin .mod (.bin .fdiv (.var "_law_cell_here") (.int_ 4)) (.int_ 10))),
      .assign "_law_house_here" (.call "_law_changed" [(.var "_law_house_here"), (.var "_law_way"), (.call "_law_cell" [(.var "_law_script"), (.int_ 12)]), (.call "_law_cell" [(.var "_law_script"), (.int_ 13)])])]
     [],
   .assignT ["_law_looks_here", "_law_deeds", "_law_wished"] "_law_house_here",
   .assign "_law_handed" (.list [(.ite (.isi (.var "_law_looks_here") .list) (.bcall .list [(.var "_law_looks_here")]) (.var "_law_looks_here")), (.call "_law_copied" [(.var "_law_deeds")])]),
   .expr (.meth (.var "_law_handed") .append [(.ite (.isi (.var "_law_wished") .list) (.bcall .list [(.var "_law_wished")]) (.var "_law_wished"))]),
   .if_ (.not_ (.call "_law_good" [(.var "_law_looks_here"), (.var "_law_deeds"), (.var "_law_wished")]))
     [.ret (.and_ [(.call "_law_refused" [(.sub (.var "_law_handed") (.int_ 0)), (.sub (.var "_law_handed") (.int_ 1)), (.sub (.var "_law_handed") (.int_ 2))]), (.cmp (.var "_law_handed") [.eq] [(.list [(.var "_law_looks_here"), (.var "_law_deeds"), (.var "_law_wished")])])])]
     [],
   .assign "_law_made" (.call "House" [(.sub (.var "_law_handed") (.int_ 0)), (.sub (.var "_law_handed") (.int_ 1)), (.sub (.var "_law_handed") (.int_ 2))]),
   .if_ (.or_ [(.cmp (.var "_law_handed") [.ne] [(.list [(.var "_law_looks_here"), (.var "_law_deeds"), (.var "_law_wished")])]), (.cmp (.list [(.attr (.var "_law_made") "looks"), (.attr (.var "_law_made") "deeds"), (.attr (.var "_law_made") "wished")]) [.ne] [(.var "_law_handed")])])
     [.ret (.bool_ false)]
     [],
   .expr (.meth (.sub (.var "_law_handed") (.int_ 0)) .append [(.int_ 0)]),
   .expr (.meth (.sub (.sub (.sub (.var "_law_handed") (.int_ 1)) (.int_ 0)) (.int_ 0)) .append [(.int_ 9)]),
   .expr (.meth (.sub (.var "_law_handed") (.int_ 1)) .append [(.list [])]),
   .expr (.meth (.sub (.var "_law_handed") (.int_ 2)) .append [(.int_ 0)]),
   .if_ (.cmp (.comp (.var "_law_one") ["_law_one"] (.bin .add (.attr (.var "_law_made") "looks") (.attr (.var "_law_made") "wished")) [(.not_ (.call "_law_int" [(.var "_law_one")]))]) [.ne] [(.list [])])
     [.ret (.bool_ false)]
     [],
   .ret (.cmp (.list [(.attr (.var "_law_made") "looks"), (.attr (.var "_law_made") "deeds"), (.attr (.var "_law_made") "wished")]) [.eq] [(.list [(.var "_law_looks_here"), (.var "_law_deeds"), (.var "_law_wished")])])])

end BP

/-! ## GSpec1 -/
set_option linter.unusedVariables false
set_option linter.unusedSimpArgs false
namespace BP
open PySem
variable {F : Nat → CallW} {gv : Glo}

/-! ### data of any kind, and what the text asks of it -/
noncomputable def isL (d : Dat) : Bool := match d with | .list _ => true | _ => false
noncomputable def isI (d : Dat) : Bool := match d with | .int _ => true | .bool _ => true | _ => false
noncomputable def isB (d : Dat) : Bool := match d with | .bool _ => true | _ => false
noncomputable def wholeD (d : Dat) (lo hi : Int) : Bool := match d with | .int i => decide (lo ≤ i) && decide (i ≤ hi) | _ => false
noncomputable def risingD : List Dat → Int → Int → Bool
  | [], _, _ => true
  | d :: ds, b, m => wholeD d (b + 1) (m - 1) && (match d with | .int i => risingD ds i m | _ => false)
noncomputable def isRisD (d : Dat) (m : Int) : Bool := match d with | .list ds => risingD ds (-1) m | _ => false
noncomputable def isNil (d : Dat) : Bool := match d with | .list ds => ds.isEmpty | _ => false
noncomputable def deedB (d : Dat) (m : Int) : Bool := match d with | .list ds => decide ((ds.length : Int) = m) && ds.all (fun r => isRisD r m && !isNil r) | _ => false
/-- not too deep, not too long -/
noncomputable def sm : Nat → Dat → Bool
  | _, .none => true
  | _, .bool _ => true
  | _, .int _ => true
  | _, .str _ => true
  | 0, _ => false
  | n + 1, .list ds => decide (ds.length ≤ 100) && ds.all (sm n)
  | n + 1, .tup ds => decide (ds.length ≤ 100) && ds.all (sm n)
theorem sm_ok : ∀ (n m : Nat) (d : Dat), n ≤ m → sm n d = true → dOk m d = true
  | _, m, .none, _, _ => by cases m <;> rfl
  | _, m, .bool _, _, _ => by cases m <;> rfl
  | _, m, .int _, _, _ => by cases m <;> rfl
  | _, m, .str _, _, _ => by cases m <;> rfl
  | 0, m, .list _, _, h => by cases h
  | 0, m, .tup _, _, h => by cases h
  | n + 1, 0, _, h, _ => by cases h
  | n + 1, m + 1, .list ds, hm, h => by
    simp only [sm, Bool.and_eq_true, List.all_eq_true] at h
    simp only [dOk, List.all_eq_true]
    exact fun x hx => sm_ok n m x (by omega) (h.2 x hx)
  | n + 1, m + 1, .tup ds, hm, h => by
    simp only [sm, Bool.and_eq_true, List.all_eq_true] at h
    simp only [dOk, List.all_eq_true]
    exact fun x hx => sm_ok n m x (by omega) (h.2 x hx)
theorem sm_list {n : Nat} {ds : List Dat} (h : sm (n + 1) (.list ds) = true) : ds.length ≤ 100 ∧ ∀ d ∈ ds, sm n d = true := by
  simp only [sm, Bool.and_eq_true, List.all_eq_true, decide_eq_true_eq] at h; exact h
theorem sm_mk {n : Nat} {ds : List Dat} (h : ds.length ≤ 100) (h' : ∀ d ∈ ds, sm n d = true) : sm (n + 1) (.list ds) = true := by
  simp only [sm, Bool.and_eq_true, List.all_eq_true, decide_eq_true_eq]; exact ⟨h, h'⟩

section
variable {σ : Sto} {d : Dat} {v : Val} {K : Bool → Prop}
theorem y_dl (h : Has σ d v) (hK : K (isL d)) : isiAny gv v .list σ K := by
  cases d with
  | none => cases h; exact ⟨rfl, hK⟩
  | bool _ => cases h; exact ⟨rfl, hK⟩
  | int _ => cases h; exact ⟨rfl, hK⟩
  | str _ => cases h; exact ⟨rfl, hK⟩
  | list ds => obtain ⟨a, xs, rfl, h1, _⟩ := h; exact ⟨rfl, by simp only [h1]; exact hK⟩
  | tup ds => obtain ⟨a, xs, rfl, h1, _⟩ := h; exact ⟨rfl, by simp only [h1]; exact hK⟩
theorem y_di (h : Has σ d v) (hK : K (isI d)) : isiAny gv v .int σ K := by
  cases d with
  | none => cases h; exact ⟨rfl, hK⟩
  | bool _ => cases h; exact ⟨rfl, hK⟩
  | int _ => cases h; exact ⟨rfl, hK⟩
  | str _ => cases h; exact ⟨rfl, hK⟩
  | list ds => obtain ⟨a, xs, rfl, h1, _⟩ := h; exact ⟨rfl, by simp only [h1]; exact hK⟩
  | tup ds => obtain ⟨a, xs, rfl, h1, _⟩ := h; exact ⟨rfl, by simp only [h1]; exact hK⟩
theorem y_db (h : Has σ d v) (hK : K (isB d)) : isiAny gv v .bool σ K := by
  cases d with
  | none => cases h; exact ⟨rfl, hK⟩
  | bool _ => cases h; exact ⟨rfl, hK⟩
  | int _ => cases h; exact ⟨rfl, hK⟩
  | str _ => cases h; exact ⟨rfl, hK⟩
  | list ds => obtain ⟨a, xs, rfl, h1, _⟩ := h; exact ⟨rfl, by simp only [h1]; exact hK⟩
  | tup ds => obtain ⟨a, xs, rfl, h1, _⟩ := h; exact ⟨rfl, by simp only [h1]; exact hK⟩
end
theorem nil_eq (d : Dat) : pyEq d (.list []) = isNil d := by
  cases d with
  | list ds => cases ds <;> rfl
  | _ => rfl
/-- v != [], v == [] -/
theorem ne_nilD {σ : Sto} {d : Dat} {v : Val} {Q : Bool → Sto → Prop} (hv : Has σ d v) (hd : dOk 9 d = true) (hQ : ∀ σ', Ext σ σ' → Q (!isNil d) σ') : newW σ (.list []) fun w σ₁ => cmpW .ne v w σ₁ fun b => Q b σ₁ := fun a ha =>
  ⟨d, .list [], hv.ext (.set ha _), ⟨a, [], rfl, set_at _ _ _, HasL.nil⟩, hd, rfl, by rw [nil_eq]; exact hQ _ (.set ha _)⟩
theorem eq_nilD {σ : Sto} {d : Dat} {v : Val} {Q : Bool → Sto → Prop} (hv : Has σ d v) (hd : dOk 9 d = true) (hQ : ∀ σ', Ext σ σ' → Q (isNil d) σ') : newW σ (.list []) fun w σ₁ => cmpW .eq v w σ₁ fun b => Q b σ₁ := fun a ha =>
  ⟨d, .list [], hv.ext (.set ha _), ⟨a, [], rfl, set_at _ _ _, HasL.nil⟩, hd, rfl, by rw [nil_eq]; exact hQ _ (.set ha _)⟩

theorem is_whole_spec (h : FnOk F gv "is_whole" d_is_whole) {d : Nat} {hd : Bool} {e : Dat} {v : Val} {lo hi : Int} {σ : Sto} {Q : KV} {E : KE} (hv : Has σ e v)
   (hQ : Q (.bool (wholeD e lo hi)) σ) : F (d + 1) hd "is_whole" [v, .int lo, .int hi] σ Q E := by
  refine FnOk.go h rfl ?_
  refine s_cons ?_; refine s_ret ?_; refine r_and ?_; refine r_and2 ?_; refine r_isi ?_; refine r_var (l_bind (l_bind (l_bind (l_there rfl (l_there rfl l_here))))) ?_
  refine y_di hv ?_
  refine t_bool ?_
  cases e with
  | int i =>
    refine i_pos rfl ?_
    refine r_and2 ?_; refine r_not ?_; refine r_isi ?_; refine r_var (l_bind (l_bind (l_bind (l_there rfl (l_there rfl l_here))))) ?_
    refine y_db hv ?_
    refine t_bool ?_; refine t_bool ?_
    refine i_pos rfl ?_
    cases hv
    refine r_and1 ?_; refine r_cmp2 ?_; refine r_var (l_bind (l_bind (l_bind (l_there rfl l_here)))) ?_; refine r_var (l_bind (l_bind (l_bind (l_there rfl (l_there rfl l_here))))) ?_; refine c_le ?_
    refine i_dec (fun q => ?_) fun q => ?_
    · refine r_var (l_bind (l_bind (l_bind (l_bind0 l_here)))) ?_; refine c_le ?_; refine s_out ?_; refine k_ret ?_
      rw [wholeD, decide_eq_true q] at hQ
      exact hQ
    · refine s_out ?_; refine k_ret ?_
      rw [wholeD, decide_eq_false q] at hQ
      rw [decide_eq_false q]
      exact hQ
  | bool b =>
    refine i_pos rfl ?_
    refine r_and2 ?_; refine r_not ?_; refine r_isi ?_; refine r_var (l_bind (l_bind (l_bind (l_there rfl (l_there rfl l_here))))) ?_
    refine y_db hv ?_
    refine t_bool ?_; refine t_bool ?_
    refine i_neg rfl ?_
    refine s_out ?_; refine k_ret ?_
    exact hQ
  | none =>
    refine i_neg rfl ?_
    refine s_out ?_; refine k_ret ?_
    exact hQ
  | str _ =>
    refine i_neg rfl ?_
    refine s_out ?_; refine k_ret ?_
    exact hQ
  | list _ =>
    refine i_neg rfl ?_
    refine s_out ?_; refine k_ret ?_
    exact hQ
  | tup _ =>
    refine i_neg rfl ?_
    refine s_out ?_; refine k_ret ?_
    exact hQ

theorem is_rising_spec (hw : FnOk F gv "is_whole" d_is_whole) (h : FnOk F gv "is_rising" d_is_rising) {d : Nat} {e : Dat} {v : Val} {many : Int} {σ : Sto} {Q : KV} {E : KE} (hv : Has σ e v)
   (hQ : Q (.bool (isRisD e many)) σ) : F (d + 2) false "is_rising" [v, .int many] σ Q E := by
  refine FnOk.go h rfl ?_
  refine s_cons ?_; refine s_if ?_; refine r_not ?_; refine r_isi ?_; refine r_var (l_bind (l_bind (l_there rfl l_here))) ?_
  refine y_dl hv ?_
  refine t_bool ?_; refine t_bool ?_
  cases e with
  | list ds =>
    refine i_neg rfl ?_
    refine s_nil ?_
    refine s_nxt ?_; refine s_cons ?_; refine s_assign ?_; refine r_neg ?_
    refine Classical.byContradiction fun hG => ?_
    obtain ⟨a, xs, rfl, ha, hxs⟩ := hv
    refine hG ?_
    clear hG
    refine s_nxt ?_; refine s_cons ?_; refine s_for ?_; refine r_var (l_there rfl (l_bind (l_bind (l_there rfl l_here)))) ?_
    refine ⟨_, turns_list ha, ?_⟩
    refine wpFor_inv (fun items ρ' σ' => σ' = σ ∧ ∃ ds' b, HasL σ ds' items ∧ ρ' "before" = some (.int b) ∧ ρ' "many" = some (.int many) ∧ Q (.bool (risingD ds' b many)) σ) ?_ ?_ ?_ xs _ σ ?_
    · rintro l ρ' _ ⟨rfl, _⟩
      exact stay_list ha ha
    · intro ρ' σ' H9
      refine Classical.byContradiction fun hG => ?_
      obtain ⟨rfl, ds', b, h1, h2, h3, h4⟩ := H9
      refine hG ?_
      clear hG
      have : ds' = [] := by cases ds' with
        | nil => rfl
        | cons _ _ => obtain ⟨_, _, q, _⟩ := h1; cases q
      subst this
      refine s_nxt ?_; refine s_cons ?_; refine s_ret ?_; refine r_bool ?_; refine s_out ?_; refine k_ret ?_
      exact h4
    · intro u items ρ' σ' K H9 k1 k2
      refine Classical.byContradiction fun hG => ?_
      obtain ⟨rfl, ds', b, h1, h2, h3, h4⟩ := H9
      cases ds' with
      | nil => cases h1
      | cons x ds' =>
        obtain ⟨hx, hr⟩ := HasL.cons.mp h1
        refine hG ?_
        clear hG
        refine s_cons ?_; refine s_if ?_; refine r_not ?_; refine r_call (FnOk.cf (by assumption)) ?_; refine r_cons ?_; refine r_var l_here ?_; refine r_cons ?_; refine r_bin ?_; refine r_var (by assumption) ?_; refine r_int ?_; refine o_add ?_; refine r_cons ?_; refine r_bin ?_; refine r_var (by assumption) ?_; refine r_int ?_; refine o_sub ?_; refine r_nil ?_
        refine is_whole_spec hw hx ?_
        refine t_bool ?_; refine t_bool ?_
        cases x with
        | int i =>
          rw [risingD] at h4
          cases q : wholeD (.int i) (b + 1) (many - 1) with
          | true =>
            rw [q] at h4
            refine i_nt ?_; refine s_nil ?_
            cases hx
            refine s_nxt ?_; refine s_cons ?_; refine s_assign ?_; refine r_var l_here ?_
            refine s_nxt ?_; refine s_nil ?_
            exact k1 _ _ ⟨rfl, ds', i, hr, by (repeat (first | with_reducible exact l_here | assumption | refine l_there rfl ?_ | with_reducible refine l_bind ?_ | with_reducible refine l_bind0 ?_)), by (repeat (first | with_reducible exact l_here | assumption | refine l_there rfl ?_ | with_reducible refine l_bind ?_ | with_reducible refine l_bind0 ?_)), h4⟩
          | false =>
            rw [q] at h4
            refine i_nf ?_
            refine s_cons ?_; refine s_ret ?_; refine r_bool ?_; refine s_out ?_; refine s_out ?_
            exact k2 _ _ _ (s_out (k_ret h4))
        | none =>
          refine i_pos rfl ?_
          refine s_cons ?_; refine s_ret ?_; refine r_bool ?_; refine s_out ?_; refine s_out ?_
          exact k2 _ _ _ (s_out (k_ret h4))
        | bool _ =>
          refine i_pos rfl ?_
          refine s_cons ?_; refine s_ret ?_; refine r_bool ?_; refine s_out ?_; refine s_out ?_
          exact k2 _ _ _ (s_out (k_ret h4))
        | str _ =>
          refine i_pos rfl ?_
          refine s_cons ?_; refine s_ret ?_; refine r_bool ?_; refine s_out ?_; refine s_out ?_
          exact k2 _ _ _ (s_out (k_ret h4))
        | list _ =>
          refine i_pos rfl ?_
          refine s_cons ?_; refine s_ret ?_; refine r_bool ?_; refine s_out ?_; refine s_out ?_
          exact k2 _ _ _ (s_out (k_ret h4))
        | tup _ =>
          refine i_pos rfl ?_
          refine s_cons ?_; refine s_ret ?_; refine r_bool ?_; refine s_out ?_; refine s_out ?_
          exact k2 _ _ _ (s_out (k_ret h4))
    · exact ⟨rfl, ds, -1, hxs, by (repeat (first | with_reducible exact l_here | assumption | refine l_there rfl ?_ | with_reducible refine l_bind ?_ | with_reducible refine l_bind0 ?_)), by (repeat (first | with_reducible exact l_here | assumption | refine l_there rfl ?_ | with_reducible refine l_bind ?_ | with_reducible refine l_bind0 ?_)), hQ⟩
  | none =>
    refine i_pos rfl ?_
    refine s_cons ?_; refine s_ret ?_; refine r_bool ?_; refine s_out ?_; refine s_out ?_; refine k_ret ?_
    exact hQ
  | bool _ =>
    refine i_pos rfl ?_
    refine s_cons ?_; refine s_ret ?_; refine r_bool ?_; refine s_out ?_; refine s_out ?_; refine k_ret ?_
    exact hQ
  | int _ =>
    refine i_pos rfl ?_
    refine s_cons ?_; refine s_ret ?_; refine r_bool ?_; refine s_out ?_; refine s_out ?_; refine k_ret ?_
    exact hQ
  | str _ =>
    refine i_pos rfl ?_
    refine s_cons ?_; refine s_ret ?_; refine r_bool ?_; refine s_out ?_; refine s_out ?_; refine k_ret ?_
    exact hQ
  | tup _ =>
    refine i_pos rfl ?_
    refine s_cons ?_; refine s_ret ?_; refine r_bool ?_; refine s_out ?_; refine s_out ?_; refine k_ret ?_
    exact hQ
end BP

/-! ## GSpec2 -/
set_option linter.unusedVariables false
set_option linter.unusedSimpArgs false
namespace BP
open PySem
variable {F : Nat → CallW} {gv : Glo}

noncomputable def risingI : List Int → Int → Int → Bool
  | [], _, _ => true
  | i :: xs, b, m => if b + 1 ≤ i ∧ i ≤ m - 1 then risingI xs i m else false
theorem risingD_ints : ∀ (ns : List Int) (b m : Int), risingD (ns.map .int) b m = risingI ns b m
  | [], _, _ => rfl
  | n :: ns, b, m => by
    rw [List.map_cons, risingD, risingI, risingD_ints ns]
    by_cases q : b + 1 ≤ n ∧ n ≤ m - 1
    · rw [if_pos q]; simp [wholeD, q]
    · rw [if_neg q, wholeD, ← Bool.decide_and, decide_eq_false q]; rfl

theorem is_deed_spec (hw : FnOk F gv "is_whole" d_is_whole) (hr : FnOk F gv "is_rising" d_is_rising) (h : FnOk F gv "is_deed" d_is_deed) {d : Nat} {e : Dat} {v : Val} {many : Int} {σ : Sto} {Q : KV} {E : KE} (hv : Has σ e v) (hs : sm 8 e = true)
   (hQ : ∀ σ', Ext σ σ' → Q (.bool (deedB e many)) σ') : F (d + 3) false "is_deed" [v, .int many] σ Q E := by
  refine FnOk.go h rfl ?_
  refine s_cons ?_; refine s_if ?_; refine r_or ?_; refine r_or2 ?_; refine r_not ?_; refine r_isi ?_; refine r_var (l_bind (l_bind (l_there rfl l_here))) ?_
  refine y_dl hv ?_
  refine t_bool ?_; refine t_bool ?_
  cases e with
  | list ds =>
    refine i_neg rfl ?_
    refine Classical.byContradiction fun hG => ?_
    obtain ⟨a, xs, rfl, ha, hxs⟩ := hv
    refine hG ?_
    clear hG
    have hl := hasL_len hxs
    obtain ⟨s1, s2⟩ := sm_list hs
    refine r_or1 ?_; refine r_cmp ?_; refine r_bcall ?_; refine r_cons ?_; refine r_var (l_bind (l_bind (l_there rfl l_here))) ?_; refine r_nil ?_; refine b_len (by assumption) ?_; refine r_var (l_bind (l_bind (l_bind0 l_here))) ?_; refine c_ne ?_; refine t_bool ?_
    rw [hl]
    by_cases q : (ds.length : Int) = many
    · rw [decide_eq_false (fun n => n q)]
      refine i_f ?_; refine s_nil ?_
      refine s_nxt ?_; refine s_cons ?_; refine s_ret ?_; refine r_bcall ?_; refine r_cons ?_; refine r_comp ?_; refine r_var (l_bind (l_bind (l_there rfl l_here))) ?_
      refine ⟨_, turns_list ha, by simp [lim]; omega, ?_⟩
      refine wpComp_of (D := fun r => r) (fun _ => true) (fun r => .bool (isRisD r many && !isNil r)) ds xs [] σ (by rw [List.map_id']; exact hxs) (fun σ' x => stay_list ha (x _ _ ha)) ?_ ?_ ?_
      · intro r _ v σ' x hv K' hK; exact hK σ' (.refl σ')
      · intro r hr' _ v σ' x hv K' hK
        refine r_and ?_; refine r_and2 ?_; refine r_call (FnOk.cf (by assumption)) ?_; refine r_cons ?_; refine r_var l_here ?_; refine r_cons ?_; refine r_var (l_there rfl (l_bind (l_bind (l_bind0 l_here)))) ?_; refine r_nil ?_
        refine is_rising_spec hw hr hv ?_
        refine t_bool ?_
        cases hb : isRisD r many with
        | false =>
          refine i_f ?_
          exact hK _ σ' (.refl _) (by rw [hb]; rfl)
        | true =>
          refine i_t ?_; refine r_and1 ?_; refine r_cmp ?_; refine r_var l_here ?_; refine r_list0 ?_
          exact ne_nilD (Q := fun b σ₁ => K' (.bool b) σ₁) hv (sm_ok 7 9 r (by omega) (s2 r hr')) fun σ'' x' => hK _ σ'' x' (by rw [hb]; rfl)
      · intro ys σ' x hys a' ha'
        rw [filter_tt] at hys
        refine r_nil ?_
        have hys' : ys = (ds.map fun r => isRisD r many && !isNil r).map .bool := by
          apply hasL_bools (σ := σ')
          rw [List.map_map]; exact hys
        refine bcall_all (bs := ds.map fun r => isRisD r many && !isNil r) (by rw [set_at, List.nil_append, hys']) ?_
        refine s_out ?_; refine k_ret ?_
        have := hQ (σ'.set a' (.list ([] ++ ys))) (x.trans (.set ha' _))
        rw [deedB, decide_eq_true q, Bool.true_and] at this
        rw [List.all_map]
        exact this
    · rw [decide_eq_true q]
      refine i_t ?_
      refine s_cons ?_; refine s_ret ?_; refine r_bool ?_; refine s_out ?_; refine s_out ?_; refine k_ret ?_
      have := hQ σ (.refl σ)
      rw [deedB, decide_eq_false q] at this
      exact this
  | none =>
    refine i_pos rfl ?_
    refine t_bool ?_
    refine i_pos rfl ?_
    refine s_cons ?_; refine s_ret ?_; refine r_bool ?_; refine s_out ?_; refine s_out ?_; refine k_ret ?_
    exact hQ σ (.refl σ)
  | bool _ =>
    refine i_pos rfl ?_
    refine t_bool ?_
    refine i_pos rfl ?_
    refine s_cons ?_; refine s_ret ?_; refine r_bool ?_; refine s_out ?_; refine s_out ?_; refine k_ret ?_
    exact hQ σ (.refl σ)
  | int _ =>
    refine i_pos rfl ?_
    refine t_bool ?_
    refine i_pos rfl ?_
    refine s_cons ?_; refine s_ret ?_; refine r_bool ?_; refine s_out ?_; refine s_out ?_; refine k_ret ?_
    exact hQ σ (.refl σ)
  | str _ =>
    refine i_pos rfl ?_
    refine t_bool ?_
    refine i_pos rfl ?_
    refine s_cons ?_; refine s_ret ?_; refine r_bool ?_; refine s_out ?_; refine s_out ?_; refine k_ret ?_
    exact hQ σ (.refl σ)
  | tup _ =>
    refine i_pos rfl ?_
    refine t_bool ?_
    refine i_pos rfl ?_
    refine s_cons ?_; refine s_ret ?_; refine r_bool ?_; refine s_out ?_; refine s_out ?_; refine k_ret ?_
    exact hQ σ (.refl σ)

noncomputable def cell (ns : List Int) (k : Nat) : Int := ns.getD k 0

theorem cell_spec (h : FnOk F gv "_law_cell" d_law_cell) {d : Nat} {l : Nat} {ns : List Int} {k : Nat} {σ : Sto} {Q : KV} {E : KE} (hσ : σ l = some (.ro (ns.map .int))) (hl : ns.length ≤ 63)
    (hQ : ∀ σ', Ext σ σ' → Q (.int (cell ns k)) σ') : F (d + 1) false "_law_cell" [.ref l, .int k] σ Q E := by
  refine FnOk.go h rfl ?_
  refine s_cons ?_; refine s_ret ?_; refine r_sub ?_; refine r_bin ?_; refine r_slice ?_; refine r_var (l_bind (l_bind (l_there rfl l_here))) ?_; refine r_var (l_bind (l_bind (l_bind0 l_here))) ?_; refine r_bin ?_; refine r_var (l_bind (l_bind (l_bind0 l_here))) ?_; refine r_int ?_; refine o_add ?_; refine r_none ?_
  simp only [sliceW, listOr, hσ, sliced, bnd]
  have hcut : cut (ns.map Val.int) ((max 0 (min (if (k : Int) < 0 then (k : Int) + ((ns.map Val.int).length : Nat) else (k : Int)) ((ns.map Val.int).length : Nat))).toNat) ((max 0 (min (if (k : Int) + 1 < 0 then (k : Int) + 1 + ((ns.map Val.int).length : Nat) else (k : Int) + 1) ((ns.map Val.int).length : Nat))).toNat) = ((ns.map Val.int).drop k).take 1 := by
    rw [if_neg (by omega), if_neg (by omega)]
    simp only [cut, List.length_map]
    by_cases q : k < ns.length
    · rw [show (max 0 (min (k : Int) (ns.length : Int))).toNat = k by omega, show (max 0 (min ((k : Int) + 1) (ns.length : Int))).toNat = k + 1 by omega, show k + 1 - k = 1 by omega]
    · rw [show (max 0 (min (k : Int) (ns.length : Int))).toNat = ns.length by omega, show (max 0 (min ((k : Int) + 1) (ns.length : Int))).toNat = ns.length by omega]
      rw [List.drop_of_length_le (by simp), List.drop_of_length_le (by simp; omega)]; simp
  rw [hcut]
  refine n_ob fun a1 h1 => ?_
  refine r_list ?_; refine r_cons ?_; refine r_int ?_; refine r_nil ?_
  refine n_lit rfl fun a2 h2 => ?_
  refine o_cat (Ext.set h2 _ _ _ (set_at _ _ _)) (set_at _ _ _) (by simp; omega) fun a3 h3 => ?_
  refine r_int ?_
  refine subW_list (set_at _ _ _) (x := .int (cell ns k)) ?_ (hQ _ (((Ext.set h1 _).trans (.set h2 _)).trans (.set h3 _)))
  rw [show (0 : Int) = ((0 : Nat) : Int) from rfl, getIdx_nat]
  unfold cell
  by_cases q : k < ns.length
  · rw [List.drop_eq_getElem_cons (by simpa using q)]
    simp [q]
  · rw [List.drop_of_length_le (by simp; omega)]
    simp [Nat.le_of_not_lt q]


noncomputable def intD (d : Dat) : Bool := match d with | .int _ => true | _ => false
theorem c_isnt {σ : Sto} {v : Val} {b : Bool} {K : Bool → Prop} (h : K (!decide (v = .bool b))) : cmpW .isNot v (.bool b) σ K := by cases v <;> exact h
theorem no_bool {σ : Sto} {e : Dat} {v : Val} {b : Bool} (hv : Has σ e v) (he : isB e = false) : (!decide (v = Val.bool b)) = true := by
  cases e with
  | bool _ => cases he
  | none => cases hv; rfl
  | int _ => cases hv; rfl
  | str _ => cases hv; rfl
  | list _ => obtain ⟨_, _, rfl, _⟩ := hv; rfl
  | tup _ => obtain ⟨_, _, rfl, _⟩ := hv; rfl
theorem law_int_spec (h : FnOk F gv "_law_int" d_law_int) {d : Nat} {hd : Bool} {e : Dat} {v : Val} {σ : Sto} {Q : KV} {E : KE} (hv : Has σ e v) (hQ : Q (.bool (intD e)) σ) : F (d + 1) hd "_law_int" [v] σ Q E := by
  refine FnOk.go h rfl ?_
  refine s_cons ?_; refine s_ret ?_; refine r_and ?_; refine r_and2 ?_; refine r_cmp ?_; refine r_var (l_bind (l_bind0 l_here)) ?_; refine r_bool ?_
  refine c_isnt ?_
  refine t_bool ?_
  by_cases hb : isB e = true
  · cases e with
    | bool b =>
      cases hv
      cases b
      · refine i_pos (by rfl) ?_
        refine r_and2 ?_; refine r_cmp ?_; refine r_var (l_bind (l_bind0 l_here)) ?_; refine r_bool ?_
        refine c_isnt ?_
        refine t_bool ?_
        refine i_neg (by rfl) ?_
        refine s_out ?_; refine k_ret ?_
        exact hQ
      · refine i_neg (by rfl) ?_
        refine s_out ?_; refine k_ret ?_
        exact hQ
    | none => cases hb
    | int _ => cases hb
    | str _ => cases hb
    | list _ => cases hb
    | tup _ => cases hb
  · have hb : isB e = false := by simpa using hb
    refine i_pos (no_bool hv hb) ?_
    refine r_and2 ?_; refine r_cmp ?_; refine r_var (l_bind (l_bind0 l_here)) ?_; refine r_bool ?_
    refine c_isnt ?_
    refine t_bool ?_
    refine i_pos (no_bool hv hb) ?_
    refine r_and1 ?_; refine r_isi ?_; refine r_var (l_bind (l_bind0 l_here)) ?_
    refine y_di hv ?_
    refine s_out ?_; refine k_ret ?_
    cases e with
    | bool _ => cases hb
    | _ => exact hQ
end BP

/-! ## GSpec3 -/
set_option linter.unusedVariables false
set_option linter.unusedSimpArgs false
namespace BP
open PySem
variable {F : Nat → CallW} {gv : Glo}

@[simp] theorem binW_fdiv (i j : Int) (σ : Sto) (Q : KV) : binW .fdiv (.int i) (.int j) σ Q = (0 < j ∧ j ≤ lim ∧ Q (.int (i / j)) σ) := rfl
@[simp] theorem binW_mod (i j : Int) (σ : Sto) (Q : KV) : binW .mod (.int i) (.int j) σ Q = (0 < j ∧ j ≤ lim ∧ Q (.int (i % j)) σ) := rfl
@[simp] theorem binW_mul (i j : Int) (σ : Sto) (Q : KV) : binW .mul (.int i) (.int j) σ Q = (((-lim ≤ i ∧ i ≤ lim) ∨ (-lim ≤ j ∧ j ≤ lim)) ∧ Q (.int (i * j)) σ) := rfl
theorem limI : (lim : Int) = 1000000 := rfl

theorem mem_irange {lo hi i : Int} : i ∈ irange lo hi ↔ lo ≤ i ∧ i < hi := by
  simp only [irange, List.mem_map, List.mem_range]
  constructor
  · rintro ⟨k, h1, rfl⟩; omega
  · rintro ⟨h1, h2⟩; exact ⟨(i - lo).toNat, by omega, by omega⟩
theorem turns_range {σ : Sto} {a : Nat} {lo hi : Int} (h : σ a = some (.range lo hi)) : turnsOf σ (.ref a) 1 = some (((irange lo hi).map Val.int).map fun v => [v]) := by simp [turnsOf, h, List.map_map, Function.comp_def]
theorem stay_range {σ σ' : Sto} {a : Nat} {lo hi : Int} (h : σ a = some (.range lo hi)) (h' : σ' a = some (.range lo hi)) : stay σ (.ref a) 1 (((irange lo hi).map Val.int).map fun v => [v]) σ' := ⟨fun b e => by cases e; rw [h, h'], turns_range h'⟩

/-- a comprehension over range(n) -/
theorem range_comp_ok {C : Loc → Sto → (Bool → Sto → Prop) → Prop} {B : Loc → Sto → KV → Prop} {x : String} {ρ : Loc} {σ : Sto} {Q : KV} {n : Int} (h0 : 0 ≤ n) (h1 : n ≤ 1000) (p : Int → Bool) (g : Int → Dat)
    (hC : ∀ i, 0 ≤ i → i < n → ∀ σ', Ext σ σ' → ∀ K' : Bool → Sto → Prop, (∀ σ'', Ext σ' σ'' → K' (p i) σ'') → C (upd ρ x (.int i)) σ' K')
    (hB : ∀ i, 0 ≤ i → i < n → p i = true → ∀ σ', Ext σ σ' → ∀ K' : KV, (∀ y σ'', Ext σ' σ'' → HasF (new σ) σ'' (g i) y → K' y σ'') → B (upd ρ x (.int i)) σ' K')
    (hK : ∀ v σ', Ext σ σ' → HasF (new σ) σ' (.list (((irange 0 n).filter p).map g)) v → Q v σ') :
    bcallW .range [.int n] σ (fun v σ₁ => ∃ turns, turnsOf σ₁ v 1 = some turns ∧ turns.length ≤ lim ∧ wpComp C B (stay σ₁ v 1 turns) [x] turns [] ρ σ₁ (fun ys σ' => newW σ' (.list ys) Q)) := by
  refine ⟨by rw [limI]; omega, by rw [limI]; omega, fun a ha => ?_⟩
  have hr : (σ.set a (.range 0 n)) a = some (.range 0 n) := set_at _ _ _
  have e0 : Ext σ (σ.set a (.range 0 n)) := .set ha _
  refine ⟨_, turns_range hr, by simp [irange, lim]; omega, ?_⟩
  refine wpComp_ok (new σ) (D := fun i : Int => Dat.int i) p g (irange 0 n) _ [] _ (hasL_ints) (fun σ' e => stay_range hr (e _ _ hr)) ?_ ?_ ?_
  · intro i hi v σ' e hv K' hK'
    cases hv
    exact hC i (mem_irange.mp hi).1 (mem_irange.mp hi).2 σ' (e0.trans e) K' hK'
  · intro i hi hp v σ' e hv K' hK'
    cases hv
    exact hB i (mem_irange.mp hi).1 (mem_irange.mp hi).2 hp σ' (e0.trans e) K' hK'
  · intro ys σ' e hys b hb
    exact hK _ _ ((e0.trans e).trans (.set hb _)) (by rw [List.nil_append]; exact newF_list hb ((e0.trans e).new hb) hys)

theorem range_comp {C : Loc → Sto → (Bool → Sto → Prop) → Prop} {B : Loc → Sto → KV → Prop} {x : String} {ρ : Loc} {σ : Sto} {Q : KV} {n : Int} (h0 : 0 ≤ n) (h1 : n ≤ 1000) (p : Int → Bool) (g : Int → Int)
    (hC : ∀ i, 0 ≤ i → i < n → ∀ σ', Ext σ σ' → ∀ K' : Bool → Sto → Prop, (∀ σ'', Ext σ' σ'' → K' (p i) σ'') → C (upd ρ x (.int i)) σ' K')
    (hB : ∀ i, 0 ≤ i → i < n → p i = true → ∀ σ', Ext σ σ' → ∀ K' : KV, (∀ σ'', Ext σ' σ'' → K' (.int (g i)) σ'') → B (upd ρ x (.int i)) σ' K')
    (hK : ∀ v σ', Ext σ σ' → HasF (new σ) σ' (ilist (((irange 0 n).filter p).map g)) v → Q v σ') :
    bcallW .range [.int n] σ (fun v σ₁ => ∃ turns, turnsOf σ₁ v 1 = some turns ∧ turns.length ≤ lim ∧ wpComp C B (stay σ₁ v 1 turns) [x] turns [] ρ σ₁ (fun ys σ' => newW σ' (.list ys) Q)) := by
  refine range_comp_ok h0 h1 p (fun i => .int (g i)) hC (fun i q0 q1 hp σ' e K' h => hB i q0 q1 hp σ' e K' fun σ'' e' => h _ σ'' e' rfl) fun v σ' e hv => hK v σ' e ?_
  simpa [ilist, List.map_map, Function.comp_def] using hv

theorem rising_of {l : List Int} {b m : Int} (h1 : l.Pairwise (· < ·)) (h2 : ∀ i ∈ l, b < i ∧ i < m) : risingI l b m = true := by
  induction l generalizing b with
  | nil => rfl
  | cons i l ih =>
    obtain ⟨h3, h4⟩ := List.pairwise_cons.mp h1
    have := h2 i (by simp)
    simp only [risingI]
    rw [if_pos (by omega)]
    exact ih h4 fun j hj => ⟨h3 j hj, (h2 j (by simp [hj])).2⟩
theorem irange_lt (lo hi : Int) : (irange lo hi).Pairwise (· < ·) := by
  unfold irange
  rw [List.pairwise_map]
  exact List.Pairwise.imp (fun h => by omega) List.pairwise_lt_range
theorem rising_filter (p : Int → Bool) (n : Int) : risingI ((irange 0 n).filter p) (-1) n = true := by
  refine rising_of (List.Pairwise.filter _ (irange_lt 0 n)) fun i hi => ?_
  have := mem_irange.mp (List.mem_filter.mp hi).1
  omega

/-- a room list of a house of that many rooms -/
noncomputable def Rooms (many : Int) (ns : List Int) : Prop := risingI ns (-1) many = true
theorem rooms_one {many i : Int} (h0 : 0 ≤ i) (h1 : i < many) : Rooms many [i] := by
  simp [Rooms, risingI]; omega

theorem law_to_spec (h : FnOk F gv "_law_to" d_law_to) {d : Nat} {c room many : Int} {σ : Sto} {Q : KV} {E : KE} (h0 : 0 ≤ room) (h1 : room < many) (h2 : many ≤ 8)
    (hQ : ∀ ns v σ', Ext σ σ' → Rooms many ns → ns ≠ [] → HasF (new σ) σ' (ilist ns) v → Q v σ') : F (d + 1) false "_law_to" [.int c, .int room, .int many] σ Q E := by
  have one : ∀ (i : Int), 0 ≤ i → i < many → [Val.int i].length ≤ lim ∧ newW σ (.list [.int i]) Q := fun i h3 h4 => ⟨by simp [lim], fun a ha => hQ [i] _ _ (.set ha _) (rooms_one h3 h4) (by simp) (newF_list (ds := [.int i]) ha ha (HasFL.cons.mpr ⟨rfl, HasFL.nil⟩))⟩
  have hm : ∀ x : Int, 0 ≤ x % many ∧ x % many < many := fun x => ⟨Int.emod_nonneg _ (by omega), Int.emod_lt_of_pos _ (by omega)⟩
  have mp : 0 < many := by omega
  have ml : many ≤ 1000000 := by omega
  refine FnOk.go h rfl ?_
  refine s_cons ?_; refine s_assign ?_; refine r_bin ?_; refine r_bin ?_; refine r_bin ?_; refine r_bin ?_; refine r_var (l_bind (l_bind (l_bind (l_there rfl (l_there rfl l_here))))) ?_; refine r_int ?_; refine o_fdiv rfl ?_; refine r_int ?_; refine o_mulr rfl ?_; refine r_bin ?_; refine r_bin ?_; refine r_var (l_bind (l_bind (l_bind (l_there rfl l_here)))) ?_; refine r_bin ?_; refine r_int ?_; refine r_bin ?_; refine r_var (l_bind (l_bind (l_bind (l_there rfl (l_there rfl l_here))))) ?_; refine r_int ?_; refine o_mod rfl ?_; refine o_add ?_
  refine o_mul (.inl (by rw [limI]; omega)) ?_
  refine r_int ?_; refine o_mulr rfl ?_; refine o_add ?_; refine r_int ?_; refine o_mod rfl ?_
  refine s_nxt ?_; refine s_cons ?_; refine s_if ?_; refine r_cmp ?_; refine r_bin ?_; refine r_var (l_there rfl (l_bind (l_bind (l_bind (l_there rfl (l_there rfl l_here)))))) ?_; refine r_int ?_; refine o_mod rfl ?_; refine r_int ?_; refine c_eq ?_; refine t_bool ?_
  refine i_dec (fun c0 => ?_) fun c0 => ?_
  · refine s_cons ?_; refine s_ret ?_; refine r_list ?_; refine r_cons ?_; refine r_bin ?_; refine r_bin ?_; refine r_bin ?_; refine r_var (l_there rfl (l_bind (l_bind (l_bind (l_there rfl l_here))))) ?_; refine r_int ?_; refine o_add ?_; refine r_bin ?_; refine r_var (l_there rfl (l_bind (l_bind (l_bind (l_there rfl (l_there rfl l_here)))))) ?_; refine r_int ?_; refine o_fdiv rfl ?_; refine o_add ?_; refine r_var (l_there rfl (l_bind (l_bind (l_bind (l_bind0 l_here))))) ?_
    refine o_modn mp ml ?_
    refine r_nil ?_
    exact one _ (hm _).1 (hm _).2
  refine s_nil ?_
  refine s_nxt ?_; refine s_cons ?_; refine s_if ?_; refine r_cmp ?_; refine r_bin ?_; refine r_var (l_there rfl (l_bind (l_bind (l_bind (l_there rfl (l_there rfl l_here)))))) ?_; refine r_int ?_; refine o_mod rfl ?_; refine r_int ?_; refine c_eq ?_; refine t_bool ?_
  refine i_dec (fun c1 => ?_) fun c1 => ?_
  · refine s_cons ?_; refine s_ret ?_; refine r_list ?_; refine r_cons ?_; refine r_bcall ?_; refine r_cons ?_; refine r_int ?_; refine r_cons ?_; refine r_bin ?_; refine r_bin ?_; refine r_var (l_there rfl (l_bind (l_bind (l_bind (l_there rfl l_here))))) ?_; refine r_int ?_; refine o_sub ?_; refine r_bin ?_; refine r_bin ?_; refine r_var (l_there rfl (l_bind (l_bind (l_bind (l_there rfl (l_there rfl l_here)))))) ?_; refine r_int ?_; refine o_fdiv rfl ?_; refine r_int ?_; refine o_mod rfl ?_; refine o_sub ?_; refine r_nil ?_; refine b_max ?_; refine r_nil ?_
    exact one _ (by omega) (by omega)
  refine s_nil ?_
  refine s_nxt ?_; refine s_cons ?_; refine s_if ?_; refine r_cmp ?_; refine r_bin ?_; refine r_var (l_there rfl (l_bind (l_bind (l_bind (l_there rfl (l_there rfl l_here)))))) ?_; refine r_int ?_; refine o_mod rfl ?_; refine r_int ?_; refine c_lt ?_; refine t_bool ?_
  refine i_dec (fun c4 => ?_) fun c4 => ?_
  · refine s_cons ?_; refine s_ret ?_; refine r_list ?_; refine r_cons ?_; refine r_bin ?_; refine r_var l_here ?_; refine r_var (l_there rfl (l_bind (l_bind (l_bind (l_bind0 l_here))))) ?_
    refine o_modn mp ml ?_
    refine r_nil ?_
    exact one _ (hm _).1 (hm _).2
  refine s_nil ?_
  have fin : ∀ (p : Int → Bool), p room = true → ∀ v σ', Ext σ σ' → HasF (new σ) σ' (ilist (((irange 0 many).filter p).map id)) v → Q v σ' := fun p hp v σ' e hv => by
    rw [List.map_id] at hv
    refine hQ _ v σ' e (rising_filter p many) ?_ hv
    intro q
    have : room ∈ (irange 0 many).filter p := List.mem_filter.mpr ⟨mem_irange.mpr ⟨h0, h1⟩, hp⟩
    rw [q] at this; simp at this
  refine s_nxt ?_; refine s_cons ?_; refine s_if ?_; refine r_cmp ?_; refine r_bin ?_; refine r_var (l_there rfl (l_bind (l_bind (l_bind (l_there rfl (l_there rfl l_here)))))) ?_; refine r_int ?_; refine o_mod rfl ?_; refine r_int ?_; refine c_eq ?_; refine t_bool ?_
  refine i_dec (fun c5 => ?_) fun c5 => ?_
  · refine s_cons ?_; refine s_ret ?_; refine r_comp ?_; refine r_bcall ?_; refine r_cons ?_; refine r_var (l_there rfl (l_bind (l_bind (l_bind (l_bind0 l_here))))) ?_; refine r_nil ?_
    refine range_comp (by omega) (by omega) (fun i => decide (i = room) || decide (i = (c / 6 * 48271 + room * (7 + c % 101) * 31) % 65537 % many)) id ?_ ?_ (fin _ (by simp))
    · intro i _ _ σ' e K' hK
      have := hK σ' (.refl σ')
      refine r_if1 ?_; refine r_or ?_; refine r_or2 ?_; refine r_cmp ?_; refine r_var l_here ?_; refine r_var (l_there rfl (l_there rfl (l_bind (l_bind (l_bind (l_there rfl l_here)))))) ?_; refine c_eq ?_; refine t_bool ?_
      refine i_dec (fun q => ?_) fun q => ?_
      · refine t_bool ?_
        refine i_pos (decide_eq_true q) ?_
        refine r_if0 ?_
        simpa [q] using this
      · refine r_or1 ?_; refine r_cmp ?_; refine r_var l_here ?_; refine r_bin ?_; refine r_var (l_there rfl l_here) ?_; refine r_var (l_there rfl (l_there rfl (l_bind (l_bind (l_bind (l_bind0 l_here)))))) ?_
        refine o_modn mp ml ?_
        refine c_eq ?_; refine t_bool ?_
        refine i_dec (fun q' => ?_) fun q' => ?_
        · refine r_if0 ?_
          simpa [q'] using this
        · simpa [q, q'] using this
    · intro i _ _ _ σ' e K' hK
      refine r_var l_here ?_
      exact hK σ' (.refl σ')
  · refine s_nil ?_
    refine s_nxt ?_; refine s_cons ?_; refine s_ret ?_; refine r_comp ?_; refine r_bcall ?_; refine r_cons ?_; refine r_var (l_there rfl (l_bind (l_bind (l_bind (l_bind0 l_here))))) ?_; refine r_nil ?_
    refine range_comp (by omega) (by omega) (fun i => decide (i = room) || decide ((c / 6 * 48271 + room * (7 + c % 101) * 31) % 65537 / (i + 1) % 3 = 0)) id ?_ ?_ (fin _ (by simp))
    · intro i _ _ σ' e K' hK
      have := hK σ' (.refl σ')
      refine r_if1 ?_; refine r_or ?_; refine r_or2 ?_; refine r_cmp ?_; refine r_var l_here ?_; refine r_var (l_there rfl (l_there rfl (l_bind (l_bind (l_bind (l_there rfl l_here)))))) ?_; refine c_eq ?_; refine t_bool ?_
      refine i_dec (fun q => ?_) fun q => ?_
      · refine t_bool ?_
        refine i_pos (decide_eq_true q) ?_
        refine r_if0 ?_
        simpa [q] using this
      · refine r_or1 ?_; refine r_cmp ?_; refine r_bin ?_; refine r_bin ?_; refine r_var (l_there rfl l_here) ?_; refine r_bin ?_; refine r_var l_here ?_; refine r_int ?_; refine o_add ?_
        refine o_fdivn (by omega) (by omega) ?_
        refine r_int ?_; refine o_mod rfl ?_; refine r_int ?_; refine c_eq ?_; refine t_bool ?_
        refine i_dec (fun q' => ?_) fun q' => ?_
        · refine r_if0 ?_
          simpa [q'] using this
        · simpa [q, q'] using this
    · intro i _ _ _ σ' e K' hK
      refine r_var l_here ?_
      exact hK σ' (.refl σ')
end BP

/-! ## GSpec4 -/
set_option linter.unusedVariables false
set_option linter.unusedSimpArgs false
namespace BP
open PySem
variable {F : Nat → CallW} {gv : Glo}

/-- an item of a list of ints -/
theorem subW_ints {σ : Sto} {a : Nat} {ns : List Int} {k : Int} {Q : KV} (hσ : σ a = some (.list (ns.map .int))) (h0 : 0 ≤ k) (h1 : k < ns.length) (hQ : ∀ i, i ∈ ns → ns[k.toNat]? = some i → Q (.int i) σ) : subW (.ref a) (.int k) σ Q := by
  obtain ⟨j, rfl⟩ := Int.eq_ofNat_of_zero_le h0
  have hj : j < ns.length := by omega
  refine subW_list hσ (x := .int ns[j]) (by rw [getIdx_nat]; simp [hj]) (hQ _ (List.getElem_mem hj) (by simp [hj]))

noncomputable def LooksOk (many : Int) (ls : List Int) : Prop := (ls.length : Int) = many ∧ ∀ l ∈ ls, 0 ≤ l ∧ l ≤ 9

theorem law_looks_spec (hc : FnOk F gv "_law_cell" d_law_cell) (h : FnOk F gv "_law_looks" d_law_looks) {d : Nat} {l : Nat} {ns : List Int} {many : Int} {σ : Sto} {Q : KV} {E : KE} (hσ : σ l = some (.ro (ns.map .int))) (hl : ns.length ≤ 63) (h1 : 1 ≤ many) (h2 : many ≤ 8)
    (hQ : ∀ ls v σ', Ext σ σ' → LooksOk many ls → Has σ' (ilist ls) v → Q v σ') : F (d + 2) false "_law_looks" [.ref l, .int many] σ Q E := by
  refine FnOk.go h rfl ?_
  refine s_cons ?_; refine s_assign ?_; refine r_sub ?_; refine r_list ?_; refine r_cons ?_; refine r_int ?_; refine r_cons ?_; refine r_int ?_; refine r_cons ?_; refine r_int ?_; refine r_cons ?_; refine r_int ?_; refine r_cons ?_; refine r_int ?_; refine r_cons ?_; refine r_int ?_; refine r_cons ?_; refine r_int ?_; refine r_cons ?_; refine r_int ?_; refine r_nil ?_
  refine n_lit rfl fun a1 ha1 => ?_
  refine r_bin ?_; refine r_bin ?_; refine r_call (FnOk.cf (by assumption)) ?_; refine r_cons ?_; refine r_var (l_bind (l_bind (l_there rfl l_here))) ?_; refine r_cons ?_; refine r_int ?_; refine r_nil ?_
  refine cell_spec hc (k := 0) (Ext.set ha1 _ _ _ hσ) hl fun σ1 e1 => ?_
  refine r_int ?_; refine o_fdiv rfl ?_; refine r_int ?_; refine o_mod rfl ?_
  have g1 : σ1 a1 = some (.list ([1, 2, 3, 2, 3, 4, 5, 9].map .int)) := e1 _ _ (set_at _ _ _)
  refine subW_ints g1 (by omega) (by simp; omega) fun kinds hk _ => ?_
  have hk : 1 ≤ kinds ∧ kinds ≤ 9 := by simp at hk; omega
  have E1 := (Ext.set ha1 _).trans e1
  refine s_nxt ?_; refine s_cons ?_; refine s_assign ?_; refine r_call (FnOk.cf (by assumption)) ?_; refine r_cons ?_; refine r_var (l_there rfl (l_bind (l_bind (l_there rfl l_here)))) ?_; refine r_cons ?_; refine r_int ?_; refine r_nil ?_
  refine cell_spec hc (k := 1) (E1 _ _ hσ) hl fun σ2 e2 => ?_
  refine s_nxt ?_; refine s_cons ?_; refine s_assign ?_; refine r_sub ?_; refine r_list ?_; refine r_cons ?_; refine r_int ?_; refine r_cons ?_; refine r_int ?_; refine r_cons ?_; refine r_int ?_; refine r_cons ?_; refine r_int ?_; refine r_nil ?_
  refine n_lit rfl fun a3 ha3 => ?_
  refine r_bin ?_; refine r_bin ?_; refine r_var l_here ?_; refine r_int ?_; refine o_fdiv rfl ?_; refine r_int ?_; refine o_mod rfl ?_
  refine subW_ints (ns := [3, 1, 7, 9]) (set_at _ _ _) (by omega) (by simp; omega) fun step hs _ => ?_
  have hs : 1 ≤ step ∧ step ≤ 9 := by simp at hs; omega
  have E3 := (E1.trans e2).trans (Ext.set ha3 (.list [.int 3, .int 1, .int 7, .int 9]))
  refine s_nxt ?_; refine s_cons ?_; refine s_assign ?_; refine r_bin ?_; refine r_call (FnOk.cf (by assumption)) ?_; refine r_cons ?_; refine r_var (l_there rfl (l_there rfl (l_there rfl (l_bind (l_bind (l_there rfl l_here)))))) ?_; refine r_cons ?_; refine r_int ?_; refine r_nil ?_
  refine cell_spec hc (k := 2) (E3 _ _ hσ) hl fun σ4 e4 => ?_
  refine r_int ?_; refine o_mulr rfl ?_
  have E4 := E3.trans e4
  -- the picks are taken once more by their length alone
  have last : ∀ (ps : List Int) (v : Val) (σ5 : Sto) (base : Int) (ρ : Loc) (C : Loc → Sto → (Bool → Sto → Prop) → Prop) (B : Loc → Sto → KV → Prop), Ext σ σ5 → (ps.length : Int) = many → Has σ5 (ilist ps) v → (∀ ρ' σ' K, K true σ' → C ρ' σ' K) →
      (∀ i σ' K, K (.int ((base + step * i) % 10)) σ' → B (upd ρ "_law_pick" (.int i)) σ' K) →
      ∃ turns, turnsOf σ5 v 1 = some turns ∧ turns.length ≤ lim ∧ wpComp C B (stay σ5 v 1 turns) ["_law_pick"] turns [] ρ σ5 (fun ys σ' => newW σ' (.list ys) fun v σ₁ => Kh Q (.ret v) ρ σ₁) := by
    intro ps v σ5 base ρ C B E5 hps hv hC hB
    obtain ⟨a, rfl, ha⟩ := ilist_has.mp hv
    refine ⟨_, turns_list ha, by simp [lim]; omega, ?_⟩
    refine wpComp_of (D := fun i : Int => Dat.int i) (fun _ => true) (fun i => .int ((base + step * i) % 10)) ps _ [] _ hasL_ints (fun σ' e => stay_list ha (e _ _ ha)) ?_ ?_ ?_
    · intro i _ v σ' e hv K' hK; exact hC _ _ _ (hK σ' (.refl σ'))
    · intro i _ _ v σ' e hv K' hK
      cases hv
      exact hB i σ' K' (hK _ σ' (.refl σ') rfl)
    · intro ys σ' e hys b hb
      rw [filter_tt] at hys
      refine hQ (ps.map fun i => (base + step * i) % 10) _ _ ((E5.trans e).trans (.set hb _)) ⟨by simp [hps], fun l hl' => ?_⟩ ?_
      · obtain ⟨i, _, rfl⟩ := List.mem_map.mp hl'
        exact ⟨Int.emod_nonneg _ (by omega), by have := Int.emod_lt_of_pos (base + step * i) (show (0 : Int) < 10 by omega); omega⟩
      · rw [List.nil_append]
        have := has_new_list (a := b) hb hys
        simpa [ilist, List.map_map, Function.comp_def] using this
  have len0 : ∀ p : Int → Bool, (∀ i, p i = true) → (((irange 0 many).filter p).length : Int) = many := fun p hp => by
    rw [List.filter_eq_self.mpr fun i _ => hp i]; simp [irange]; omega
  refine s_nxt ?_; refine s_cons ?_; refine s_assign ?_; refine r_comp ?_; refine r_bcall ?_; refine r_cons ?_; refine r_var (l_there rfl (l_there rfl (l_there rfl (l_there rfl (l_bind (l_bind (l_bind0 l_here))))))) ?_; refine r_nil ?_
  refine range_comp (by omega) (by omega) (fun _ => true) (fun room => (cell ns 2 * 48271 + room * room * 7919) / ([1, 3, 9, 27, 81, 243, 729, 2187].getD room.toNat 1) % kinds) ?_ ?_ ?_
  · intro i _ _ σ' e K' hK; exact hK σ' (.refl σ')
  · intro i hi0 hi1 _ σ' e K' hK
    refine r_bin ?_; refine r_bin ?_; refine r_bin ?_; refine r_var (l_there rfl l_here) ?_; refine r_bin ?_; refine r_bin ?_; refine r_var l_here ?_; refine r_var l_here ?_
    refine o_mul (.inl (by rw [limI]; omega)) ?_
    refine r_int ?_; refine o_mulr rfl ?_; refine o_add ?_; refine r_sub ?_; refine r_list ?_; refine r_cons ?_; refine r_int ?_; refine r_cons ?_; refine r_int ?_; refine r_cons ?_; refine r_int ?_; refine r_cons ?_; refine r_int ?_; refine r_cons ?_; refine r_int ?_; refine r_cons ?_; refine r_int ?_; refine r_cons ?_; refine r_int ?_; refine r_cons ?_; refine r_int ?_; refine r_nil ?_
    refine n_lit rfl fun a5 ha5 => ?_
    refine r_var l_here ?_
    refine subW_ints (ns := [1, 3, 9, 27, 81, 243, 729, 2187]) (set_at _ _ _) hi0 (by simp; omega) fun den hd hd' => ?_
    have hden : 1 ≤ den ∧ den ≤ 2187 := by simp at hd; omega
    refine o_fdivn (by omega) (by omega) ?_
    refine r_var (l_there rfl (l_there rfl (l_there rfl (l_there rfl l_here)))) ?_
    refine o_modn (by omega) (by omega) ?_
    have hk5 := hK _ (.set ha5 (.list [.int 1, .int 3, .int 9, .int 27, .int 81, .int 243, .int 729, .int 2187]))
    rw [List.getD_eq_getElem?_getD, hd'] at hk5
    exact hk5
  · intro v σ5 e5 hv
    refine s_nxt ?_; refine s_cons ?_; refine s_if ?_; refine r_cmp ?_; refine r_var (l_there rfl (l_there rfl (l_there rfl (l_there rfl l_here)))) ?_; refine r_int ?_; refine c_eq ?_; refine t_bool ?_
    refine i_dec (fun q => ?_) fun q => ?_
    · refine s_cons ?_; refine s_assign ?_; refine r_comp ?_; refine r_bcall ?_; refine r_cons ?_; refine r_var (l_there rfl (l_there rfl (l_there rfl (l_there rfl (l_there rfl (l_bind (l_bind (l_bind0 l_here)))))))) ?_; refine r_nil ?_
      refine range_comp (by omega) (by omega) (fun _ => true) id ?_ ?_ ?_
      · intro i _ _ σ' e K' hK; exact hK σ' (.refl σ')
      · intro i _ _ _ σ' e K' hK
        refine r_var l_here ?_
        exact hK σ' (.refl σ')
      · intro v σ6 e6 hv6
        rw [List.map_id] at hv6
        refine s_nxt ?_; refine s_nil ?_
        refine s_nxt ?_; refine s_cons ?_; refine s_ret ?_; refine r_comp ?_; refine r_var l_here ?_
        refine last ((irange 0 many).filter fun _ => true) v σ6 (cell ns 1) _ _ _ ((E4.trans e5).trans e6) (len0 _ fun _ => rfl) hv6.has (fun _ _ _ h => h) fun i σ' K hK => ?_
        refine r_bin ?_; refine r_bin ?_; refine r_var (l_there rfl (l_there rfl (l_there rfl (l_there rfl (l_there rfl l_here))))) ?_; refine r_bin ?_; refine r_var (l_there rfl (l_there rfl (l_there rfl (l_there rfl l_here)))) ?_; refine r_var l_here ?_
        refine o_mul (.inl (by rw [limI]; omega)) ?_
        refine o_add ?_; refine r_int ?_; refine o_mod rfl ?_
        exact hK
    · refine s_nil ?_
      refine s_nxt ?_; refine s_cons ?_; refine s_ret ?_; refine r_comp ?_; refine r_var l_here ?_
      refine last _ v σ5 (cell ns 1) _ _ _ (E4.trans e5) (by rw [List.length_map]; exact len0 _ fun _ => rfl) hv.has (fun _ _ _ h => h) fun i σ' K hK => ?_
      refine r_bin ?_; refine r_bin ?_; refine r_var (l_there rfl (l_there rfl (l_there rfl (l_there rfl l_here)))) ?_; refine r_bin ?_; refine r_var (l_there rfl (l_there rfl (l_there rfl l_here))) ?_; refine r_var l_here ?_
      refine o_mul (.inl (by rw [limI]; omega)) ?_
      refine o_add ?_; refine r_int ?_; refine o_mod rfl ?_
      exact hK
end BP

/-! ## GSpec5 -/
set_option linter.unusedVariables false
set_option linter.unusedSimpArgs false
namespace BP
open PySem
variable {F : Nat → CallW} {gv : Glo}

noncomputable def pows : List Int := [1, 2, 4, 8, 16, 32, 64, 128]
noncomputable def bit (bits i : Int) : Bool := decide (bits / pows.getD i.toNat 1 % 2 = 1)

theorem rooms_head {many i : Int} {ns : List Int} (h : Rooms many (i :: ns)) : 0 ≤ i ∧ i < many := by
  simp only [Rooms, risingI] at h
  split at h
  · omega
  · cases h

/-- whether a room's bit is set -/
theorem bit_test {σ' : Sto} {i bits : Int} {K' : Bool → Sto → Prop} (h0 : 0 ≤ i) (h8 : i < 8) (hK : ∀ σ'', Ext σ' σ'' → K' (bit bits i) σ'') :
    newW σ' (.list [.int 1, .int 2, .int 4, .int 8, .int 16, .int 32, .int 64, .int 128]) fun v σ₁ => subW v (.int i) σ₁ fun b σ₂ => binW .fdiv (.int bits) b σ₂ fun a σ₁ => binW .mod a (.int 2) σ₁ fun v σ₁ => cmpW .eq v (.int 1) σ₁ fun b => if b = true then K' true σ₁ else K' false σ₁ := by
  intro a ha
  refine subW_ints (ns := pows) (set_at _ _ _) h0 (by simp [pows]; omega) fun den hd hd' => ?_
  have hden : 1 ≤ den ∧ den ≤ 128 := by simp [pows] at hd; omega
  refine o_fdivn (by omega) (by omega) ?_
  refine o_mod rfl ?_; refine c_eq ?_
  have := hK _ (.set ha (.list [.int 1, .int 2, .int 4, .int 8, .int 16, .int 32, .int 64, .int 128]))
  unfold bit at this
  rw [List.getD_eq_getElem?_getD, hd'] at this
  refine i_dec (fun q => ?_) fun q => ?_
  · rw [Option.getD_some, decide_eq_true q] at this; exact this
  · rw [Option.getD_some, decide_eq_false q] at this; exact this

end BP

/-! ## GSpec6 -/
set_option linter.unusedVariables false
set_option linter.unusedSimpArgs false
namespace BP
open PySem
variable {F : Nat → CallW} {gv : Glo}

noncomputable def DeedOk (many : Int) (rows : List (List Int)) : Prop := (rows.length : Int) = many ∧ ∀ ns ∈ rows, Rooms many ns ∧ ns ≠ []
noncomputable def deedD (rows : List (List Int)) : Dat := .list (rows.map ilist)
structure HouseOk (many : Int) (looks : List Int) (deeds : List (List (List Int))) (wished : List Int) : Prop where
  many1 : 1 ≤ many
  many8 : many ≤ 8
  looks : LooksOk many looks
  count : 1 ≤ deeds.length ∧ deeds.length ≤ 5
  deeds : ∀ rows ∈ deeds, DeedOk many rows
  wished : Rooms many wished
noncomputable def houseD (looks : List Int) (deeds : List (List (List Int))) (wished : List Int) : Dat := .tup [ilist looks, .list (deeds.map deedD), ilist wished]

/-- one deed, room by room -/
theorem rows_comp {C : Loc → Sto → (Bool → Sto → Prop) → Prop} {B : Loc → Sto → KV → Prop} {ρ : Loc} {σ : Sto} {Q : KV} {many : Int} (h1 : 1 ≤ many) (h2 : many ≤ 8) (hC : ∀ ρ' σ' K, K true σ' → C ρ' σ' K)
    (hB : ∀ i σ' K, 0 ≤ i → i < many → (∀ ns v σ'', Ext σ' σ'' → Rooms many ns → ns ≠ [] → HasF (new σ') σ'' (ilist ns) v → K v σ'') → B (upd ρ "_law_room" (.int i)) σ' K)
    (hQ : ∀ rows v σ', Ext σ σ' → DeedOk many rows → HasF (new σ) σ' (deedD rows) v → Q v σ') :
    bcallW .range [.int many] σ (fun v σ₁ => ∃ turns, turnsOf σ₁ v 1 = some turns ∧ turns.length ≤ lim ∧ wpComp C B (stay σ₁ v 1 turns) ["_law_room"] turns [] ρ σ₁ (fun ys σ' => newW σ' (.list ys) Q)) := by
  refine ⟨by rw [limI]; omega, by rw [limI]; omega, fun a ha => ?_⟩
  have hr : (σ.set a (.range 0 many)) a = some (.range 0 many) := set_at _ _ _
  refine ⟨_, turns_range hr, by simp [irange, lim]; omega, ?_⟩
  have key : ∀ (l : List Int) (acc : List Val) (rows : List (List Int)) (σ1 : Sto), (∀ i ∈ l, 0 ≤ i ∧ i < many) → Ext (σ.set a (.range 0 many)) σ1 → HasFL (new σ) σ1 (rows.map ilist) acc → (∀ ns ∈ rows, Rooms many ns ∧ ns ≠ []) → ((rows.length + l.length : Nat) : Int) = many →
      wpComp C B (stay (σ.set a (.range 0 many)) (.ref a) 1 (((irange 0 many).map Val.int).map fun v => [v])) ["_law_room"] ((l.map Val.int).map fun v => [v]) acc ρ σ1 (fun ys σ' => newW σ' (.list ys) Q) := by
    intro l
    induction l with
    | nil =>
      intro acc rows σ1 _ e hacc hrows hlen
      refine ⟨stay_range hr (e _ _ hr), fun b hb => ?_⟩
      exact hQ rows _ _ (((Ext.set ha _).trans e).trans (.set hb _)) ⟨by simpa using hlen, hrows⟩ (newF_list hb (((Ext.set ha _).trans e).new hb) hacc)
    | cons i l ih =>
      intro acc rows σ1 hl e hacc hrows hlen
      refine ⟨stay_range hr (e _ _ hr), hC _ _ _ ?_⟩
      simp only [if_true, bindT]
      refine hB i σ1 _ (hl i (by simp)).1 (hl i (by simp)).2 fun ns v σ2 e2 h3 h4 h5 => ?_
      refine ih (acc ++ [v]) (rows ++ [ns]) σ2 (fun j hj => hl j (by simp [hj])) (e.trans e2) ?_ ?_ ?_
      · rw [List.map_append]
        exact hasFL_append (hacc.ext e2) (HasFL.cons.mpr ⟨h5.move (fun _ _ _ q => q) fun b hb => ((Ext.set ha _).trans e).new hb, HasFL.nil⟩)
      · intro ns' hns'
        rcases List.mem_append.mp hns' with h | h
        · exact hrows ns' h
        · simp at h; subst h; exact ⟨h3, h4⟩
      · rw [← hlen]; simp; omega
  exact key (irange 0 many) [] [] _ (fun i hi => mem_irange.mp hi) (.refl _) HasFL.nil (by simp) (by simp [irange]; omega)

theorem house_end (hc : FnOk F gv "_law_cell" d_law_cell) (hlk : FnOk F gv "_law_looks" d_law_looks) {d : Nat} {l : Nat} {ns : List Int} {σ : Sto} {Q : KV} {E : KX} {ρ : Loc} {many : Int} {vd : Val} {deeds : List (List (List Int))} (hσ : σ l = some (.ro (ns.map .int))) (hl : ns.length ≤ 63)
    (r1 : ρ "_law_script" = some (.ref l)) (r2 : ρ "_law_many" = some (.int many)) (r3 : ρ "_law_deeds" = some vd) (hv : Has σ (.list (deeds.map deedD)) vd) (h1 : 1 ≤ many) (h2 : many ≤ 8) (h3 : 1 ≤ deeds.length ∧ deeds.length ≤ 5) (h4 : ∀ rows ∈ deeds, DeedOk many rows)
    (hQ : ∀ looks wished v σ', Ext σ σ' → HouseOk many looks deeds wished → Has σ' (houseD looks deeds wished) v → Q v σ') : wpSs (F (d + 2)) gv false (d_law_house.2.drop 7) ρ σ (Kh Q) E := by
  have hm : ∀ x : Int, 0 ≤ x % many ∧ x % many < many := fun x => ⟨Int.emod_nonneg _ (by omega), Int.emod_lt_of_pos _ (by omega)⟩
  simp only [d_law_house, List.drop]
  refine s_cons ?_; refine s_assign ?_; refine r_call (FnOk.cf (by assumption)) ?_; refine r_cons ?_; refine r_var (by assumption) ?_; refine r_cons ?_; refine r_int ?_; refine r_nil ?_
  refine cell_spec hc (k := 9) hσ hl fun σ1 e1 => ?_
  refine s_nxt ?_; refine s_cons ?_; refine s_assign ?_; refine r_comp ?_; refine r_bcall ?_; refine r_cons ?_; refine r_var (by assumption) ?_; refine r_nil ?_
  refine range_comp (by omega) (by omega) (bit (cell ns 9)) id (fun i h0 h3 σ' e K' hK => ?_) (fun i h0 h3 _ σ' e K' hK => ?_) fun v σ2 e2 hv2 => ?_
  · simp [wpIfs, wpE, wpEs, wpCmp]
    exact ⟨by simp [lim], bit_test h0 (by omega) hK⟩
  · refine r_var l_here ?_
    exact hK σ' (.refl σ')
  rw [List.map_id] at hv2
  refine s_nxt ?_; refine s_cons ?_; refine s_if ?_; refine r_cmp ?_; refine r_bin ?_; refine r_bin ?_; refine r_var (l_there rfl l_here) ?_; refine r_int ?_; refine o_fdiv rfl ?_; refine r_int ?_; refine o_mod rfl ?_; refine r_int ?_; refine c_eq ?_; refine t_bool ?_
  -- the last statement
  have last : ∀ (w : List Int) (vw : Val) (σ3 : Sto) (ρ' : Loc), Ext σ σ3 → Rooms many w → Has σ3 (ilist w) vw → ρ' "_law_script" = some (.ref l) → ρ' "_law_many" = some (.int many) → ρ' "_law_deeds" = some vd → ρ' "_law_wished" = some vw →
      wpSs (F (d + 2)) gv false (d_law_house.2.drop 10) ρ' σ3 (Kh Q) E := by
    intro w vw σ3 ρ' e3 hw hvw q1 q2 q3 q4
    simp only [d_law_house, List.drop]
    refine s_cons ?_; refine s_ret ?_; refine r_tup ?_; refine r_cons ?_; refine r_call (FnOk.cf (by assumption)) ?_; refine r_cons ?_; refine r_var (by assumption) ?_; refine r_cons ?_; refine r_var (by assumption) ?_; refine r_nil ?_
    refine law_looks_spec hc hlk (e3 _ _ hσ) hl h1 h2 fun ls vl σ4 e4 hls hvl => ?_
    refine r_cons ?_; refine r_var (by assumption) ?_; refine r_cons ?_; refine r_var (by assumption) ?_; refine r_nil ?_
    refine n_lit rfl fun a ha => ?_
    refine s_out ?_; refine k_ret ?_
    refine hQ ls w _ _ ((e3.trans e4).trans (.set ha _)) ⟨h1, h2, hls, h3, h4, hw⟩ ?_
    refine has_new_tup ha ?_
    exact HasL.cons.mpr ⟨hvl, HasL.cons.mpr ⟨hv.ext (e3.trans e4), HasL.cons.mpr ⟨hvw.ext e4, HasL.nil⟩⟩⟩
  refine i_dec (fun q => ?_) fun q => ?_
  · refine s_cons ?_; refine s_assign ?_; refine r_list ?_; refine r_cons ?_; refine r_bin ?_; refine r_bin ?_; refine r_var (l_there rfl l_here) ?_; refine r_int ?_; refine o_fdiv rfl ?_; refine r_var (by assumption) ?_
    refine o_modn (by omega) (by omega) ?_
    refine r_nil ?_
    refine n_lit rfl fun a ha => ?_
    refine s_nxt ?_
    refine s_nil ?_
    refine last _ (.ref a) _ _ (((e1.trans e2)).trans (.set ha _)) (rooms_one (hm _).1 (hm _).2) (ilist_has.mpr ⟨a, rfl, set_at _ _ _⟩) ?_ ?_ ?_ ?_ <;> (repeat (first | with_reducible exact l_here | assumption | refine l_there rfl ?_ | with_reducible refine l_bind ?_ | with_reducible refine l_bind0 ?_))
  · refine s_nil ?_
    refine s_nxt ?_
    refine last _ v _ _ (e1.trans e2) (rising_filter (bit (cell ns 9)) many) hv2.has ?_ ?_ ?_ ?_ <;> (repeat (first | with_reducible exact l_here | assumption | refine l_there rfl ?_ | with_reducible refine l_bind ?_ | with_reducible refine l_bind0 ?_))

theorem law_house_spec (hc : FnOk F gv "_law_cell" d_law_cell) (hto : FnOk F gv "_law_to" d_law_to) (hlk : FnOk F gv "_law_looks" d_law_looks) (h : FnOk F gv "_law_house" d_law_house) {d : Nat} {l : Nat} {ns : List Int} {σ : Sto} {Q : KV} {E : KE} (hσ : σ l = some (.ro (ns.map .int))) (hl : ns.length ≤ 63)
    (hQ : ∀ many looks deeds wished v σ', Ext σ σ' → HouseOk many looks deeds wished → Has σ' (houseD looks deeds wished) v → Q v σ') : F (d + 3) false "_law_house" [.ref l] σ Q E := by
  refine FnOk.go h rfl ?_
  -- the deeds, one by one
  have loop : ∀ (many count : Int) (σ1 : Sto) (ρ : Loc) (E : KX), 1 ≤ many → many ≤ 8 → 1 ≤ count → count ≤ 5 → Ext σ σ1 → ρ "_law_script" = some (.ref l) → ρ "_law_many" = some (.int many) → ρ "_law_count" = some (.int count) →
      wpSs (F (d + 2)) gv false (d_law_house.2.drop 5) ρ σ1 (Kh Q) E := by
    intro many count σ1 ρ E h1 h2 h3 h4 e1 r1 r2 r3
    simp only [d_law_house, List.drop]
    refine s_cons ?_; refine s_assign ?_; refine r_list0 ?_
    refine n_ob fun D hD => ?_
    refine s_nxt ?_; refine s_cons ?_; refine s_for ?_; refine r_bcall ?_; refine r_cons ?_; refine r_var (by assumption) ?_; refine r_nil ?_
    refine ⟨by rw [limI]; omega, by rw [limI]; omega, fun a ha => ?_⟩
    have hr : (((σ1.set D (.list [])).set a (.range 0 count)) a) = some (.range 0 count) := set_at _ _ _
    have hDa : D ≠ a := fun q => by rw [← q, set_at] at ha; cases ha
    refine ⟨_, turns_range hr, ?_⟩
    refine wpFor_inv (fun items ρ' σ' => ∃ (ks : List Int) (deeds : List (List (List Int))) (xs : List Val), items = ks.map .int ∧ (∀ k ∈ ks, 0 ≤ k ∧ k < count) ∧ ((deeds.length + ks.length : Nat) : Int) = count ∧ (∀ rows ∈ deeds, DeedOk many rows) ∧
        Ext σ1 σ' ∧ σ' D = some (.list xs) ∧ HasFL (fun b => b ≠ D) σ' (deeds.map deedD) xs ∧ σ' a = some (.range 0 count) ∧ ρ' "_law_script" = some (.ref l) ∧ ρ' "_law_many" = some (.int many) ∧ ρ' "_law_deeds" = some (.ref D)) ?_ ?_ ?_ _ _ _ ?_
    · intro items ρ' σ' H9 
      refine Classical.byContradiction fun hG => ?_
      obtain ⟨ks, deeds, xs, _, _, _, _, _, _, _, q, _⟩ := H9
      refine hG ?_
      clear hG
      exact stay_range hr q
    · intro ρ' σ' H9 
      refine Classical.byContradiction fun hG => ?_
      obtain ⟨ks, deeds, xs, q1, q2, q3, q4, q5, q6, q7, q8, q9, q10, q11⟩ := H9
      refine hG ?_
      clear hG
      have : ks = [] := by cases ks <;> simp at q1; rfl
      subst this
      simp only [List.length_nil, Nat.add_zero] at q3
      exact house_end hc hlk ((e1.trans q5) _ _ hσ) hl q9 q10 q11 (by simp only [Has]; exact ⟨D, xs, rfl, q6, q7.has⟩) h1 h2 ⟨by omega, by omega⟩ q4 fun looks wished v σ'' e'' ho hv => hQ many looks deeds wished v σ'' ((e1.trans q5).trans e'') ho hv
    · intro v items ρ' σ' K H9 k1 k2
      refine Classical.byContradiction fun hG => ?_
      obtain ⟨ks, deeds, xs, q1, q2, q3, q4, q5, q6, q7, q8, q9, q10, q11⟩ := H9
      refine hG ?_
      clear hG
      cases ks with
      | nil => simp at q1
      | cons k ks =>
        simp only [List.map_cons, List.cons.injEq] at q1
        obtain ⟨rfl, rfl⟩ := q1
        obtain ⟨k, rfl⟩ := Int.eq_ofNat_of_zero_le (q2 k (by simp)).1
        refine s_cons ?_; refine s_assign ?_; refine r_call (FnOk.cf (by assumption)) ?_; refine r_cons ?_; refine r_var (by assumption) ?_; refine r_cons ?_; refine r_bin ?_; refine r_int ?_; refine r_var l_here ?_; refine o_add ?_; refine r_nil ?_
        rw [show (4 : Int) + (k : Int) = ((4 + k : Nat) : Int) from rfl]
        refine cell_spec hc (k := 4 + k) ((e1.trans q5) _ _ hσ) hl fun σ2 e2 => ?_
        refine s_nxt ?_; refine s_cons ?_; refine s_expr ?_; refine r_meth ?_; refine r_var (by assumption) ?_
        refine ⟨⟨_, _, rfl, e2 _ _ q6⟩, ?_⟩
        refine r_cons ?_; refine r_comp ?_; refine r_bcall ?_; refine r_cons ?_; refine r_var (by assumption) ?_; refine r_nil ?_
        refine rows_comp h1 h2 (fun _ _ _ hk => hk) (fun i σ' K h0 h3 hK => ?_) fun rows v σ3 e3 hrows hv => ?_
        · refine r_call (FnOk.cf (by assumption)) ?_; refine r_cons ?_; refine r_var (l_there rfl l_here) ?_; refine r_cons ?_; refine r_var l_here ?_; refine r_cons ?_; refine r_var (by assumption) ?_; refine r_nil ?_
          exact law_to_spec hto h0 h3 h2 hK
        · refine r_nil ?_
          have hD3 : σ3 D = some (.list xs) := e3 _ _ (e2 _ _ q6)
          simp only [methW, ref1, onL, hD3]
          have hlen : xs.length = deeds.length := by have := hasL_len q7.has; simpa using this
          have hlc : deeds.length < 5 := by simp at q3; omega
          refine ⟨by simp only [lim]; omega, ?_⟩
          have hne : ∀ b, b ≠ D → (σ3.set D (.list (xs ++ [v]))) b = σ3 b := fun b hb => set_ne _ _ hb
          have hD1 : σ1 D = none := hD
          refine k1 _ _ ⟨ks, deeds ++ [rows], xs ++ [v], rfl, fun k' hk' => q2 k' (by simp [hk']), ?_, ?_, ?_, set_at _ _ _, ?_, ?_, by (repeat (first | with_reducible exact l_here | assumption | refine l_there rfl ?_ | with_reducible refine l_bind ?_ | with_reducible refine l_bind0 ?_)), by (repeat (first | with_reducible exact l_here | assumption | refine l_there rfl ?_ | with_reducible refine l_bind ?_ | with_reducible refine l_bind0 ?_)), by (repeat (first | with_reducible exact l_here | assumption | refine l_there rfl ?_ | with_reducible refine l_bind ?_ | with_reducible refine l_bind0 ?_))⟩
          · rw [← q3]; simp; omega
          · intro r hr'
            rcases List.mem_append.mp hr' with h | h
            · exact q4 r h
            · simp at h; subst h; exact hrows
          · intro b ob hb
            have hbD : b ≠ D := fun q => by rw [q, hD1] at hb; cases hb
            rw [hne b hbD]; exact e3 _ _ (e2 _ _ (q5 _ _ hb))
          · rw [List.map_append]
            have m1 : HasFL (fun b => b ≠ D) (σ3.set D (.list (xs ++ [v]))) (deeds.map deedD) xs := q7.move (fun b ob hb hq => by rw [hne b hb]; exact e3 _ _ (e2 _ _ hq)) fun _ q => q
            refine hasFL_append m1 (HasFL.cons.mpr ⟨hv.move (fun b ob hb hq => ?_) (fun b hb => ?_), HasFL.nil⟩)
            · have hbD : b ≠ D := fun q => by
                have hb : σ2 b = none := hb
                rw [q, e2 _ _ q6] at hb; cases hb
              rw [hne b hbD]; exact hq
            · intro q
              have hb : σ2 b = none := hb
              rw [q, e2 _ _ q6] at hb; cases hb
          · rw [hne a (Ne.symm hDa)]; exact e3 _ _ (e2 _ _ q8)
    · exact ⟨irange 0 count, [], [], rfl, fun k hk => mem_irange.mp hk, by simp [irange]; omega, by simp, (Ext.set hD _).trans (.set ha _), by rw [set_ne _ _ hDa, set_at], HasFL.nil, hr, by (repeat (first | with_reducible exact l_here | assumption | refine l_there rfl ?_ | with_reducible refine l_bind ?_ | with_reducible refine l_bind0 ?_)), by (repeat (first | with_reducible exact l_here | assumption | refine l_there rfl ?_ | with_reducible refine l_bind ?_ | with_reducible refine l_bind0 ?_)), by (repeat (first | with_reducible exact l_here | assumption | refine l_there rfl ?_ | with_reducible refine l_bind ?_ | with_reducible refine l_bind0 ?_))⟩
  refine s_cons ?_; refine s_assign ?_; refine r_call (FnOk.cf (by assumption)) ?_; refine r_cons ?_; refine r_var (l_bind (l_bind0 l_here)) ?_; refine r_cons ?_; refine r_int ?_; refine r_nil ?_
  refine cell_spec hc (k := 0) hσ hl fun σ1 e1 => ?_
  refine s_nxt ?_; refine s_cons ?_; refine s_assign ?_; refine r_bin ?_; refine r_int ?_; refine r_bin ?_; refine r_var l_here ?_; refine r_int ?_; refine o_mod rfl ?_; refine o_add ?_
  refine s_nxt ?_; refine s_cons ?_; refine s_if ?_; refine r_cmp ?_; refine r_bin ?_; refine r_bin ?_; refine r_var (l_there rfl l_here) ?_; refine r_int ?_; refine o_fdiv rfl ?_; refine r_int ?_; refine o_mod rfl ?_; refine r_int ?_; refine c_eq ?_; refine t_bool ?_
  -- how many deeds
  have cnt : ∀ (many : Int) (ρ : Loc) (E : KX), 1 ≤ many → many ≤ 8 → ρ "_law_script" = some (.ref l) → ρ "_law_many" = some (.int many) → wpSs (F (d + 2)) gv false (d_law_house.2.drop 3) ρ σ1 (Kh Q) E := by
    intro many ρ E h1 h2 r1 r2
    simp only [d_law_house, List.drop]
    refine s_cons ?_; refine s_assign ?_; refine r_bin ?_; refine r_int ?_; refine r_bin ?_; refine r_call (FnOk.cf (by assumption)) ?_; refine r_cons ?_; refine r_var (by assumption) ?_; refine r_cons ?_; refine r_int ?_; refine r_nil ?_
    refine cell_spec hc (k := 3) (e1 _ _ hσ) hl fun σ2 e2 => ?_
    refine r_int ?_; refine o_mod rfl ?_; refine o_add ?_
    refine s_nxt ?_; refine s_cons ?_; refine s_if ?_; refine r_cmp ?_; refine r_bin ?_; refine r_bin ?_; refine r_call (FnOk.cf (by assumption)) ?_; refine r_cons ?_; refine r_var (by assumption) ?_; refine r_cons ?_; refine r_int ?_; refine r_nil ?_
    refine cell_spec hc (k := 3) ((e1.trans e2) _ _ hσ) hl fun σ3 e3 => ?_
    refine r_int ?_; refine o_fdiv rfl ?_; refine r_int ?_; refine o_mod rfl ?_; refine r_int ?_; refine c_eq ?_; refine t_bool ?_
    refine i_dec (fun q => ?_) fun q => ?_
    · refine s_cons ?_; refine s_assign ?_; refine r_bin ?_; refine r_int ?_; refine r_bin ?_; refine r_bin ?_; refine r_call (FnOk.cf (by assumption)) ?_; refine r_cons ?_; refine r_var (by assumption) ?_; refine r_cons ?_; refine r_int ?_; refine r_nil ?_
      refine cell_spec hc (k := 3) (((e1.trans e2).trans e3) _ _ hσ) hl fun σ4 e4 => ?_
      refine r_int ?_; refine o_fdiv rfl ?_; refine r_int ?_; refine o_mod rfl ?_; refine o_add ?_
      refine s_nxt ?_
      refine s_nil ?_
      refine s_nxt ?_
      refine loop many _ σ4 _ _ h1 h2 ?_ ?_ (((e1.trans e2).trans e3).trans e4) ?_ ?_ (upd_same _ _ _) <;> first | omega | (repeat (first | with_reducible exact l_here | assumption | refine l_there rfl ?_ | with_reducible refine l_bind ?_ | with_reducible refine l_bind0 ?_))
    · refine s_nil ?_
      refine s_nxt ?_
      refine loop many _ σ3 _ _ h1 h2 ?_ ?_ ((e1.trans e2).trans e3) ?_ ?_ (upd_same _ _ _) <;> first | omega | (repeat (first | with_reducible exact l_here | assumption | refine l_there rfl ?_ | with_reducible refine l_bind ?_ | with_reducible refine l_bind0 ?_))
  refine i_dec (fun q => ?_) fun q => ?_
  · refine s_cons ?_; refine s_assign ?_; refine r_bin ?_; refine r_int ?_; refine r_bin ?_; refine r_bin ?_; refine r_var (l_there rfl l_here) ?_; refine r_int ?_; refine o_fdiv rfl ?_; refine r_int ?_; refine o_mod rfl ?_; refine o_add ?_
    refine s_nxt ?_
    refine s_nil ?_
    refine s_nxt ?_
    refine cnt _ _ _ ?_ ?_ ?_ (upd_same _ _ _) <;> first | omega | (repeat (first | with_reducible exact l_here | assumption | refine l_there rfl ?_ | with_reducible refine l_bind ?_ | with_reducible refine l_bind0 ?_))
  · refine s_nil ?_
    refine s_nxt ?_
    refine cnt _ _ _ ?_ ?_ ?_ (upd_same _ _ _) <;> first | omega | (repeat (first | with_reducible exact l_here | assumption | refine l_there rfl ?_ | with_reducible refine l_bind ?_ | with_reducible refine l_bind0 ?_))
end BP

/-! ## GSpec7 -/
set_option linter.unusedVariables false
set_option linter.unusedSimpArgs false
namespace BP
open PySem
variable {F : Nat → CallW} {gv : Glo}

/-! ### a house's data, good or not -/
noncomputable def elems (d : Dat) : List Dat := match d with | .list ds => ds | _ => []
noncomputable def houseB (el ed ew : Dat) : Bool := isL el && (decide (1 ≤ ((elems el).length : Int)) && (decide (((elems el).length : Int) ≤ 8) && ((elems el).all (fun x => wholeD x 0 9) && (isL ed && (decide (1 ≤ ((elems ed).length : Int)) && (decide (((elems ed).length : Int) ≤ 5) && ((elems ed).all (fun x => deedB x (elems el).length) && isRisD ew (elems el).length)))))))
theorem isL_eq {e : Dat} (h : isL e = true) : e = .list (elems e) := by cases e <;> first | rfl | cases h
theorem has_elems {σ : Sto} {e : Dat} {v : Val} (h : Has σ e v) (hl : isL e = true) : ∃ a xs, v = .ref a ∧ σ a = some (.list xs) ∧ HasL σ (elems e) xs ∧ xs.length = (elems e).length := by
  rw [isL_eq hl] at h; exact has_list_len h
theorem sm_elems {n : Nat} {e : Dat} (h : sm (n + 1) e = true) : (elems e).length ≤ 100 ∧ ∀ d ∈ elems e, sm n d = true := by
  cases e with
  | list ds => exact sm_list h
  | _ => exact ⟨Nat.zero_le _, fun _ q => by cases q⟩
theorem sm_mono : ∀ (n m : Nat) (d : Dat), n ≤ m → sm n d = true → sm m d = true
  | _, m, .none, _, _ => by cases m <;> rfl
  | _, m, .bool _, _, _ => by cases m <;> rfl
  | _, m, .int _, _, _ => by cases m <;> rfl
  | _, m, .str _, _, _ => by cases m <;> rfl
  | 0, m, .list _, _, h => by cases h
  | 0, m, .tup _, _, h => by cases h
  | n + 1, 0, _, h, _ => by cases h
  | n + 1, m + 1, .list ds, hm, h => by
    simp only [sm, Bool.and_eq_true, List.all_eq_true] at h ⊢
    exact ⟨h.1, fun x hx => sm_mono n m x (by omega) (h.2 x hx)⟩
  | n + 1, m + 1, .tup ds, hm, h => by
    simp only [sm, Bool.and_eq_true, List.all_eq_true] at h ⊢
    exact ⟨h.1, fun x hx => sm_mono n m x (by omega) (h.2 x hx)⟩
theorem whole_int {d : Dat} {lo hi : Int} (h : wholeD d lo hi = true) : intD d = true := by cases d <;> first | rfl | cases h
theorem ints_of : ∀ {ls : List Dat}, (∀ d ∈ ls, intD d = true) → ∃ L : List Int, ls = L.map .int
  | [], _ => ⟨[], rfl⟩
  | d :: ls, h => by
    obtain ⟨L, rfl⟩ := ints_of fun x hx => h x (.tail _ hx)
    have := h d (.head _)
    cases d with
    | int i => exact ⟨i :: L, rfl⟩
    | _ => cases this
theorem risingD_int : ∀ {ls : List Dat} {b m : Int}, risingD ls b m = true → ∀ d ∈ ls, intD d = true
  | [], _, _, _, _, hd => by cases hd
  | x :: ls, b, m, h, d, hd => by
    cases x with
    | int i =>
      have h := (Bool.and_eq_true _ _).mp (show (wholeD (.int i) (b + 1) (m - 1) && risingD ls i m) = true from h)
      cases hd with
      | head => rfl
      | tail _ hd => exact risingD_int h.2 d hd
    | _ => exact Bool.noConfusion (show false = true from h)
theorem ris_ints {e : Dat} {m : Int} (h : isRisD e m = true) : ∃ ns, e = ilist ns ∧ Rooms m ns := by
  cases e with
  | list ls =>
    obtain ⟨L, rfl⟩ := ints_of (risingD_int h)
    refine ⟨L, rfl, ?_⟩
    rw [Rooms, ← risingD_ints]; exact h
  | _ => cases h
theorem rows_of {m : Int} : ∀ {ds : List Dat}, (∀ r ∈ ds, (isRisD r m && !isNil r) = true) → ∃ rows : List (List Int), ds = rows.map ilist ∧ ∀ ns ∈ rows, Rooms m ns ∧ ns ≠ []
  | [], _ => ⟨[], rfl, fun _ h => by cases h⟩
  | r :: ds, h => by
    obtain ⟨rows, rfl, hr⟩ := rows_of fun x hx => h x (.tail _ hx)
    obtain ⟨h1, h2⟩ := (Bool.and_eq_true _ _).mp (h r (.head _))
    obtain ⟨ns, rfl, hn⟩ := ris_ints h1
    refine ⟨ns :: rows, rfl, fun x hx => ?_⟩
    cases hx with
    | head => exact ⟨hn, fun q => by subst q; cases h2⟩
    | tail _ hx => exact hr x hx
theorem deed_of {e : Dat} {m : Int} (h : deedB e m = true) : ∃ rows, e = deedD rows ∧ DeedOk m rows := by
  cases e with
  | list ds =>
    rw [deedB, Bool.and_eq_true, decide_eq_true_eq, List.all_eq_true] at h
    obtain ⟨rows, rfl, hr⟩ := rows_of h.2
    exact ⟨rows, rfl, by simpa using h.1, hr⟩
  | _ => cases h
theorem deeds_of {m : Int} : ∀ {ds : List Dat}, (∀ e ∈ ds, deedB e m = true) → ∃ D : List (List (List Int)), ds = D.map deedD ∧ ∀ rows ∈ D, DeedOk m rows
  | [], _ => ⟨[], rfl, fun _ h => by cases h⟩
  | e :: ds, h => by
    obtain ⟨D, rfl, hD⟩ := deeds_of fun x hx => h x (.tail _ hx)
    obtain ⟨rows, rfl, hr⟩ := deed_of (h e (.head _))
    refine ⟨rows :: D, rfl, fun x hx => ?_⟩
    cases hx with
    | head => exact hr
    | tail _ hx => exact hD x hx

theorem own_spec (h : FnOk F gv "own_deed" d_own_deed) {d : Nat} {v : Val} {rows : List (List Int)} {σ : Sto} {Q : KV} {E : KE} (hσ : Has σ (deedD rows) v) (hlim : rows.length ≤ 100)
   (hQ : ∀ w σ', Ext σ σ' → HasF (new σ) σ' (deedD rows) w → Q w σ') : F (d + 1) false "own_deed" [v] σ Q E := by
  refine Classical.byContradiction fun hG => ?_
  obtain ⟨a, xs, rfl, ha, hxs, hl⟩ := has_list_len hσ
  refine hG ?_
  clear hG
  rw [List.length_map] at hl
  refine FnOk.go h rfl ?_
  refine s_cons ?_; refine s_ret ?_; refine r_comp ?_; refine r_var (l_bind (l_bind0 l_here)) ?_
  refine ⟨_, turns_list ha, by simp [lim]; omega, ?_⟩
  refine wpComp_ok (new σ) (fun ns => ilist ns) (fun _ => true) (fun ns => ilist ns) rows xs [] σ hxs ?_ ?_ ?_ ?_
  · intro σ' e; exact stay_list ha (e _ _ ha)
  · intro ns _ v σ' e hv K' hK; exact hK σ' (.refl σ')
  · intro ns _ _ v σ' e hv K' hK
    obtain ⟨b, rfl, hb⟩ := ilist_has.mp hv
    refine r_bcall ?_; refine r_cons ?_; refine r_var l_here ?_; refine r_nil ?_; refine b_list (by assumption) ?_
    exact fun a' ha' => hK _ _ (.set ha' _) (newF_list ha' (e.new ha') hasFL_ints)
  · intro ys σ' e hys a' ha'
    rw [filter_tt] at hys
    refine s_out ?_; refine k_ret ?_
    exact hQ _ _ (e.trans (.set ha' _)) (newF_list ha' (e.new ha') hys)

/-- an object of the class, all of it newer than σ0 -/
noncomputable def HouseF (σ0 σ : Sto) (v : Val) (L : List Int) (D : List (List (List Int))) (W : List Int) : Prop :=
  ∃ x dx l de wi, v = .ref x ∧ (σ0 x = none ∧ σ0 dx = none) ∧ σ x = some (.inst "House" dx) ∧ σ dx = some (.attrs [("looks", l), ("deeds", de), ("wished", wi)]) ∧ HasF (new σ0) σ (ilist L) l ∧ HasF (new σ0) σ (.list (D.map deedD)) de ∧ HasF (new σ0) σ (ilist W) wi
theorem HouseF.move {σ0 σ τ : Sto} {v : Val} {L : List Int} {D : List (List (List Int))} {W : List Int} (h : HouseF σ0 σ v L D W) (k : ∀ a ob, σ0 a = none → σ a = some ob → τ a = some ob) : HouseF σ0 τ v L D W := by
  refine Classical.byContradiction fun hG => ?_
  obtain ⟨x, dx, l, de, wi, h1, ⟨h2, h3⟩, h4, h5, h6, h7, h8⟩ := h
  exact hG ⟨x, dx, l, de, wi, h1, ⟨h2, h3⟩, k _ _ h2 h4, k _ _ h3 h5, h6.move k fun _ q => q, h7.move k fun _ q => q, h8.move k fun _ q => q⟩
theorem a_get {σ : Sto} {a dx : Nat} {n c : String} {y : Val} {fs : List (String × Val)} {Q : KV} (hn : attrNames.elem n = true) (hx : σ a = some (.inst c dx)) (hd : σ dx = some (.attrs fs)) (hl : fs.lookup n = some y) (h : Q y σ) : attrW (.ref a) n σ Q := by
  refine ⟨List.elem_iff.mp hn, ?_⟩
  simp only [hx, hd, hl]; exact h
section
variable {σ0 σ : Sto} {v : Val} {L : List Int} {D : List (List (List Int))} {W : List Int} {Q : KV}
theorem HouseF.looks (h : HouseF σ0 σ v L D W) (hQ : ∀ w, HasF (new σ0) σ (ilist L) w → Q w σ) : attrW v "looks" σ Q := by
  refine Classical.byContradiction fun hG => ?_
  obtain ⟨x, dx, l, de, wi, rfl, _, h4, h5, h6, h7, h8⟩ := h
  exact hG (a_get rfl h4 h5 rfl (hQ _ h6))
theorem HouseF.deeds (h : HouseF σ0 σ v L D W) (hQ : ∀ w, HasF (new σ0) σ (.list (D.map deedD)) w → Q w σ) : attrW v "deeds" σ Q := by
  refine Classical.byContradiction fun hG => ?_
  obtain ⟨x, dx, l, de, wi, rfl, _, h4, h5, h6, h7, h8⟩ := h
  exact hG (a_get rfl h4 h5 rfl (hQ _ h7))
theorem HouseF.wished (h : HouseF σ0 σ v L D W) (hQ : ∀ w, HasF (new σ0) σ (ilist W) w → Q w σ) : attrW v "wished" σ Q := by
  refine Classical.byContradiction fun hG => ?_
  obtain ⟨x, dx, l, de, wi, rfl, _, h4, h5, h6, h7, h8⟩ := h
  exact hG (a_get rfl h4 h5 rfl (hQ _ h8))
end
/-- what a good house's data are -/
theorem house_of {el ed ew : Dat} (h1 : isL el = true) (h2 : 1 ≤ ((elems el).length : Int)) (h3 : ((elems el).length : Int) ≤ 8) (h4 : (elems el).all (fun x => wholeD x 0 9) = true) (h5 : isL ed = true) (h6 : 1 ≤ ((elems ed).length : Int)) (h7 : ((elems ed).length : Int) ≤ 5) (h8 : (elems ed).all (fun x => deedB x (elems el).length) = true) (h9 : isRisD ew (elems el).length = true) :
    ∃ L D W, el = ilist L ∧ ed = .list (D.map deedD) ∧ ew = ilist W ∧ HouseOk (elems el).length L D W := by
  rw [List.all_eq_true] at h4 h8
  obtain ⟨L, hL⟩ := ints_of fun x hx => whole_int (h4 x hx)
  obtain ⟨D, hD, hD'⟩ := deeds_of h8
  obtain ⟨W, hW, hW'⟩ := ris_ints h9
  refine ⟨L, D, W, by rw [isL_eq h1, hL]; rfl, by rw [isL_eq h5, hD], hW, h2, h3, ⟨by rw [hL, List.length_map], fun l hl => ?_⟩, ?_, hD', hW'⟩
  · have := h4 (.int l) (by rw [hL]; exact List.mem_map.mpr ⟨l, hl, rfl⟩)
    simpa [wholeD] using this
  · rw [hD, List.length_map] at h6 h7; omega
end BP

/-! ## GSpec8 -/
set_option linter.unusedVariables false
set_option linter.unusedSimpArgs false
namespace BP
open PySem
variable {F : Nat → CallW} {gv : Glo}

theorem house_spec (hw : FnOk F gv "is_whole" d_is_whole) (hr : FnOk F gv "is_rising" d_is_rising) (hde : FnOk F gv "is_deed" d_is_deed) (hod : FnOk F gv "own_deed" d_own_deed) (h : ClsOk F gv "House" d_House_init)
    (g1 : gv.gv "MOST_ROOMS" = some (.int 8)) (g2 : gv.gv "MOST_DEEDS" = some (.int 5)) (g3 : gv.gv "MOST_LOOK" = some (.int 9)) (gx : gv.ex "BadHouse" = true) {d : Nat} {vl vd vw : Val} {el ed ew : Dat} {σ : Sto} {Q : KV} {E : KE}
    (hl : Has σ el vl) (hd : Has σ ed vd) (hwi : Has σ ew vw) (sl : sm 8 el = true) (sd : sm 8 ed = true)
    (hE : houseB el ed ew = false → ∀ σ', Ext σ σ' → E "BadHouse" σ')
    (hQ : houseB el ed ew = true → ∀ L D W, el = ilist L → ed = .list (D.map deedD) → ew = ilist W → HouseOk (elems el).length L D W → ∀ v σ', Ext σ σ' → HouseF σ σ' v L D W → Q v σ') : F (d + 5) false "House" [vl, vd, vw] σ Q E := by
  refine ClsOk.go h rfl fun dx x hdx hx hne => ?_
  have e0 : Ext σ ((σ.set dx (.attrs [])).set x (.inst "House" dx)) := (Ext.set hdx _).trans (.set (by rw [set_ne _ _ (Ne.symm hne)]; exact hx) _)
  have d0 : ((σ.set dx (.attrs [])).set x (.inst "House" dx)) dx = some (.attrs []) := by rw [set_ne _ _ hne, set_at]
  have x0 : ((σ.set dx (.attrs [])).set x (.inst "House" dx)) x = some (.inst "House" dx) := set_at _ _ _
  generalize (σ.set dx (.attrs [])).set x (.inst "House" dx) = σ0 at e0 d0 x0 ⊢
  refine s_cons ?_; refine s_if ?_; refine r_or ?_; refine r_or2 ?_; refine r_not ?_; refine r_isi ?_; refine r_var (l_bind (l_bind (l_bind (l_bind (l_there rfl (l_there rfl l_here)))))) ?_
  refine y_dl (hl.ext e0) ?_
  refine t_bool ?_; refine t_bool ?_
  cases c1 : isL el with
  | false =>
    refine i_nf ?_; refine t_bool ?_; refine i_nf ?_
    refine s_cons ?_
    exact s_raise gx (hE (by rw [houseB, c1]; rfl) _ e0)
  | true =>
  refine i_nt ?_; refine r_or1 ?_; refine r_not ?_; refine r_cmp2 ?_; refine r_int ?_; refine r_bcall ?_; refine r_cons ?_; refine r_var (l_bind (l_bind (l_bind (l_bind (l_there rfl (l_there rfl l_here)))))) ?_; refine r_nil ?_
  refine Classical.byContradiction fun hG => ?_
  obtain ⟨al, xl, rfl, hal, hxl, hll⟩ := has_elems hl c1
  refine hG ?_
  clear hG
  have hal0 := e0 _ _ hal
  refine b_len (by assumption) ?_; refine c_le ?_
  rw [hll]
  cases c2 : decide (1 ≤ ((elems el).length : Int)) with
  | false =>
    refine i_f ?_; refine t_bool ?_; refine t_bool ?_; refine i_nf ?_
    refine s_cons ?_
    exact s_raise gx (hE (by rw [houseB, c1, c2]; rfl) _ e0)
  | true =>
  refine i_t ?_; refine r_glob (by assumption) ?_; refine c_le ?_; refine t_bool ?_; refine t_bool ?_
  cases c3 : decide (((elems el).length : Int) ≤ 8) with
  | false =>
    refine i_nf ?_
    refine s_cons ?_
    exact s_raise gx (hE (by rw [houseB, c1, c2, c3]; rfl) _ e0)
  | true =>
  refine i_nt ?_; refine s_nil ?_
  obtain ⟨s1, s2⟩ := sm_elems sl
  -- each look
  refine s_nxt ?_; refine s_cons ?_; refine s_if ?_; refine r_not ?_; refine r_bcall ?_; refine r_cons ?_; refine r_comp ?_; refine r_var (l_bind (l_bind (l_bind (l_bind (l_there rfl (l_there rfl l_here)))))) ?_
  refine ⟨_, turns_list hal0, by simp [lim]; omega, ?_⟩
  refine wpComp_of (D := fun r => r) (fun _ => true) (fun r => .bool (wholeD r 0 9)) (elems el) xl [] _ (by rw [List.map_id']; exact hxl.ext e0) (fun σ' e => stay_list hal0 (e _ _ hal0)) ?_ ?_ ?_
  · intro i _ v σ' e hv K' hK; exact hK σ' (.refl σ')
  · intro r _ _ v σ' e hv K' hK
    refine r_call (FnOk.cf (by assumption)) ?_; refine r_cons ?_; refine r_var l_here ?_; refine r_cons ?_; refine r_int ?_; refine r_cons ?_; refine r_glob (by assumption) ?_; refine r_nil ?_
    exact is_whole_spec hw hv (hK _ σ' (.refl σ') rfl)
  intro ys σ1 e1 hys b1 hb1
  rw [filter_tt] at hys
  have hys' : ys = ((elems el).map fun r => wholeD r 0 9).map .bool := by
    apply hasL_bools (σ := σ1); rw [List.map_map]; exact hys
  refine r_nil ?_
  refine bcall_all (bs := (elems el).map fun r => wholeD r 0 9) (by rw [set_at, List.nil_append, hys']) ?_
  rw [show ((elems el).map fun r => wholeD r 0 9).all id = (elems el).all fun x => wholeD x 0 9 by rw [List.all_map]; rfl]
  have E1 : Ext σ0 (σ1.set b1 (.list ([] ++ ys))) := e1.trans (.set hb1 _)
  generalize σ1.set b1 (.list ([] ++ ys)) = σ2 at E1 ⊢
  have E2 : Ext σ σ2 := e0.trans E1
  refine t_bool ?_; refine t_bool ?_
  cases c4 : (elems el).all fun x => wholeD x 0 9 with
  | false =>
    refine i_nf ?_
    refine s_cons ?_
    exact s_raise gx (hE (by rw [houseB, c1, c2, c3, c4]; rfl) _ E2)
  | true =>
  refine i_nt ?_; refine s_nil ?_
  -- the deeds
  refine s_nxt ?_; refine s_cons ?_; refine s_if ?_; refine r_or ?_; refine r_or2 ?_; refine r_not ?_; refine r_isi ?_; refine r_var (l_bind (l_bind (l_bind (l_bind (l_there rfl l_here))))) ?_
  refine y_dl (hd.ext E2) ?_
  refine t_bool ?_; refine t_bool ?_
  cases c5 : isL ed with
  | false =>
    refine i_nf ?_; refine t_bool ?_; refine i_nf ?_
    refine s_cons ?_
    exact s_raise gx (hE (by rw [houseB, c1, c2, c3, c4, c5]; rfl) _ E2)
  | true =>
  refine i_nt ?_; refine r_or1 ?_; refine r_not ?_; refine r_cmp2 ?_; refine r_int ?_; refine r_bcall ?_; refine r_cons ?_; refine r_var (l_bind (l_bind (l_bind (l_bind (l_there rfl l_here))))) ?_; refine r_nil ?_
  refine Classical.byContradiction fun hG => ?_
  obtain ⟨ad, xd, rfl, had, hxd, hld⟩ := has_elems hd c5
  refine hG ?_
  clear hG
  have had2 := E2 _ _ had
  have hal2 := E2 _ _ hal
  refine b_len (by assumption) ?_; refine c_le ?_
  rw [hld]
  cases c6 : decide (1 ≤ ((elems ed).length : Int)) with
  | false =>
    refine i_f ?_; refine t_bool ?_; refine t_bool ?_; refine i_nf ?_
    refine s_cons ?_
    exact s_raise gx (hE (by rw [houseB, c1, c2, c3, c4, c5, c6]; rfl) _ E2)
  | true =>
  refine i_t ?_; refine r_glob (by assumption) ?_; refine c_le ?_; refine t_bool ?_; refine t_bool ?_
  cases c7 : decide (((elems ed).length : Int) ≤ 5) with
  | false =>
    refine i_nf ?_
    refine s_cons ?_
    exact s_raise gx (hE (by rw [houseB, c1, c2, c3, c4, c5, c6, c7]; rfl) _ E2)
  | true =>
  refine i_nt ?_; refine s_nil ?_
  obtain ⟨t1, t2⟩ := sm_elems sd
  -- each deed
  refine s_nxt ?_; refine s_cons ?_; refine s_if ?_; refine r_not ?_; refine r_bcall ?_; refine r_cons ?_; refine r_comp ?_; refine r_var (l_bind (l_bind (l_bind (l_bind (l_there rfl l_here))))) ?_
  refine ⟨_, turns_list had2, by simp [lim]; omega, ?_⟩
  refine wpComp_of (D := fun r => r) (fun _ => true) (fun r => .bool (deedB r (elems el).length)) (elems ed) xd [] _ (by rw [List.map_id']; exact hxd.ext E2) (fun σ' e => stay_list had2 (e _ _ had2)) ?_ ?_ ?_
  · intro i _ v σ' e hv K' hK; exact hK σ' (.refl σ')
  · intro r hr' _ v σ' e hv K' hK
    have hal3 := e _ _ hal2
    refine r_call (FnOk.cf (by assumption)) ?_; refine r_cons ?_; refine r_var l_here ?_; refine r_cons ?_; refine r_bcall ?_; refine r_cons ?_; refine r_var (l_there rfl (l_bind (l_bind (l_bind (l_bind (l_there rfl (l_there rfl l_here))))))) ?_; refine r_nil ?_; refine b_len (by assumption) ?_; refine r_nil ?_
    rw [hll]
    exact is_deed_spec hw hr hde hv (sm_mono 7 8 r (by omega) (t2 r hr')) fun σ'' e' => hK _ σ'' e' rfl
  intro ys2 σ3 e3 hys2 b2 hb2
  rw [filter_tt] at hys2
  have hys2' : ys2 = ((elems ed).map fun r => deedB r (elems el).length).map .bool := by
    apply hasL_bools (σ := σ3); rw [List.map_map]; exact hys2
  refine r_nil ?_
  refine bcall_all (bs := (elems ed).map fun r => deedB r (elems el).length) (by rw [set_at, List.nil_append, hys2']) ?_
  rw [show ((elems ed).map fun r => deedB r (elems el).length).all id = (elems ed).all fun x => deedB x (elems el).length by rw [List.all_map]; rfl]
  have E3 : Ext σ2 (σ3.set b2 (.list ([] ++ ys2))) := e3.trans (.set hb2 _)
  generalize σ3.set b2 (.list ([] ++ ys2)) = σ4 at E3 ⊢
  have E4 : Ext σ σ4 := E2.trans E3
  have E04 : Ext σ0 σ4 := E1.trans E3
  refine t_bool ?_; refine t_bool ?_
  cases c8 : (elems ed).all fun x => deedB x (elems el).length with
  | false =>
    refine i_nf ?_
    refine s_cons ?_
    exact s_raise gx (hE (by rw [houseB, c1, c2, c3, c4, c5, c6, c7, c8]; rfl) _ E4)
  | true =>
  refine i_nt ?_; refine s_nil ?_
  -- the wished rooms
  have hal4 := E4 _ _ hal
  refine s_nxt ?_; refine s_cons ?_; refine s_if ?_; refine r_not ?_; refine r_call (FnOk.cf (by assumption)) ?_; refine r_cons ?_; refine r_var (l_bind (l_bind (l_bind (l_bind (l_bind0 l_here))))) ?_; refine r_cons ?_; refine r_bcall ?_; refine r_cons ?_; refine r_var (l_bind (l_bind (l_bind (l_bind (l_there rfl (l_there rfl l_here)))))) ?_; refine r_nil ?_; refine b_len (by assumption) ?_; refine r_nil ?_
  rw [hll]
  refine is_rising_spec hw hr (hwi.ext E4) ?_
  refine t_bool ?_; refine t_bool ?_
  cases c9 : isRisD ew (elems el).length with
  | false =>
    refine i_nf ?_
    refine s_cons ?_
    exact s_raise gx (hE (by rw [houseB, c1, c2, c3, c4, c5, c6, c7, c8, c9]; rfl) _ E4)
  | true =>
  refine i_nt ?_; refine s_nil ?_
  have hQ := hQ (by rw [houseB, c1, c2, c3, c4, c5, c6, c7, c8, c9]; rfl)
  refine Classical.byContradiction fun hG => ?_
  obtain ⟨L, D, W, rfl, rfl, rfl, ok⟩ := house_of c1 (of_decide_eq_true c2) (of_decide_eq_true c3) c4 c5 (of_decide_eq_true c6) (of_decide_eq_true c7) c8 c9
  obtain ⟨aw, rfl, haw⟩ := ilist_has.mp hwi
  refine hG ?_
  clear hG
  have hxl' := hasL_ints_eq hxl
  subst hxl'
  have hQ := hQ L D W rfl rfl rfl ok
  clear hE c1 c2 c3 c4 c5 c6 c7 c8 c9
  -- the attributes
  have setE : ∀ {τ : Sto} {fs : List (String × Val)}, Ext σ τ → Ext σ (τ.set dx (.attrs fs)) := fun {τ fs} e b ob q => by
    rw [set_ne _ _ (fun e' => by rw [e', hdx] at q; cases q)]; exact e _ _ q
  have mv : ∀ {τ : Sto} {fs : List (String × Val)} (b : Nat) (ob : Ob), (σ b = none ∧ b ≠ dx) → τ b = some ob → (τ.set dx (.attrs fs)) b = some ob := fun b ob q e => by rw [set_ne _ _ q.2]; exact e
  refine s_nxt ?_; refine s_cons ?_; refine s_attr ?_; refine r_bcall ?_; refine r_cons ?_; refine r_var (l_bind (l_bind (l_bind (l_bind (l_there rfl (l_there rfl l_here)))))) ?_; refine r_nil ?_; refine b_list (by assumption) ?_
  refine n_ob fun p1 hp1 => ?_
  have x5 := Ext.set hp1 (.list (L.map .int)) _ _ (E04 _ _ x0)
  have d5 := Ext.set hp1 (.list (L.map .int)) _ _ (E04 _ _ d0)
  have E5 : Ext σ (σ4.set p1 (.list (L.map .int))) := E4.trans (.set hp1 _)
  have n1 : p1 ≠ dx := fun q => by rw [q, E04 _ _ d0] at hp1; cases hp1
  have L5 : HasF (fun b => σ b = none ∧ b ≠ dx) (σ4.set p1 (.list (L.map .int))) (ilist L) (.ref p1) := newF_list hp1 ⟨E4.new hp1, n1⟩ hasFL_ints
  generalize σ4.set p1 (.list (L.map .int)) = σ5 at x5 d5 E5 L5 ⊢
  refine r_var (l_bind (l_bind (l_bind (l_bind (l_there rfl (l_there rfl (l_there rfl l_here))))))) ?_
  refine a_set (fs' := [("looks", .ref p1)]) rfl x5 d5 rfl rfl rfl ?_
  have x6 : (σ5.set dx (.attrs [("looks", .ref p1)])) x = some (.inst "House" dx) := by rw [set_ne _ _ (Ne.symm hne)]; exact x5
  have d6 : (σ5.set dx (.attrs [("looks", .ref p1)])) dx = some (.attrs [("looks", .ref p1)]) := set_at _ _ _
  have E6 : Ext σ (σ5.set dx (.attrs [("looks", .ref p1)])) := setE E5
  have L6 : HasF (fun b => σ b = none ∧ b ≠ dx) (σ5.set dx (.attrs [("looks", .ref p1)])) (ilist L) (.ref p1) := L5.move mv fun _ q => q
  generalize σ5.set dx (.attrs [("looks", .ref p1)]) = σ6 at x6 d6 E6 L6 ⊢
  have had6 := E6 _ _ had
  refine s_nxt ?_; refine s_cons ?_; refine s_attr ?_; refine r_comp ?_; refine r_var (l_bind (l_bind (l_bind (l_bind (l_there rfl l_here))))) ?_
  refine ⟨_, turns_list had6, by simp [lim]; omega, ?_⟩
  refine wpComp_ok (fun b => σ b = none ∧ b ≠ dx) (D := deedD) (fun _ => true) deedD D _ [] _ (hxd.ext E6) (fun σ' e => stay_list had6 (e _ _ had6)) ?_ ?_ ?_
  · intro i _ v σ' e hv K' hK; exact hK σ' (.refl σ')
  · intro rows hrows _ v σ' e hv K' hK
    refine r_call (FnOk.cf (by assumption)) ?_; refine r_cons ?_; refine r_var l_here ?_; refine r_nil ?_
    exact own_spec hod hv (by have := (ok.deeds rows hrows).1; have := ok.many8; omega) fun w σ'' e' hw' => hK w σ'' e' (hw'.move (fun _ _ _ q => q) fun b q => ⟨(E6.trans e).new q, fun q' => by have q : σ' b = none := q; rw [q', e _ _ d6] at q; cases q⟩)
  intro ys3 σ7 e7 hys3 p2 hp2
  rw [filter_tt] at hys3
  have n2 : p2 ≠ dx := fun q => by rw [q, e7 _ _ d6] at hp2; cases hp2
  have D8 : HasF (fun b => σ b = none ∧ b ≠ dx) (σ7.set p2 (.list ([] ++ ys3))) (.list (D.map deedD)) (.ref p2) := newF_list hp2 ⟨(E6.trans e7).new hp2, n2⟩ hys3
  have E8 : Ext σ6 (σ7.set p2 (.list ([] ++ ys3))) := e7.trans (.set hp2 _)
  generalize σ7.set p2 (.list ([] ++ ys3)) = σ8 at E8 D8 ⊢
  have L8 := L6.ext E8
  refine r_var (l_bind (l_bind (l_bind (l_bind (l_there rfl (l_there rfl (l_there rfl l_here))))))) ?_
  refine a_set (fs' := [("looks", .ref p1), ("deeds", .ref p2)]) rfl (E8 _ _ x6) (E8 _ _ d6) rfl rfl rfl ?_
  have x9 : (σ8.set dx (.attrs [("looks", .ref p1), ("deeds", .ref p2)])) x = some (.inst "House" dx) := by rw [set_ne _ _ (Ne.symm hne)]; exact E8 _ _ x6
  have d9 : (σ8.set dx (.attrs [("looks", .ref p1), ("deeds", .ref p2)])) dx = some (.attrs [("looks", .ref p1), ("deeds", .ref p2)]) := set_at _ _ _
  have E9 : Ext σ (σ8.set dx (.attrs [("looks", .ref p1), ("deeds", .ref p2)])) := setE (E6.trans E8)
  have L9 : HasF (fun b => σ b = none ∧ b ≠ dx) (σ8.set dx (.attrs [("looks", .ref p1), ("deeds", .ref p2)])) (ilist L) (.ref p1) := L8.move mv fun _ q => q
  have D9 : HasF (fun b => σ b = none ∧ b ≠ dx) (σ8.set dx (.attrs [("looks", .ref p1), ("deeds", .ref p2)])) (.list (D.map deedD)) (.ref p2) := D8.move mv fun _ q => q
  generalize σ8.set dx (.attrs [("looks", .ref p1), ("deeds", .ref p2)]) = σ9 at x9 d9 E9 L9 D9 ⊢
  have haw9 := E9 _ _ haw
  refine s_nxt ?_; refine s_cons ?_; refine s_attr ?_; refine r_bcall ?_; refine r_cons ?_; refine r_var (l_bind (l_bind (l_bind (l_bind (l_bind0 l_here))))) ?_; refine r_nil ?_; refine b_list (by assumption) ?_
  refine n_ob fun p3 hp3 => ?_
  have n3 : p3 ≠ dx := fun q => by rw [q, d9] at hp3; cases hp3
  have EA : Ext σ9 (σ9.set p3 (.list (W.map .int))) := .set hp3 _
  have WA : HasF (fun b => σ b = none ∧ b ≠ dx) (σ9.set p3 (.list (W.map .int))) (ilist W) (.ref p3) := newF_list hp3 ⟨E9.new hp3, n3⟩ hasFL_ints
  generalize σ9.set p3 (.list (W.map .int)) = σA at EA WA ⊢
  refine r_var (l_bind (l_bind (l_bind (l_bind (l_there rfl (l_there rfl (l_there rfl l_here))))))) ?_
  refine a_set (fs' := [("looks", .ref p1), ("deeds", .ref p2), ("wished", .ref p3)]) rfl (EA _ _ x9) (EA _ _ d9) rfl rfl rfl ?_
  refine s_nxt (s_nil ⟨rfl, ?_⟩)
  exact hQ _ _ (setE (E9.trans EA)) ⟨x, dx, .ref p1, .ref p2, .ref p3, rfl, ⟨hx, hdx⟩, by rw [set_ne _ _ (Ne.symm hne)]; exact EA _ _ x9, set_at _ _ _, (L9.ext EA).move mv fun _ q => q.1, (D9.ext EA).move mv fun _ q => q.1, WA.move mv fun _ q => q.1⟩
end BP

/-! ## GSpec9 -/
set_option linter.unusedVariables false
set_option linter.unusedSimpArgs false
namespace BP
open PySem
variable {F : Nat → CallW} {gv : Glo}

/-- an item of a list, by its data -/
theorem sub_data {σ : Sto} {ds : List Dat} {v : Val} {k : Int} {Q : KV} {d : Dat} (hv : Has σ (.list ds) v) (h0 : 0 ≤ k) (hd : ds[k.toNat]? = some d) (hQ : ∀ x, Has σ d x → Q x σ) : subW v (.int k) σ Q := by
  refine Classical.byContradiction fun hG => ?_
  obtain ⟨a, xs, rfl, ha, hxs, _⟩ := has_list_len hv
  obtain ⟨x, hx, hdx⟩ := hasL_get hxs hd
  obtain ⟨j, rfl⟩ := Int.eq_ofNat_of_zero_le h0
  refine hG ?_
  clear hG
  refine subW_list ha (x := x) (by rw [getIdx_nat]; simpa using hx) (hQ x hdx)
theorem irange_at {n : Nat} {done todo : List Int} {k : Int} (h : done ++ k :: todo = irange 0 n) : k = (done.length : Int) ∧ done.length < n := by
  have h1 : (irange 0 n)[done.length]? = some k := by rw [← h]; simp
  simp only [irange, List.getElem?_map] at h1
  cases q : (List.range ((n : Int) - 0).toNat)[done.length]? with
  | none => rw [q] at h1; cases h1
  | some m =>
    rw [q] at h1
    obtain ⟨h2, h3⟩ := List.getElem?_eq_some_iff.mp q
    simp at h3 h1 h2
    subst h3; omega
theorem drop_at {ds : List Dat} {k : Nat} {d : Dat} (h : ds[k]? = some d) : ds.drop k = d :: ds.drop (k + 1) := by
  obtain ⟨h1, rfl⟩ := List.getElem?_eq_some_iff.mp h
  exact List.drop_eq_getElem_cons h1

theorem rising_no {d : Dat} {ds : List Dat} {b m : Int} (h : wholeD d (b + 1) (m - 1) = false) : risingD (d :: ds) b m = false := by
  show (wholeD d (b + 1) (m - 1) && _) = false
  rw [h]; rfl
theorem rising_yes {i : Int} {ds : List Dat} {b m : Int} (h : b + 1 ≤ i ∧ i ≤ m - 1) : risingD (.int i :: ds) b m = risingD ds i m := by
  show (wholeD (.int i) (b + 1) (m - 1) && risingD ds i m) = _
  rw [wholeD, decide_eq_true h.1, decide_eq_true h.2]; rfl
theorem law_is_rising_spec (hi : FnOk F gv "_law_int" d_law_int) (h : FnOk F gv "_law_is_rising" d_law_is_rising) {d : Nat} {e : Dat} {v : Val} {many : Int} {σ : Sto} {Q : KV} {E : KE} (hv : Has σ e v) (hs : sm 8 e = true)
   (hQ : ∀ τ, Ext σ τ → Q (.bool (isRisD e many)) τ) : F (d + 2) false "_law_is_rising" [v, .int many] σ Q E := by
  refine FnOk.go h rfl ?_
  refine s_cons ?_; refine s_if ?_; refine r_not ?_; refine r_isi ?_; refine r_var (l_bind (l_bind (l_there rfl l_here))) ?_
  refine y_dl hv ?_
  refine t_bool ?_; refine t_bool ?_
  cases c1 : isL e with
  | false =>
    refine i_nf ?_
    refine s_cons ?_; refine s_ret ?_; refine r_bool ?_; refine s_out ?_; refine s_out ?_; refine k_ret ?_
    have := hQ σ (.refl σ)
    rw [show isRisD e many = false by cases e <;> first | rfl | cases c1] at this
    exact this
  | true =>
  refine i_nt ?_; refine s_nil ?_
  have ee := isL_eq c1
  generalize elems e = ds at ee
  subst ee
  have hl100 := (sm_list hs).1
  refine Classical.byContradiction fun hG => ?_
  obtain ⟨a, xs, rfl, ha, hxs, hl⟩ := has_list_len hv
  refine hG ?_
  clear hG
  refine s_nxt ?_; refine s_cons ?_; refine s_for ?_; refine r_bcall ?_; refine r_cons ?_; refine r_bcall ?_; refine r_cons ?_; refine r_var (l_bind (l_bind (l_there rfl l_here))) ?_; refine r_nil ?_; refine b_len (by assumption) ?_; refine r_nil ?_
  rw [hl]
  refine ⟨by rw [limI]; omega, by rw [limI]; omega, fun r hr => ?_⟩
  have hR : (σ.set r (.range 0 ds.length)) r = some (.range 0 ds.length) := set_at _ _ _
  have e1 : Ext σ (σ.set r (.range 0 ds.length)) := .set hr _
  generalize σ.set r (.range 0 ds.length) = σ1 at hR e1 ⊢
  refine ⟨_, turns_range hR, ?_⟩
  refine wpFor_inv (fun items ρ' σ' => ∃ (done todo : List Int) (b : Int), items = todo.map .int ∧ done ++ todo = irange 0 ds.length ∧ Ext σ σ' ∧ σ' r = some (.range 0 ds.length) ∧ -1 ≤ b ∧ (0 < done.length → ds[done.length - 1]? = some (.int b)) ∧ (done.length = 0 → b = -1) ∧ (∀ τ, Ext σ τ → Q (.bool (risingD (ds.drop done.length) b many)) τ) ∧
      ρ' "_law_row" = some (.ref a) ∧ ρ' "_law_many" = some (.int many)) ?_ ?_ ?_ _ _ _ ?_
  · intro items ρ' σ' H9
    refine Classical.byContradiction fun hG => ?_
    obtain ⟨done, todo, b, q1, q2, q3, q4, q5, q6, q7, q8, q9, q10⟩ := H9
    exact hG (stay_range hR q4)
  · intro ρ' σ' H9
    refine Classical.byContradiction fun hG => ?_
    obtain ⟨done, todo, b, q1, q2, q3, q4, q5, q6, q7, q8, q9, q10⟩ := H9
    refine hG ?_
    clear hG
    have : todo = [] := by cases todo with
      | nil => rfl
      | cons _ _ => cases q1
    subst this
    rw [List.append_nil] at q2
    refine s_nxt ?_; refine s_cons ?_; refine s_ret ?_; refine r_bool ?_; refine s_out ?_; refine k_ret ?_
    have := q8 σ' q3
    rw [q2, List.drop_of_length_le (by simp [irange])] at this
    exact this
  · intro u items ρ' σ' K H9 k1 k2
    refine Classical.byContradiction fun hG => ?_
    obtain ⟨done, todo, b, q1, q2, q3, q4, q5, q6, q7, q8, q9, q10⟩ := H9
    cases todo with
    | nil => cases q1
    | cons k todo =>
    rw [List.map_cons] at q1
    obtain ⟨rfl, rfl⟩ := List.cons.inj q1
    obtain ⟨hk, hkl⟩ := irange_at q2
    subst hk
    refine hG ?_
    clear hG
    have hat : ds[done.length]? = some ds[done.length] := List.getElem?_eq_getElem hkl
    have hv' := hv.ext q3
    have hget : ∀ {Q' : KV}, (∀ x, Has σ' ds[done.length] x → Q' x σ') → subW (.ref a) (.int (done.length : Int)) σ' Q' := fun k => sub_data hv' (by omega) (by rw [Int.toNat_natCast]; exact hat) k
    have no : wholeD ds[done.length] (b + 1) (many - 1) = false → ∀ ρ'', K (.ret (.bool false)) ρ'' σ' := fun hn ρ'' => by
      have := q8 σ' q3
      rw [drop_at hat, rising_no hn] at this
      exact k2 _ _ _ (s_out (k_ret this))
    have yes : ∀ i, ds[done.length] = .int i → (b + 1 ≤ i ∧ i ≤ many - 1) → ∀ ρ'', ρ'' "_law_row" = some (.ref a) → ρ'' "_law_many" = some (.int many) → K .next ρ'' σ' := fun i hi' hb ρ'' p1 p2 =>
      k1 _ _ ⟨done ++ [(done.length : Int)], todo, i, rfl, by rw [← q2]; simp, q3, q4, by omega, fun _ => by simpa [hi'] using hat, fun h0 => by simp at h0, fun τ hτ => by
        have := q8 τ hτ
        rw [drop_at hat, hi', rising_yes hb] at this
        rw [List.length_append]
        exact this, p1, p2⟩
    refine s_cons ?_; refine s_if ?_; refine r_or ?_; refine r_or2 ?_; refine r_not ?_; refine r_call (FnOk.cf (by assumption)) ?_; refine r_cons ?_; refine r_sub ?_; refine r_var (by assumption) ?_; refine r_var l_here ?_
    refine hget fun x1 hx1 => ?_
    refine r_nil ?_
    refine law_int_spec hi hx1 ?_
    refine t_bool ?_; refine t_bool ?_
    generalize ds[done.length] = dk at hat hget no yes hx1 ⊢
    cases dk with
    | int i =>
      refine i_neg rfl ?_
      refine r_or2 ?_; refine r_cmp ?_; refine r_sub ?_; refine r_var (by assumption) ?_; refine r_var l_here ?_
      refine hget fun x2 hx2 => ?_
      cases hx2
      refine r_int ?_; refine c_lt ?_; refine t_bool ?_
      refine i_dec (fun c => ?_) fun c => ?_
      · refine t_bool ?_
        refine i_pos (decide_eq_true c) ?_
        refine s_cons ?_; refine s_ret ?_; refine r_bool ?_; refine s_out ?_; refine s_out ?_
        exact no (by rw [wholeD, decide_eq_false (by omega : ¬ b + 1 ≤ i)]; rfl) _
      refine r_or2 ?_; refine r_cmp ?_; refine r_sub ?_; refine r_var (by assumption) ?_; refine r_var l_here ?_
      refine hget fun x2 hx2 => ?_
      cases hx2
      refine r_var (by assumption) ?_; refine c_ge ?_; refine t_bool ?_
      refine i_dec (fun c' => ?_) fun c' => ?_
      · refine t_bool ?_
        refine i_pos (decide_eq_true c') ?_
        refine s_cons ?_; refine s_ret ?_; refine r_bool ?_; refine s_out ?_; refine s_out ?_
        exact no (by rw [wholeD, decide_eq_false (by omega : ¬ i ≤ many - 1), Bool.and_false]) _
      refine r_or1 ?_; refine r_and ?_; refine r_and2 ?_; refine r_cmp ?_; refine r_var l_here ?_; refine r_int ?_; refine c_gt ?_; refine t_bool ?_
      refine i_dec (fun c2 => ?_) fun c2 => ?_
      · refine r_and1 ?_; refine r_cmp ?_; refine r_sub ?_; refine r_var (by assumption) ?_; refine r_var l_here ?_
        refine hget fun x2 hx2 => ?_
        cases hx2
        refine r_sub ?_; refine r_var (by assumption) ?_; refine r_bin ?_; refine r_var l_here ?_; refine r_int ?_; refine o_sub ?_
        refine sub_data hv' (by omega) (by rw [show ((done.length : Int) - 1).toNat = done.length - 1 by omega]; exact q6 (by omega)) fun x3 hx3 => ?_
        cases hx3
        refine c_le ?_; refine t_bool ?_
        refine i_dec (fun c3 => ?_) fun c3 => ?_
        · refine s_cons ?_; refine s_ret ?_; refine r_bool ?_; refine s_out ?_; refine s_out ?_
          exact no (by rw [wholeD, decide_eq_false (by omega : ¬ b + 1 ≤ i)]; rfl) _
        · refine s_nil ?_
          refine s_nxt ?_; refine s_nil ?_
          exact yes i rfl (by omega) _ (by (repeat (first | with_reducible exact l_here | assumption | refine l_there rfl ?_ | with_reducible refine l_bind ?_ | with_reducible refine l_bind0 ?_))) (by (repeat (first | with_reducible exact l_here | assumption | refine l_there rfl ?_ | with_reducible refine l_bind ?_ | with_reducible refine l_bind0 ?_)))
      · refine t_bool ?_
        refine i_neg (decide_eq_false c2) ?_
        refine s_nil ?_
        refine s_nxt ?_; refine s_nil ?_
        have := q7 (by omega)
        exact yes i rfl (by omega) _ (by (repeat (first | with_reducible exact l_here | assumption | refine l_there rfl ?_ | with_reducible refine l_bind ?_ | with_reducible refine l_bind0 ?_))) (by (repeat (first | with_reducible exact l_here | assumption | refine l_there rfl ?_ | with_reducible refine l_bind ?_ | with_reducible refine l_bind0 ?_)))
    | none =>
      refine i_pos rfl ?_
      refine t_bool ?_
      refine i_pos rfl ?_
      refine s_cons ?_; refine s_ret ?_; refine r_bool ?_; refine s_out ?_; refine s_out ?_
      exact no rfl _
    | bool _ =>
      refine i_pos rfl ?_
      refine t_bool ?_
      refine i_pos rfl ?_
      refine s_cons ?_; refine s_ret ?_; refine r_bool ?_; refine s_out ?_; refine s_out ?_
      exact no rfl _
    | str _ =>
      refine i_pos rfl ?_
      refine t_bool ?_
      refine i_pos rfl ?_
      refine s_cons ?_; refine s_ret ?_; refine r_bool ?_; refine s_out ?_; refine s_out ?_
      exact no rfl _
    | list _ =>
      refine i_pos rfl ?_
      refine t_bool ?_
      refine i_pos rfl ?_
      refine s_cons ?_; refine s_ret ?_; refine r_bool ?_; refine s_out ?_; refine s_out ?_
      exact no rfl _
    | tup _ =>
      refine i_pos rfl ?_
      refine t_bool ?_
      refine i_pos rfl ?_
      refine s_cons ?_; refine s_ret ?_; refine r_bool ?_; refine s_out ?_; refine s_out ?_
      exact no rfl _
  · exact ⟨[], irange 0 ds.length, -1, rfl, rfl, e1, hR, Int.le_refl _, fun h => absurd h (by simp), fun _ => rfl, fun τ hτ => hQ τ hτ, by (repeat (first | with_reducible exact l_here | assumption | refine l_there rfl ?_ | with_reducible refine l_bind ?_ | with_reducible refine l_bind0 ?_)), by (repeat (first | with_reducible exact l_here | assumption | refine l_there rfl ?_ | with_reducible refine l_bind ?_ | with_reducible refine l_bind0 ?_))⟩
end BP

/-! ## GSpecA -/
set_option linter.unusedVariables false
set_option linter.unusedSimpArgs false
namespace BP
open PySem
variable {F : Nat → CallW} {gv : Glo}

theorem deedB_no {e : Dat} {m : Int} (h : isL e = false) : deedB e m = false := by cases e <;> first | rfl | cases h
theorem deedB_eq {e : Dat} {m : Int} (h : isL e = true) : deedB e m = (decide (((elems e).length : Int) = m) && (elems e).all (fun r => isRisD r m && !isNil r)) := by cases e <;> first | rfl | cases h
/-- nothing is found if all is well -/
theorem none_found {p q : Dat → Bool} (hpq : ∀ d, p d = !q d) (ds : List Dat) : (!isNil (.list (ds.filter p))) = !ds.all q := by
  show (!(ds.filter p).isEmpty) = _
  congr 1
  induction ds with
  | nil => rfl
  | cons d ds ih =>
    rw [List.all_cons, List.filter_cons, hpq d]
    cases q d with
    | true => exact ih
    | false => rfl
theorem dOk_filter {n : Nat} {p : Dat → Bool} {ds : List Dat} (hn : n ≤ 8) (h : ∀ d ∈ ds, sm n d = true) : dOk 9 (.list (ds.filter p)) = true := by
  simp only [dOk, List.all_eq_true]
  exact fun d hd => sm_ok n 8 d hn (h d (List.mem_filter.mp hd).1)

theorem law_good_spec (hi : FnOk F gv "_law_int" d_law_int) (hr : FnOk F gv "_law_is_rising" d_law_is_rising) (h : FnOk F gv "_law_good" d03_law_good) {d : Nat} {vl vd vw : Val} {el ed ew : Dat} {σ : Sto} {Q : KV} {E : KE}
    (hl : Has σ el vl) (hd : Has σ ed vd) (hw : Has σ ew vw) (sl : sm 8 el = true) (sd : sm 8 ed = true) (sw : sm 8 ew = true)
    (hQ : ∀ τ, Ext σ τ → Q (.bool (houseB el ed ew)) τ) : F (d + 3) false "_law_good" [vl, vd, vw] σ Q E := by
  refine FnOk.go h rfl ?_
  refine s_cons ?_; refine s_if ?_; refine r_or ?_; refine r_or2 ?_; refine r_not ?_; refine r_isi ?_; refine r_var (l_bind (l_bind (l_bind (l_there rfl (l_there rfl l_here))))) ?_
  refine y_dl hl ?_
  refine t_bool ?_; refine t_bool ?_
  cases c1 : isL el with
  | false =>
    refine i_nf ?_; refine t_bool ?_; refine i_nf ?_
    refine s_cons ?_; refine s_ret ?_; refine r_bool ?_; refine s_out ?_; refine s_out ?_; refine k_ret ?_
    have := hQ σ (.refl σ)
    rw [houseB, c1] at this
    exact this
  | true =>
  refine i_nt ?_; refine r_or1 ?_; refine r_not ?_; refine r_isi ?_; refine r_var (l_bind (l_bind (l_bind (l_there rfl l_here)))) ?_
  refine y_dl hd ?_
  refine t_bool ?_; refine t_bool ?_
  cases c5 : isL ed with
  | false =>
    refine i_nf ?_
    refine s_cons ?_; refine s_ret ?_; refine r_bool ?_; refine s_out ?_; refine s_out ?_; refine k_ret ?_
    have := hQ σ (.refl σ)
    rw [houseB, c1, c5] at this
    simp only [Bool.false_and, Bool.and_false] at this
    exact this
  | true =>
  refine i_nt ?_; refine s_nil ?_
  refine Classical.byContradiction fun hG => ?_
  obtain ⟨al, xl, rfl, hal, hxl, hll⟩ := has_elems hl c1
  obtain ⟨ad, xd, rfl, had, hxd, hld⟩ := has_elems hd c5
  refine hG ?_
  clear hG
  obtain ⟨s1, s2⟩ := sm_elems sl
  obtain ⟨t1, t2⟩ := sm_elems sd
  refine s_nxt ?_; refine s_cons ?_; refine s_if ?_; refine r_or ?_; refine r_or2 ?_; refine r_not ?_; refine r_cmp2 ?_; refine r_int ?_; refine r_bcall ?_; refine r_cons ?_; refine r_var (l_bind (l_bind (l_bind (l_there rfl (l_there rfl l_here))))) ?_; refine r_nil ?_; refine b_len (by assumption) ?_; refine c_le ?_
  rw [hll]
  cases c2 : decide (1 ≤ ((elems el).length : Int)) with
  | false =>
    refine i_f ?_; refine t_bool ?_; refine t_bool ?_; refine i_nf ?_; refine t_bool ?_; refine i_nf ?_
    refine s_cons ?_; refine s_ret ?_; refine r_bool ?_; refine s_out ?_; refine s_out ?_; refine k_ret ?_
    have := hQ σ (.refl σ)
    rw [houseB, c1, c2] at this
    exact this
  | true =>
  refine i_t ?_; refine r_int ?_; refine c_le ?_; refine t_bool ?_; refine t_bool ?_
  cases c3 : decide (((elems el).length : Int) ≤ 8) with
  | false =>
    refine i_nf ?_; refine t_bool ?_; refine i_nf ?_
    refine s_cons ?_; refine s_ret ?_; refine r_bool ?_; refine s_out ?_; refine s_out ?_; refine k_ret ?_
    have := hQ σ (.refl σ)
    rw [houseB, c1, c2, c3] at this
    exact this
  | true =>
  refine i_nt ?_; refine r_or2 ?_; refine r_not ?_; refine r_cmp2 ?_; refine r_int ?_; refine r_bcall ?_; refine r_cons ?_; refine r_var (l_bind (l_bind (l_bind (l_there rfl l_here)))) ?_; refine r_nil ?_; refine b_len (by assumption) ?_; refine c_le ?_
  rw [hld]
  cases c6 : decide (1 ≤ ((elems ed).length : Int)) with
  | false =>
    refine i_f ?_; refine t_bool ?_; refine t_bool ?_; refine i_nf ?_; refine t_bool ?_; refine i_nf ?_
    refine s_cons ?_; refine s_ret ?_; refine r_bool ?_; refine s_out ?_; refine s_out ?_; refine k_ret ?_
    have := hQ σ (.refl σ)
    rw [houseB, c6] at this
    simp only [Bool.false_and, Bool.and_false] at this
    exact this
  | true =>
  refine i_t ?_; refine r_int ?_; refine c_le ?_; refine t_bool ?_; refine t_bool ?_
  cases c7 : decide (((elems ed).length : Int) ≤ 5) with
  | false =>
    refine i_nf ?_; refine t_bool ?_; refine i_nf ?_
    refine s_cons ?_; refine s_ret ?_; refine r_bool ?_; refine s_out ?_; refine s_out ?_; refine k_ret ?_
    have := hQ σ (.refl σ)
    rw [houseB, c7] at this
    simp only [Bool.false_and, Bool.and_false] at this
    exact this
  | true =>
  refine i_nt ?_; refine r_or1 ?_; refine r_not ?_; refine r_call (FnOk.cf (by assumption)) ?_; refine r_cons ?_; refine r_var (l_bind (l_bind (l_bind (l_bind0 l_here)))) ?_; refine r_cons ?_; refine r_bcall ?_; refine r_cons ?_; refine r_var (l_bind (l_bind (l_bind (l_there rfl (l_there rfl l_here))))) ?_; refine r_nil ?_; refine b_len (by assumption) ?_; refine r_nil ?_
  rw [hll]
  refine law_is_rising_spec hi hr hw sw fun σ1 e1 => ?_
  refine t_bool ?_; refine t_bool ?_
  cases c9 : isRisD ew (elems el).length with
  | false =>
    refine i_nf ?_
    refine s_cons ?_; refine s_ret ?_; refine r_bool ?_; refine s_out ?_; refine s_out ?_; refine k_ret ?_
    have := hQ σ1 e1
    rw [houseB, c9] at this
    simp only [Bool.false_and, Bool.and_false] at this
    exact this
  | true =>
  refine i_nt ?_; refine s_nil ?_
  -- the looks
  have hal1 := e1 _ _ hal
  refine s_nxt ?_; refine s_cons ?_; refine s_if ?_; refine r_cmp ?_; refine r_comp ?_; refine r_var (l_bind (l_bind (l_bind (l_there rfl (l_there rfl l_here))))) ?_
  refine ⟨_, turns_list hal1, by simp [lim]; omega, ?_⟩
  refine wpComp_of (D := fun r => r) (fun r => !wholeD r 0 9) (fun r => r) (elems el) xl [] _ (by rw [List.map_id']; exact hxl.ext e1) (fun σ' e => stay_list hal1 (e _ _ hal1)) ?_ ?_ ?_
  · intro r _ v σ' e hv K' hK
    have hK := hK σ' (.refl σ')
    refine r_if1 ?_; refine r_or ?_; refine r_or2 ?_; refine r_not ?_; refine r_call (FnOk.cf (by assumption)) ?_; refine r_cons ?_; refine r_var l_here ?_; refine r_nil ?_
    refine law_int_spec hi hv ?_
    refine t_bool ?_; refine t_bool ?_
    cases r with
    | int i =>
      refine i_neg rfl ?_
      cases hv
      refine r_or2 ?_; refine r_cmp ?_; refine r_var l_here ?_; refine r_int ?_; refine c_lt ?_; refine t_bool ?_
      refine i_dec (fun c => ?_) fun c => ?_
      · refine t_bool ?_
        refine i_pos (decide_eq_true c) ?_
        refine r_if0 ?_
        rw [wholeD, decide_eq_false (by omega : ¬ 0 ≤ i)] at hK
        exact hK
      refine r_or1 ?_; refine r_cmp ?_; refine r_var l_here ?_; refine r_int ?_; refine c_gt ?_; refine t_bool ?_
      refine i_dec (fun c' => ?_) fun c' => ?_
      · refine r_if0 ?_
        rw [wholeD, decide_eq_false (by omega : ¬ i ≤ 9), Bool.and_false] at hK
        exact hK
      · rw [wholeD, decide_eq_true (by omega : 0 ≤ i), decide_eq_true (by omega : i ≤ 9)] at hK
        exact hK
    | none =>
      refine i_pos rfl ?_
      refine t_bool ?_
      refine i_pos rfl ?_
      refine r_if0 ?_
      exact hK
    | bool _ =>
      refine i_pos rfl ?_
      refine t_bool ?_
      refine i_pos rfl ?_
      refine r_if0 ?_
      exact hK
    | str _ =>
      refine i_pos rfl ?_
      refine t_bool ?_
      refine i_pos rfl ?_
      refine r_if0 ?_
      exact hK
    | list _ =>
      refine i_pos rfl ?_
      refine t_bool ?_
      refine i_pos rfl ?_
      refine r_if0 ?_
      exact hK
    | tup _ =>
      refine i_pos rfl ?_
      refine t_bool ?_
      refine i_pos rfl ?_
      refine r_if0 ?_
      exact hK
  · intro r _ _ v σ' e hv K' hK
    refine r_var l_here ?_
    exact hK _ _ (.refl _) hv
  intro ys σ2 e2 hys b2 hb2
  rw [List.map_id'] at hys
  have e3 : Ext σ (σ2.set b2 (.list ([] ++ ys))) := (e1.trans e2).trans (.set hb2 _)
  have Y3 : Has (σ2.set b2 (.list ([] ++ ys))) (.list ((elems el).filter fun r => !wholeD r 0 9)) (.ref b2) := has_new_list hb2 hys
  generalize σ2.set b2 (.list ([] ++ ys)) = σ3 at e3 Y3 ⊢
  refine r_list0 ?_
  refine ne_nilD Y3 (dOk_filter (by omega) s2) fun σ4 e4 => ?_
  rw [none_found (q := fun r => wholeD r 0 9) (fun _ => rfl)]
  refine t_bool ?_
  have E4 := e3.trans e4
  cases c4 : (elems el).all fun r => wholeD r 0 9 with
  | false =>
    refine i_nf ?_
    refine s_cons ?_; refine s_ret ?_; refine r_bool ?_; refine s_out ?_; refine s_out ?_; refine k_ret ?_
    have := hQ σ4 E4
    rw [houseB, c4] at this
    simp only [Bool.false_and, Bool.and_false] at this
    exact this
  | true =>
  refine i_nt ?_; refine s_nil ?_
  have hQ : ∀ τ, Ext σ τ → Q (.bool ((elems ed).all fun x => deedB x (elems el).length)) τ := fun τ hτ => by
    have := hQ τ hτ
    rw [houseB, c1, c2, c3, c4, c5, c6, c7, c9, Bool.and_true] at this
    exact this
  -- each deed
  have had4 := E4 _ _ had
  refine s_nxt ?_; refine s_cons ?_; refine s_for ?_; refine r_var (l_bind (l_bind (l_bind (l_there rfl l_here)))) ?_
  refine ⟨_, turns_list had4, ?_⟩
  refine wpFor_inv (fun items ρ' σ' => ∃ ds', HasL σ ds' items ∧ (∀ x ∈ ds', sm 7 x = true) ∧ Ext σ σ' ∧ (∀ τ, Ext σ τ → Q (.bool (ds'.all fun x => deedB x (elems el).length)) τ) ∧ ρ' "_law_looks_here" = some (.ref al)) ?_ ?_ ?_ _ _ _ ?_
  · intro items ρ' σ' H9
    refine Classical.byContradiction fun hG => ?_
    obtain ⟨ds', q1, q2, q3, q4, q5⟩ := H9
    exact hG (stay_list had4 (q3 _ _ had))
  · intro ρ' σ' H9
    refine Classical.byContradiction fun hG => ?_
    obtain ⟨ds', q1, q2, q3, q4, q5⟩ := H9
    refine hG ?_
    clear hG
    have : ds' = [] := by cases ds' with
      | nil => rfl
      | cons _ _ => obtain ⟨_, _, q, _⟩ := q1; cases q
    subst this
    refine s_nxt ?_; refine s_cons ?_; refine s_ret ?_; refine r_bool ?_; refine s_out ?_; refine k_ret ?_
    exact q4 σ' q3
  · intro u items ρ' σ' K H9 k1 k2
    refine Classical.byContradiction fun hG => ?_
    obtain ⟨ds', q1, q2, q3, q4, q5⟩ := H9
    cases ds' with
    | nil => cases q1
    | cons x ds' =>
    obtain ⟨hx, hr'⟩ := HasL.cons.mp q1
    refine hG ?_
    clear hG
    have no : deedB x (elems el).length = false → ∀ ρ'' τ, Ext σ τ → K (.ret (.bool false)) ρ'' τ := fun hn ρ'' τ hτ => by
      have := q4 τ hτ
      rw [List.all_cons, hn] at this
      exact k2 _ _ _ (s_out (k_ret this))
    have yes : deedB x (elems el).length = true → ∀ ρ'' τ, Ext σ τ → ρ'' "_law_looks_here" = some (.ref al) → K .next ρ'' τ := fun hn ρ'' τ hτ p =>
      k1 _ _ ⟨ds', hr', fun y hy => q2 y (.tail _ hy), hτ, fun τ' hτ' => by
        have := q4 τ' hτ'
        rw [List.all_cons, hn] at this
        exact this, p⟩
    have hx' := hx.ext q3
    have sx := q2 x (.head _)
    refine s_cons ?_; refine s_if ?_; refine r_or ?_; refine r_or2 ?_; refine r_not ?_; refine r_isi ?_; refine r_var l_here ?_
    refine y_dl hx' ?_
    refine t_bool ?_; refine t_bool ?_
    cases f1 : isL x with
    | false =>
      refine i_nf ?_; refine t_bool ?_; refine i_nf ?_
      refine s_cons ?_; refine s_ret ?_; refine r_bool ?_; refine s_out ?_; refine s_out ?_
      exact no (deedB_no f1) _ _ q3
    | true =>
    refine i_nt ?_; refine r_or1 ?_; refine r_cmp ?_; refine r_bcall ?_; refine r_cons ?_; refine r_var l_here ?_; refine r_nil ?_
    refine Classical.byContradiction fun hG => ?_
    obtain ⟨ax, xx, rfl, hax, hxx, hlx⟩ := has_elems hx' f1
    refine hG ?_
    clear hG
    obtain ⟨u1, u2⟩ := sm_elems (n := 6) sx
    have hal' := q3 _ _ hal
    refine b_len (by assumption) ?_; refine r_bcall ?_; refine r_cons ?_; refine r_var (by assumption) ?_; refine r_nil ?_; refine b_len (by assumption) ?_; refine c_ne ?_; refine t_bool ?_
    rw [hlx, hll]
    by_cases f2 : ((elems x).length : Int) = (elems el).length
    · rw [decide_eq_false (fun n => n f2)]
      refine i_f ?_; refine s_nil ?_
      refine s_nxt ?_; refine s_cons ?_; refine s_if ?_; refine r_cmp ?_; refine r_comp ?_; refine r_var l_here ?_
      refine ⟨_, turns_list hax, by simp [lim]; omega, ?_⟩
      refine wpComp_of (D := fun r => r) (fun r => !(isRisD r (elems el).length && !isNil r)) (fun r => r) (elems x) xx [] _ (by rw [List.map_id']; exact hxx) (fun σ'' e => stay_list hax (e _ _ hax)) ?_ ?_ ?_
      · intro r hr'' v σ'' e hv K' hK
        refine r_if1 ?_; refine r_or ?_; refine r_or2 ?_; refine r_cmp ?_; refine r_var l_here ?_; refine r_list0 ?_
        refine eq_nilD hv (sm_ok 6 9 r (by omega) (u2 r hr'')) fun σ5 e5 => ?_
        refine t_bool ?_
        cases f3 : isNil r with
        | true =>
          refine i_t ?_; refine t_bool ?_; refine i_t ?_; refine r_if0 ?_
          have := hK σ5 e5
          rw [f3, Bool.not_true, Bool.and_false] at this
          exact this
        | false =>
          have hal5 := (e.trans e5) _ _ hal'
          refine i_f ?_; refine r_or1 ?_; refine r_not ?_; refine r_call (FnOk.cf (by assumption)) ?_; refine r_cons ?_; refine r_var l_here ?_; refine r_cons ?_; refine r_bcall ?_; refine r_cons ?_; refine r_var (by assumption) ?_; refine r_nil ?_; refine b_len (by assumption) ?_; refine r_nil ?_
          rw [hll]
          refine law_is_rising_spec hi hr (hv.ext e5) (sm_mono 6 8 r (by omega) (u2 r hr'')) fun σ6 e6 => ?_
          have := hK σ6 (e5.trans e6)
          rw [f3, Bool.not_false, Bool.and_true] at this
          refine t_bool ?_; refine t_bool ?_
          cases f4 : isRisD r (elems el).length with
          | true =>
            rw [f4] at this
            refine i_nt ?_
            exact this
          | false =>
            rw [f4] at this
            refine i_nf ?_; refine r_if0 ?_
            exact this
      · intro r _ _ v σ'' e hv K' hK
        refine r_var l_here ?_
        exact hK _ _ (.refl _) hv
      intro ys σ5 e5 hys b5 hb5
      rw [List.map_id'] at hys
      have e6 : Ext σ (σ5.set b5 (.list ([] ++ ys))) := (q3.trans e5).trans (.set hb5 _)
      have Y6 : Has (σ5.set b5 (.list ([] ++ ys))) (.list ((elems x).filter fun r => !(isRisD r (elems el).length && !isNil r))) (.ref b5) := has_new_list hb5 hys
      generalize σ5.set b5 (.list ([] ++ ys)) = σ6 at e6 Y6 ⊢
      refine r_list0 ?_
      refine ne_nilD Y6 (dOk_filter (by omega) u2) fun σ7 e7 => ?_
      rw [none_found (q := fun r => isRisD r (elems el).length && !isNil r) (fun _ => rfl)]
      refine t_bool ?_
      have hdB := deedB_eq (m := (elems el).length) f1
      rw [decide_eq_true f2, Bool.true_and] at hdB
      cases f5 : (elems x).all fun r => isRisD r (elems el).length && !isNil r with
      | false =>
        refine i_nf ?_
        refine s_cons ?_; refine s_ret ?_; refine r_bool ?_; refine s_out ?_; refine s_out ?_
        exact no (by rw [hdB, f5]) _ _ (e6.trans e7)
      | true =>
        refine i_nt ?_; refine s_nil ?_
        refine s_nxt ?_; refine s_nil ?_
        exact yes (by rw [hdB, f5]) _ _ (e6.trans e7) (by (repeat (first | with_reducible exact l_here | assumption | refine l_there rfl ?_ | with_reducible refine l_bind ?_ | with_reducible refine l_bind0 ?_)))
    · rw [decide_eq_true f2]
      refine i_t ?_
      refine s_cons ?_; refine s_ret ?_; refine r_bool ?_; refine s_out ?_; refine s_out ?_
      exact no (by rw [deedB_eq f1, decide_eq_false f2]; rfl) _ _ q3
  · exact ⟨elems ed, hxd, t2, E4, hQ, by (repeat (first | with_reducible exact l_here | assumption | refine l_there rfl ?_ | with_reducible refine l_bind ?_ | with_reducible refine l_bind0 ?_))⟩
end BP

/-! ## GSpecB -/
set_option linter.unusedVariables false
set_option linter.unusedSimpArgs false
namespace BP
open PySem
variable {F : Nat → CallW} {gv : Glo}

/-! ### copies -/
noncomputable def flat1 (d : Dat) : Bool := match d with | .list ds => ds.all intD | _ => false
noncomputable def flat2 (d : Dat) : Bool := match d with | .list ds => ds.all flat1 | _ => false
noncomputable def flat3 (d : Dat) : Bool := match d with | .list ds => ds.all flat2 | _ => false
/-- a copy of the data; if such, all of it is new -/
noncomputable def Cpy (fl : Dat → Bool) (σ σ' : Sto) (d : Dat) (w : Val) : Prop := Has σ' d w ∧ (fl d = true → HasF (new σ) σ' d w)

theorem copy_ite {F : CallW} {x : String} {v : Val} {e : Dat} {ρ : Loc} {σ : Sto} {Q : KV} {E : KE} (hρ : ρ x = some v) (hv : Has σ e v) (hQ : ∀ w σ', Ext σ σ' → Cpy flat1 σ σ' e w → Q w σ') :
    wpE F gv false (.ite (.isi (.var x) .list) (.bcall .list [.var x]) (.var x)) ρ σ Q E := by
  refine r_ite ?_; refine r_isi ?_; refine r_var (by assumption) ?_
  refine y_dl hv ?_
  refine t_bool ?_
  cases c1 : isL e with
  | false =>
    refine i_f ?_; refine r_var (by assumption) ?_
    exact hQ v σ (.refl σ) ⟨hv, fun h => by cases e <;> first | cases h | cases c1⟩
  | true =>
    have ee := isL_eq c1
    generalize elems e = ds at ee
    subst ee
    refine Classical.byContradiction fun hG => ?_
    obtain ⟨a, xs, rfl, ha, hxs, hl⟩ := has_list_len hv
    refine hG ?_
    clear hG
    refine i_t ?_; refine r_bcall ?_; refine r_cons ?_; refine r_var (by assumption) ?_; refine r_nil ?_; refine b_list (by assumption) ?_
    refine n_ob fun b hb => hQ _ _ (.set hb _) ⟨has_new_list hb hxs, fun h => ?_⟩
    obtain ⟨L, rfl⟩ := ints_of (List.all_eq_true.mp h)
    rw [hasL_ints_eq hxs]
    exact newF_list hb hb hasFL_ints

theorem copy_list {fl : Dat → Bool} {B : Loc → Sto → KV → Prop} {F : CallW} {a : Nat} {ds : List Dat} {xs : List Val} {x : String} {ρ : Loc} {σ : Sto} {Q : KV} (ha : σ a = some (.list xs)) (hxs : HasL σ ds xs) (hl : ds.length ≤ 100)
    (hB : ∀ r ∈ ds, ∀ v σ' (K' : KV), Ext σ σ' → Has σ' r v → (∀ w σ'', Ext σ' σ'' → Cpy fl σ' σ'' r w → K' w σ'') → B (upd ρ x v) σ' K')
    (hQ : ∀ w σ', Ext σ σ' → Has σ' (.list ds) w → (ds.all fl = true → HasF (new σ) σ' (.list ds) w) → Q w σ') :
    ∃ turns, turnsOf σ (.ref a) 1 = some turns ∧ turns.length ≤ lim ∧ wpComp (fun ρ' σ' K => wpIfs F gv false [] ρ' σ' K (fun _ _ => False)) B (stay σ (.ref a) 1 turns) [x] turns [] ρ σ (fun ys σ' => newW σ' (.list ys) Q) := by
  have hlx := hasL_len hxs
  refine ⟨_, turns_list ha, by simp [lim]; omega, ?_⟩
  refine wpComp_ok (fun b => ds.all fl = true → σ b = none) (D := fun r => r) (fun _ => true) (fun r => r) ds xs [] σ (by rw [List.map_id']; exact hxs) (fun σ' e => stay_list ha (e _ _ ha)) ?_ ?_ ?_
  · intro r _ v σ' e hv K' hK; exact hK σ' (.refl σ')
  · intro r hr _ v σ' e hv K' hK
    refine hB r hr v σ' K' e hv fun w σ'' e' hw => hK w σ'' e' ?_
    cases q : ds.all fl with
    | true =>
      have := hw.2 (List.all_eq_true.mp q r hr)
      exact this.move (fun _ _ _ q => q) fun b hb _ => e.new hb
    | false => exact hw.1.hasF.move (fun _ _ _ q => q) fun b _ hb => by cases hb
  · intro ys σ' e hys b hb
    rw [filter_tt, List.map_id'] at hys
    refine hQ _ _ (e.trans (.set hb _)) (has_new_list hb hys.has) fun q => ?_
    exact newF_list hb (e.new hb) (hys.move (fun _ _ _ h => h) fun c hc => hc q)

theorem law_copy_spec (h : FnOk F gv "_law_copy" d03_law_copy) {d : Nat} {e : Dat} {v : Val} {σ : Sto} {Q : KV} {E : KE} (hv : Has σ e v) (hs : sm 8 e = true) (hQ : ∀ w σ', Ext σ σ' → Cpy flat2 σ σ' e w → Q w σ') : F (d + 1) false "_law_copy" [v] σ Q E := by
  refine FnOk.go h rfl ?_
  refine s_cons ?_; refine s_if ?_; refine r_not ?_; refine r_isi ?_; refine r_var (l_bind (l_bind0 l_here)) ?_
  refine y_dl hv ?_
  refine t_bool ?_; refine t_bool ?_
  cases c1 : isL e with
  | false =>
    refine i_nf ?_
    refine s_cons ?_; refine s_ret ?_; refine r_var (l_bind (l_bind0 l_here)) ?_; refine s_out ?_; refine s_out ?_; refine k_ret ?_
    exact hQ v σ (.refl σ) ⟨hv, fun h => by cases e <;> first | cases h | cases c1⟩
  | true =>
    have ee := isL_eq c1
    generalize elems e = ds at ee
    subst ee
    refine Classical.byContradiction fun hG => ?_
    obtain ⟨a, xs, rfl, ha, hxs, hl⟩ := has_list_len hv
    refine hG ?_
    clear hG
    refine i_nt ?_; refine s_nil ?_
    refine s_nxt ?_; refine s_cons ?_; refine s_ret ?_; refine r_comp ?_; refine r_var (l_bind (l_bind0 l_here)) ?_
    refine copy_list (fl := flat1) ha hxs (sm_list hs).1 (fun r _ v σ' K' e hv hK => copy_ite l_here hv hK) fun w σ' e hw hf => ?_
    refine s_out ?_; refine k_ret ?_
    exact hQ w σ' e ⟨hw, hf⟩

theorem law_copied_spec (hc : FnOk F gv "_law_copy" d03_law_copy) (h : FnOk F gv "_law_copied" d_law_copied) {d : Nat} {e : Dat} {v : Val} {σ : Sto} {Q : KV} {E : KE} (hv : Has σ e v) (hs : sm 8 e = true) (hQ : ∀ w σ', Ext σ σ' → Cpy flat3 σ σ' e w → Q w σ') : F (d + 2) false "_law_copied" [v] σ Q E := by
  refine FnOk.go h rfl ?_
  refine s_cons ?_; refine s_if ?_; refine r_not ?_; refine r_isi ?_; refine r_var (l_bind (l_bind0 l_here)) ?_
  refine y_dl hv ?_
  refine t_bool ?_; refine t_bool ?_
  cases c1 : isL e with
  | false =>
    refine i_nf ?_
    refine s_cons ?_; refine s_ret ?_; refine r_var (l_bind (l_bind0 l_here)) ?_; refine s_out ?_; refine s_out ?_; refine k_ret ?_
    exact hQ v σ (.refl σ) ⟨hv, fun h => by cases e <;> first | cases h | cases c1⟩
  | true =>
    have ee := isL_eq c1
    generalize elems e = ds at ee
    subst ee
    refine Classical.byContradiction fun hG => ?_
    obtain ⟨a, xs, rfl, ha, hxs, hl⟩ := has_list_len hv
    refine hG ?_
    clear hG
    refine i_nt ?_; refine s_nil ?_
    refine s_nxt ?_; refine s_cons ?_; refine s_ret ?_; refine r_comp ?_; refine r_var (l_bind (l_bind0 l_here)) ?_
    refine copy_list (fl := flat2) ha hxs (sm_list hs).1 (fun r hr v σ' K' e hv hK => ?_) fun w σ' e hw hf => ?_
    · refine r_call (FnOk.cf (by assumption)) ?_; refine r_cons ?_; refine r_var l_here ?_; refine r_nil ?_
      exact law_copy_spec hc hv (sm_mono 7 8 r (by omega) ((sm_list hs).2 r hr)) hK
    · refine s_out ?_; refine k_ret ?_
      exact hQ w σ' e ⟨hw, hf⟩

/-! ### one item exchanged -/
theorem hasL_take {σ : Sto} : ∀ {ds : List Dat} {xs : List Val}, HasL σ ds xs → ∀ k, HasL σ (ds.take k) (xs.take k)
  | [], xs, h, k => by cases h; rw [List.take_nil, List.take_nil]; exact HasL.nil
  | d :: ds, xs, h, 0 => HasL.nil
  | d :: ds, xs, h, k + 1 => by obtain ⟨y, ys, rfl, h1, h2⟩ := h; exact HasL.cons.mpr ⟨h1, hasL_take h2 k⟩
theorem hasL_drop {σ : Sto} : ∀ {ds : List Dat} {xs : List Val}, HasL σ ds xs → ∀ k, HasL σ (ds.drop k) (xs.drop k)
  | [], xs, h, k => by cases h; rw [List.drop_nil, List.drop_nil]; exact HasL.nil
  | d :: ds, xs, h, 0 => h
  | d :: ds, xs, h, k + 1 => by obtain ⟨y, ys, rfl, h1, h2⟩ := h; exact hasL_drop h2 k
theorem o_take {σ : Sto} {a : Nat} {xs : List Val} {m : Int} {Q : KV} (ha : σ a = some (.list xs)) (h0 : 0 ≤ m) (h1 : m ≤ xs.length) (h : newW σ (.list (xs.take m.toNat)) Q) : sliceW (.ref a) .none (.int m) .none σ Q := by
  simp only [sliceW, listOr, ha, sliced, bnd]
  rw [show cut xs 0 ((max (0 : Int) (min (if m < 0 then m + (xs.length : Int) else m) (xs.length : Int))).toNat) = xs.take m.toNat by
    rw [if_neg (by omega), show (max 0 (min m (xs.length : Int))).toNat = m.toNat by omega]; rfl]
  exact h
theorem o_drop {σ : Sto} {a : Nat} {xs : List Val} {m : Int} {Q : KV} (ha : σ a = some (.list xs)) (h0 : 0 ≤ m) (h1 : m ≤ xs.length) (h : newW σ (.list (xs.drop m.toNat)) Q) : sliceW (.ref a) (.int m) .none .none σ Q := by
  simp only [sliceW, listOr, ha, sliced, bnd]
  rw [show cut xs ((max (0 : Int) (min (if m < 0 then m + (xs.length : Int) else m) (xs.length : Int))).toNat) xs.length = xs.drop m.toNat by
    rw [if_neg (by omega), show (max 0 (min m (xs.length : Int))).toNat = m.toNat by omega]
    unfold cut
    exact List.take_of_length_le (by simp)]
  exact h
theorem o_init {σ : Sto} {a : Nat} {xs : List Val} {Q : KV} (ha : σ a = some (.list xs)) (h : newW σ (.list (xs.take (xs.length - 1))) Q) : sliceW (.ref a) .none (.int (-1)) .none σ Q := by
  simp only [sliceW, listOr, ha, sliced, bnd]
  rw [show cut xs 0 ((max (0 : Int) (min (if (-1 : Int) < 0 then (-1 : Int) + (xs.length : Int) else (-1 : Int)) (xs.length : Int))).toNat) = xs.take (xs.length - 1) by
    rw [if_pos (by omega), show (max 0 (min (-1 + (xs.length : Int)) (xs.length : Int))).toNat = xs.length - 1 by omega]; rfl]
  exact h

noncomputable def putD (ds : List Dat) (k : Int) (t : Dat) : List Dat := if ds.isEmpty then [t] else ds.take (k % ds.length).toNat ++ [t] ++ ds.drop (k % ds.length + 1).toNat
theorem sm_put {n : Nat} {ds : List Dat} {k : Int} {t : Dat} (h : sm (n + 1) (.list ds) = true) (ht : sm n t = true) : sm (n + 1) (.list (putD ds k t)) = true := by
  obtain ⟨h1, h2⟩ := sm_list h
  unfold putD
  split
  · exact sm_mk (by simp) fun d hd => by cases hd with
      | head => exact ht
      | tail _ hd => cases hd
  · rename_i q
    have hp : 0 < ds.length := by cases ds <;> simp at q ⊢
    have a1 := Int.emod_nonneg k (show (ds.length : Int) ≠ 0 by omega)
    have a2 := Int.emod_lt_of_pos k (show (0 : Int) < ds.length by omega)
    refine sm_mk (by simp; omega) fun d hd => ?_
    rcases List.mem_append.mp hd with hd | hd
    · rcases List.mem_append.mp hd with hd | hd
      · exact h2 d (List.mem_of_mem_take hd)
      · cases hd with
        | head => exact ht
        | tail _ hd => cases hd
    · exact h2 d (List.mem_of_mem_drop hd)

theorem law_put_spec (h : FnOk F gv "_law_put" d_law_put) {n d : Nat} {ds : List Dat} {t : Dat} {k : Int} {v u : Val} {σ : Sto} {Q : KV} {E : KE} (hv : Has σ (.list ds) v) (hu : Has σ t u) (hn : n ≤ 8) (hs : sm n (.list ds) = true) (hQ : ∀ w σ', Ext σ σ' → Has σ' (.list (putD ds k t)) w → Q w σ') : F (d + 1) false "_law_put" [v, .int k, u] σ Q E := by
  have hs8 := sm_mono n 8 _ hn hs
  have l100 := (sm_list hs8).1
  refine FnOk.go h rfl ?_
  refine s_cons ?_; refine s_if ?_; refine r_cmp ?_; refine r_var (l_bind (l_bind (l_bind (l_there rfl (l_there rfl l_here))))) ?_; refine r_list0 ?_
  refine eq_nilD hv (sm_ok 8 9 _ (by omega) hs8) fun σ1 e1 => ?_
  refine t_bool ?_
  have q0 : isNil (.list ds) = ds.isEmpty := rfl
  rw [q0]
  cases c : ds.isEmpty with
  | true =>
    refine i_t ?_
    refine s_cons ?_; refine s_ret ?_; refine r_list ?_; refine r_cons ?_; refine r_var (l_bind (l_bind (l_bind (l_bind0 l_here)))) ?_; refine r_nil ?_
    refine n_lit rfl fun a ha => ?_
    refine s_out ?_; refine s_out ?_; refine k_ret ?_
    refine hQ _ _ (e1.trans (.set ha _)) ?_
    rw [putD, c]
    exact has_new_list ha (HasL.cons.mpr ⟨hu.ext e1, HasL.nil⟩)
  | false =>
    have hp : 0 < ds.length := by cases ds with
      | nil => cases c
      | cons _ _ => simp
    have a1 := Int.emod_nonneg k (show (ds.length : Int) ≠ 0 by omega)
    have a2 := Int.emod_lt_of_pos k (show (0 : Int) < ds.length by omega)
    refine Classical.byContradiction fun hG => ?_
    obtain ⟨a, xs, rfl, ha, hxs, hl⟩ := has_list_len hv
    refine hG ?_
    clear hG
    have ha1 := e1 _ _ ha
    refine i_f ?_; refine s_nil ?_
    refine s_nxt ?_; refine s_cons ?_; refine s_ret ?_; refine r_bin ?_; refine r_bin ?_; refine r_slice ?_; refine r_var (l_bind (l_bind (l_bind (l_there rfl (l_there rfl l_here))))) ?_; refine r_none ?_; refine r_bin ?_; refine r_var (l_bind (l_bind (l_bind (l_there rfl l_here)))) ?_; refine r_bcall ?_; refine r_cons ?_; refine r_var (l_bind (l_bind (l_bind (l_there rfl (l_there rfl l_here))))) ?_; refine r_nil ?_; refine b_len (by assumption) ?_
    rw [hl]
    refine o_modn (by omega) (by omega) ?_
    refine r_none ?_
    refine o_take ha1 a1 (by omega) fun b1 h1 => ?_
    have x1 := Ext.set h1 (.list (xs.take (k % ds.length).toNat))
    refine r_list ?_; refine r_cons ?_; refine r_var (l_bind (l_bind (l_bind (l_bind0 l_here)))) ?_; refine r_nil ?_
    refine n_lit rfl fun b2 h2 => ?_
    have x2 := Ext.set h2 (.list [u])
    refine o_cat (x2 _ _ (set_at _ _ _)) (set_at _ _ _) (by simp; omega) fun b3 h3 => ?_
    have A3 := set_at (((σ1.set b1 (.list (xs.take (k % ds.length).toNat))).set b2 (.list [u]))) b3 (.list (xs.take (k % ds.length).toNat ++ [u]))
    have x3 := (x1.trans x2).trans (.set h3 (.list (xs.take (k % ds.length).toNat ++ [u])))
    generalize ((σ1.set b1 (.list (xs.take (k % ds.length).toNat))).set b2 (.list [u])).set b3 (.list (xs.take (k % ds.length).toNat ++ [u])) = σ3 at A3 x3 ⊢
    have ha3 := x3 _ _ ha1
    refine r_slice ?_; refine r_var (l_bind (l_bind (l_bind (l_there rfl (l_there rfl l_here))))) ?_; refine r_bin ?_; refine r_bin ?_; refine r_var (l_bind (l_bind (l_bind (l_there rfl l_here)))) ?_; refine r_bcall ?_; refine r_cons ?_; refine r_var (l_bind (l_bind (l_bind (l_there rfl (l_there rfl l_here))))) ?_; refine r_nil ?_; refine b_len (by assumption) ?_
    rw [hl]
    refine o_modn (by omega) (by omega) ?_
    refine r_int ?_; refine o_add ?_; refine r_none ?_; refine r_none ?_
    refine o_drop ha3 (by omega) (by omega) fun b4 h4 => ?_
    have x4 := Ext.set h4 (.list (xs.drop (k % ds.length + 1).toNat))
    refine o_cat (x4 _ _ A3) (set_at _ _ _) (by simp; omega) fun b5 h5 => ?_
    refine s_out ?_; refine k_ret ?_
    have E4 := (e1.trans x3).trans x4
    refine hQ _ _ (E4.trans (.set h5 _)) ?_
    rw [putD, c]
    exact has_new_list h5 (hasL_append (hasL_append (hasL_take (hxs.ext E4) _) (HasL.cons.mpr ⟨hu.ext E4, HasL.nil⟩)) (hasL_drop (hxs.ext E4) _))
end BP

/-! ## GSpecC -/
set_option linter.unusedVariables false
set_option linter.unusedSimpArgs false
namespace BP
open PySem
variable {F : Nat → CallW} {gv : Glo}

theorem house_tup {σ : Sto} {looks : List Int} {deeds : List (List (List Int))} {wished : List Int} {v : Val} (h : Has σ (houseD looks deeds wished) v) : ∃ a vl vd vw, v = .ref a ∧ σ a = some (.tup [vl, vd, vw]) ∧ Has σ (ilist looks) vl ∧ Has σ (.list (deeds.map deedD)) vd ∧ Has σ (ilist wished) vw := by
  obtain ⟨a, xs, rfl, h1, y1, ys1, rfl, h2, y2, ys2, rfl, h3, y3, ys3, rfl, h4, h5⟩ := h
  cases h5
  exact ⟨a, y1, y2, y3, rfl, h1, h2, h3, h4⟩
theorem rooms_len {many : Int} : ∀ {g : List Int} {b : Int}, risingI g b many = true → b < many → (g.length : Int) ≤ many - b
  | [], b, _, hb => by simp; omega
  | x :: xs, b, h, hb => by
    simp only [risingI] at h
    split at h
    · rename_i q
      have := rooms_len h (by omega)
      simp; omega
    · cases h
theorem sm_ilist {n : Nat} {ns : List Int} (h : ns.length ≤ 100) : sm (n + 1) (ilist ns) = true := sm_mk (by rw [List.length_map]; exact h) fun d hd => by
  obtain ⟨i, _, rfl⟩ := List.mem_map.mp hd; cases n <;> rfl
theorem sm_deed {n : Nat} {many : Int} {rows : List (List Int)} (h1 : 1 ≤ many) (h8 : many ≤ 8) (h : DeedOk many rows) : sm (n + 2) (deedD rows) = true := sm_mk (by rw [List.length_map]; have := h.1; omega) fun d hd => by
  obtain ⟨ns, hn, rfl⟩ := List.mem_map.mp hd
  have := rooms_len (h.2 ns hn).1 (by omega)
  exact sm_ilist (by omega)
theorem sm_deeds {n : Nat} {many : Int} {D : List (List (List Int))} (h1 : 1 ≤ many) (h8 : many ≤ 8) (hl : D.length ≤ 5) (h : ∀ rows ∈ D, DeedOk many rows) : sm (n + 3) (.list (D.map deedD)) = true := sm_mk (by rw [List.length_map]; omega) fun d hd => by
  obtain ⟨rows, hr, rfl⟩ := List.mem_map.mp hd
  exact sm_deed h1 h8 (h rows hr)

/-! ### expressions whose values are small data -/
noncomputable def SmE (F : CallW) (gv : Glo) (ρ : Loc) (σ0 : Sto) (n : Nat) (e : Ex) : Prop := ∀ τ Q E, Ext σ0 τ → (∀ v τ' x, Ext τ τ' → Has τ' x v → sm n x = true → Q v τ') → wpE F gv false e ρ τ Q E
noncomputable def SmEs (F : CallW) (gv : Glo) (ρ : Loc) (σ0 : Sto) (n : Nat) (es : List Ex) : Prop := ∀ τ K E, Ext σ0 τ → (∀ vs τ' ds, Ext τ τ' → HasL τ' ds vs → (∀ x ∈ ds, sm n x = true) → ds.length = es.length → K vs τ') → wpEs F gv false es ρ τ K E
section
variable {F : CallW} {ρ : Loc} {σ0 : Sto} {n : Nat}
theorem SmEs.nil : SmEs F gv ρ σ0 n [] := fun τ K E _ k => k [] τ [] (.refl τ) HasL.nil (fun _ h => by cases h) rfl
theorem SmEs.cons {e : Ex} {es : List Ex} (h : SmE F gv ρ σ0 n e) (hs : SmEs F gv ρ σ0 n es) : SmEs F gv ρ σ0 n (e :: es) := fun τ K E x k =>
  h τ _ E x fun v τ1 d x1 hv sv => hs τ1 _ E (x.trans x1) fun vs τ2 ds x2 hvs svs hl => k (v :: vs) τ2 (d :: ds) (x1.trans x2) (HasL.cons.mpr ⟨hv.ext x2, hvs⟩) (fun y hy => by
    cases hy with
    | head => exact sv
    | tail _ hy => exact svs y hy) (by rw [List.length_cons, hl, List.length_cons])
theorem sub_mem {σ : Sto} {ds : List Dat} {a : Nat} {xs : List Val} {k : Int} {Q : KV} (ha : σ a = some (.list xs)) (hx : HasL σ ds xs) (h0 : 0 ≤ k) (h1 : k < ds.length) (hQ : ∀ x d, d ∈ ds → Has σ d x → Q x σ) : subW (.ref a) (.int k) σ Q :=
  sub_data (ds := ds) ⟨a, xs, rfl, ha, hx⟩ h0 (d := ds[k.toNat]) (List.getElem?_eq_getElem (by omega)) fun x hd => hQ x _ (List.getElem_mem _) hd
theorem sm_pick {es : List Ex} {ei : Ex} {i : Int} (B : SmEs F gv ρ σ0 n es) (hl : Nat.ble es.length 1000000 = true) (h0 : 0 ≤ i) (h1 : i < es.length) (hI : ∀ τ Q E, Q (.int i) τ → wpE F gv false ei ρ τ Q E) : SmE F gv ρ σ0 n (.sub (.list es) ei) := fun τ Q E x k => by
  refine r_sub (r_list (B τ _ E x fun vs τ1 ds x1 hvs svs hlen => ?_))
  refine ⟨by rw [hasL_len hvs, hlen]; exact Nat.le_of_ble_eq_true hl, fun a ha => ?_⟩
  refine hI _ _ _ ?_
  exact sub_mem (set_at _ _ _) (hvs.ext (.set ha _)) h0 (by omega) fun y d hd hy => k y _ d (x1.trans (.set ha _)) hy (svs d hd)
theorem lit_sm {τ : Sto} {Q : KV} {vs : List Val} {ds : List Dat} (hl : Nat.ble vs.length 1000000 = true) (h : HasL τ ds vs) (hs : sm n (.list ds) = true) (k : ∀ v τ' x, Ext τ τ' → Has τ' x v → sm n x = true → Q v τ') : vs.length ≤ lim ∧ newW τ (.list vs) Q :=
  n_lit hl fun a ha => k _ _ _ (.set ha _) (has_new_list ha h) hs
theorem new_sm {τ : Sto} {Q : KV} {vs : List Val} {ds : List Dat} (h : HasL τ ds vs) (hs : sm n (.list ds) = true) (k : ∀ v τ' x, Ext τ τ' → Has τ' x v → sm n x = true → Q v τ') : newW τ (.list vs) Q :=
  fun a ha => k _ _ _ (.set ha _) (has_new_list ha h) hs
theorem newT_sm {τ : Sto} {Q : KV} {vs : List Val} {ds : List Dat} (h : HasL τ ds vs) (hs : sm n (.tup ds) = true) (k : ∀ v τ' x, Ext τ τ' → Has τ' x v → sm n x = true → Q v τ') : newW τ (.tup vs) Q :=
  fun a ha => k _ _ _ (.set ha _) (has_new_tup ha h) hs
end
theorem l1 {σ : Sto} {d : Dat} {v : Val} (h : Has σ d v) : HasL σ [d] [v] := HasL.cons.mpr ⟨h, HasL.nil⟩
theorem l2 {σ : Sto} {d e : Dat} {v w : Val} (h : Has σ d v) (h' : Has σ e w) : HasL σ [d, e] [v, w] := HasL.cons.mpr ⟨h, l1 h'⟩
theorem sm_take {n k : Nat} {ds : List Dat} (h : sm (n + 1) (.list ds) = true) : sm (n + 1) (.list (ds.take k)) = true := by
  obtain ⟨h1, h2⟩ := sm_list h
  exact sm_mk (by simp; omega) fun d hd => h2 d (List.mem_of_mem_take hd)
theorem sm_tup {n : Nat} {ds : List Dat} (h : sm (n + 1) (.list ds) = true) : sm (n + 1) (.tup ds) = true := h
theorem sm_snoc {n : Nat} {ds : List Dat} {d : Dat} (h : sm (n + 1) (.list ds) = true) (hl : ds.length ≤ 50) (hd : sm n d = true) : sm (n + 1) (.list (ds ++ [d])) = true := by
  obtain ⟨h1, h2⟩ := sm_list h
  refine sm_mk (by simp; omega) fun x hx => ?_
  rcases List.mem_append.mp hx with hx | hx
  · exact h2 x hx
  · cases hx with
    | head => exact hd
    | tail _ hx => cases hx
theorem hasL_rep {σ : Sto} {ds : List Dat} {xs : List Val} (h : HasL σ ds xs) : ∀ k : Nat, HasL σ (List.replicate k ds).flatten (List.replicate k xs).flatten
  | 0 => HasL.nil
  | k + 1 => by rw [List.replicate_succ, List.replicate_succ, List.flatten_cons, List.flatten_cons]; exact hasL_append h (hasL_rep h k)
theorem repD_len {ds : List Dat} : ∀ k : Nat, (List.replicate k ds).flatten.length = k * ds.length
  | 0 => by simp
  | k + 1 => by rw [List.replicate_succ, List.flatten_cons, List.length_append, repD_len k, Nat.succ_mul]; omega
theorem sm_rep {n k : Nat} {ds : List Dat} (h : sm (n + 1) (.list ds) = true) (hk : k ≤ 6) (hl : ds.length ≤ 1) : sm (n + 1) (.list (List.replicate k ds).flatten) = true := by
  obtain ⟨h1, h2⟩ := sm_list h
  refine sm_mk (by rw [repD_len]; have := Nat.mul_le_mul hk hl; omega) fun x hx => ?_
  obtain ⟨l, hl', hx⟩ := List.mem_flatten.mp hx
  rw [(List.mem_replicate.mp hl').2] at hx
  exact h2 x hx
end BP

/-! ## GSpecD -/
set_option linter.unusedVariables false
set_option linter.unusedSimpArgs false
namespace BP
open PySem
variable {F : Nat → CallW} {gv : Glo}

theorem smEs_go {F : CallW} {ρ : Loc} {σ0 τ : Sto} {n : Nat} {es : List Ex} {K : List Val → Sto → Prop} {E : KE} (B : SmEs F gv ρ σ0 n es) (x : Ext σ0 τ) (k : ∀ vs τ' ds, Ext τ τ' → HasL τ' ds vs → (∀ x ∈ ds, sm n x = true) → ds.length = es.length → K vs τ') : wpEs F gv false es ρ τ K E := B τ K E x k
theorem smE_go {F : CallW} {ρ : Loc} {σ0 τ : Sto} {n : Nat} {e : Ex} {Q : KV} {E : KE} (B : SmE F gv ρ σ0 n e) (x : Ext σ0 τ) (k : ∀ v τ' x, Ext τ τ' → Has τ' x v → sm n x = true → Q v τ') : wpE F gv false e ρ τ Q E := B τ Q E x k

set_option maxHeartbeats 4000000 in
theorem law_changed_spec (hp : FnOk F gv "_law_put" d_law_put) (h : FnOk F gv "_law_changed" d_law_changed) {d : Nat} {many : Int} {L : List Int} {D : List (List (List Int))} {W : List Int} {v : Val} {way pl cell : Int} {σ : Sto} {Q : KV} {E : KE} (ok : HouseOk many L D W) (hh : Has σ (houseD L D W) v)
    (hQ : ∀ el ed ew w σ', Ext σ σ' → Has σ' (.tup [el, ed, ew]) w → sm 8 el = true → sm 8 ed = true → sm 8 ew = true → Q w σ') : F (d + 2) false "_law_changed" [v, .int way, .int pl, .int cell] σ Q E := by
  have m1 := ok.many1
  have m8 := ok.many8
  have cnt := ok.count
  have ll := ok.looks.1
  have wl : W.length ≤ 50 := by have := rooms_len ok.wished (by omega); omega
  have SL : sm 8 (ilist L) = true := sm_ilist (by omega)
  have SD : sm 8 (.list (D.map deedD)) = true := sm_deeds m1 m8 cnt.2 ok.deeds
  have SW : sm 8 (ilist W) = true := sm_ilist (by omega)
  refine Classical.byContradiction fun hG => ?_
  obtain ⟨ah, vl, vd, vw, rfl, hah, hvl, hvd, hvw⟩ := house_tup hh
  obtain ⟨al, rfl, hal⟩ := ilist_has.mp hvl
  obtain ⟨ad, xd, rfl, had, hxd, hld⟩ := has_list_len hvd
  obtain ⟨aw, rfl, haw⟩ := ilist_has.mp hvw
  refine hG ?_
  clear hG
  rw [List.length_map] at hld
  have fin : ∀ {ρ' : Loc} {τ : Sto} {el ed ew : Dat} {vl' vd' vw' : Val}, Ext σ τ → ρ' "_law_looks_here" = some vl' → ρ' "_law_deeds" = some vd' → ρ' "_law_wished" = some vw' → Has τ el vl' → Has τ ed vd' → Has τ ew vw' → sm 8 el = true → sm 8 ed = true → sm 8 ew = true →
      wpSs (F (d + 1)) gv false [.ret (.tup [.var "_law_looks_here", .var "_law_deeds", .var "_law_wished"])] ρ' τ (Kh Q) (fun c _ σ' => E c σ') := by
    intro ρ' τ el ed ew vl' vd' vw' e r1 r2 r3 h1 h2 h3 s1 s2 s3
    refine s_cons ?_; refine s_ret ?_; refine r_tup ?_; refine r_cons ?_; refine r_var (by assumption) ?_; refine r_cons ?_; refine r_var (by assumption) ?_; refine r_cons ?_; refine r_var (by assumption) ?_; refine r_nil ?_
    refine n_lit rfl fun a ha => ?_
    refine s_out ?_; refine k_ret ?_
    exact hQ el ed ew _ _ (e.trans (.set ha _)) (has_new_tup ha (HasL.cons.mpr ⟨h1, l2 h2 h3⟩)) s1 s2 s3
  refine FnOk.go h rfl ?_
  refine s_cons (s_unpack (by (repeat (first | with_reducible exact l_here | assumption | refine l_there rfl ?_ | with_reducible refine l_bind ?_ | with_reducible refine l_bind0 ?_))) hah rfl ?_)
  refine s_nxt ?_; refine s_cons ?_; refine s_assign ?_; refine r_bcall ?_; refine r_cons ?_; refine r_var (l_bind (l_bind (l_bind (l_there rfl (l_there rfl l_here))))) ?_; refine r_nil ?_; refine b_len (by assumption) ?_
  rw [List.length_map, ll]
  -- the odd thing
  refine s_nxt (s_cons (s_assign ?_))
  refine smE_go (n := 5) (σ0 := σ) (sm_pick (i := cell % 11) (.cons (fun τ Q E x k => ?_) <| .cons (fun τ Q E x k => ?_) <| .cons (fun τ Q E x k => ?_) <| .cons (fun τ Q E x k => ?_) <| .cons (fun τ Q E x k => ?_) <| .cons (fun τ Q E x k => ?_) <| .cons (fun τ Q E x k => ?_) <| .cons (fun τ Q E x k => ?_) <| .cons (fun τ Q E x k => ?_) <| .cons (fun τ Q E x k => ?_) <| .cons (fun τ Q E x k => ?_) .nil) rfl (Int.emod_nonneg _ (by omega)) (Int.emod_lt_of_pos _ (by decide)) fun τ Q E k => ?_) (.refl σ) fun vo σ1 xo e1 hxo sxo => ?_
  · refine r_neg ?_
    exact k _ _ (.int _) (.refl _) rfl rfl
  · refine r_var l_here ?_
    exact k _ _ (.int _) (.refl _) rfl rfl
  · refine r_bool ?_
    exact k _ _ (.bool _) (.refl _) rfl rfl
  · refine r_none ?_
    exact k _ _ .none (.refl _) rfl rfl
  · refine r_str ?_
    exact k _ _ (.str _) (.refl _) rfl rfl
  · refine r_int ?_
    exact k _ _ (.int _) (.refl _) rfl rfl
  · refine r_int ?_
    exact k _ _ (.int _) (.refl _) rfl rfl
  · refine r_int ?_
    exact k _ _ (.int _) (.refl _) rfl rfl
  · refine r_tup ?_; refine r_cons ?_; refine r_int ?_; refine r_nil ?_
    exact n_lit rfl fun a ha => k _ _ (.tup [.int 0]) (.set ha _) (has_new_tup ha (l1 rfl)) rfl
  · refine r_list0 ?_
    exact new_sm (ds := []) HasL.nil rfl k
  · refine r_bool ?_
    exact k _ _ (.bool _) (.refl _) rfl rfl
  · refine r_bin ?_; refine r_var (l_there rfl (l_bind (l_bind (l_bind (l_there rfl (l_there rfl (l_there rfl (l_bind (l_bind (l_bind (l_bind (l_bind0 l_here)))))))))))) ?_; refine r_int ?_; refine o_mod rfl ?_
    exact k
  have hal1 := e1 _ _ hal
  have had1 := e1 _ _ had
  have haw1 := e1 _ _ haw
  have HL := hvl.ext e1
  have HD := hvd.ext e1
  have HW := hvw.ext e1
  -- the place, and the deed there
  refine s_nxt ?_; refine s_cons ?_; refine s_assign ?_; refine r_bin ?_; refine r_var (l_there rfl (l_there rfl (l_bind (l_bind (l_bind (l_there rfl (l_there rfl (l_there rfl (l_bind (l_bind (l_bind (l_bind (l_there rfl l_here))))))))))))) ?_; refine r_bcall ?_; refine r_cons ?_; refine r_var (l_there rfl (l_there rfl (l_bind (l_bind (l_bind (l_there rfl l_here)))))) ?_; refine r_nil ?_; refine b_len (by assumption) ?_
  rw [hld]
  refine o_modn (by omega) (by omega) ?_
  have p0 := Int.emod_nonneg pl (show (D.length : Int) ≠ 0 by omega)
  have p1 := Int.emod_lt_of_pos pl (show (0 : Int) < D.length by omega)
  generalize pl % (D.length : Int) = place at p0 p1 ⊢
  refine s_nxt ?_; refine s_cons ?_; refine s_assign ?_; refine r_sub ?_; refine r_var (l_there rfl (l_there rfl (l_there rfl (l_bind (l_bind (l_bind (l_there rfl l_here))))))) ?_; refine r_var l_here ?_
  refine sub_mem had1 (hxd.ext e1) p0 (by rw [List.length_map]; exact p1) fun vdeed dd hdd Hd => ?_
  refine Classical.byContradiction fun hG => ?_
  obtain ⟨rows, hrows, rfl⟩ := List.mem_map.mp hdd
  obtain ⟨ae, xe, rfl, hae, hxe, hle⟩ := has_list_len Hd
  refine hG ?_
  clear hG
  have okr := ok.deeds rows hrows
  have rl := okr.1
  rw [List.length_map] at hle
  have SR : sm 7 (.list (rows.map ilist)) = true := sm_deed m1 m8 okr
  refine s_nxt ?_; refine s_cons ?_; refine s_if ?_; refine r_cmp ?_; refine r_var (l_there rfl (l_there rfl (l_there rfl (l_there rfl (l_bind (l_bind (l_bind (l_there rfl (l_there rfl (l_there rfl (l_bind (l_bind (l_bind (l_bind (l_there rfl (l_there rfl l_here)))))))))))))))) ?_; refine r_int ?_; refine c_eq ?_; refine t_bool ?_
  refine i_dec (fun w1 => ?_) fun w1 => ?_
  · refine s_cons ?_; refine s_assign ?_; refine r_call (FnOk.cf (by assumption)) ?_; refine r_cons ?_; refine r_var (l_there rfl (l_there rfl (l_there rfl (l_there rfl (l_bind (l_bind (l_bind (l_there rfl (l_there rfl l_here))))))))) ?_; refine r_cons ?_; refine r_var (l_there rfl (l_there rfl (l_there rfl (l_there rfl (l_bind (l_bind (l_bind (l_there rfl (l_there rfl (l_there rfl (l_bind (l_bind (l_bind (l_bind (l_there rfl l_here))))))))))))))) ?_; refine r_cons ?_; refine r_var (l_there rfl (l_there rfl l_here)) ?_; refine r_nil ?_
    refine law_put_spec (n := 8) hp HL hxo (by omega) SL fun w σ2 e2 hw => ?_
    refine s_nxt (s_nil (s_nxt ?_))
    exact fin (e1.trans e2) (by (repeat (first | with_reducible exact l_here | assumption | refine l_there rfl ?_ | with_reducible refine l_bind ?_ | with_reducible refine l_bind0 ?_))) (by (repeat (first | with_reducible exact l_here | assumption | refine l_there rfl ?_ | with_reducible refine l_bind ?_ | with_reducible refine l_bind0 ?_))) (by (repeat (first | with_reducible exact l_here | assumption | refine l_there rfl ?_ | with_reducible refine l_bind ?_ | with_reducible refine l_bind0 ?_))) hw (HD.ext e2) (HW.ext e2) (sm_put SL (sm_mono 5 7 xo (by omega) sxo)) SD SW
  refine s_cons ?_; refine s_if ?_; refine r_cmp ?_; refine r_var (l_there rfl (l_there rfl (l_there rfl (l_there rfl (l_bind (l_bind (l_bind (l_there rfl (l_there rfl (l_there rfl (l_bind (l_bind (l_bind (l_bind (l_there rfl (l_there rfl l_here)))))))))))))))) ?_; refine r_int ?_; refine c_eq ?_; refine t_bool ?_
  refine i_dec (fun w2 => ?_) fun w2 => ?_
  · refine s_cons (s_assign (r_list ?_))
    refine smEs_go (n := 6) (σ0 := σ1) (.cons (fun τ Q E x k => ?_) <| .cons (fun τ Q E x k => ?_) <| .cons (fun τ Q E x k => ?_) <| .cons (fun τ Q E x k => ?_) <| .cons (fun τ Q E x k => ?_) <| .cons (fun τ Q E x k => ?_) <| .cons (fun τ Q E x k => ?_) <| .cons (fun τ Q E x k => ?_) <| .cons (fun τ Q E x k => ?_) <| .cons (fun τ Q E x k => ?_) <| .cons (fun τ Q E x k => ?_) <| .cons (fun τ Q E x k => ?_) <| .cons (fun τ Q E x k => ?_) .nil) (.refl σ1) fun vs σ2 ds e2 hvs svs hlen => ?_
    · refine r_list0 ?_
      exact new_sm (ds := []) HasL.nil rfl k
    · refine r_list ?_; refine r_cons ?_; refine r_var (l_there rfl (l_there rfl (l_there rfl l_here))) ?_; refine r_nil ?_
      exact lit_sm (ds := [.int many]) rfl (l1 rfl) rfl k
    · refine r_list ?_; refine r_cons ?_; refine r_int ?_; refine r_cons ?_; refine r_int ?_; refine r_nil ?_
      exact lit_sm (ds := [.int 0, .int 0]) rfl (l2 rfl rfl) rfl k
    · refine r_list ?_; refine r_cons ?_; refine r_bin ?_; refine r_var (l_there rfl (l_there rfl (l_there rfl l_here))) ?_; refine r_int ?_; refine o_sub ?_; refine r_cons ?_; refine r_int ?_; refine r_nil ?_
      exact lit_sm (ds := [.int (many - 1), .int 0]) rfl (l2 rfl rfl) rfl k
    · refine r_tup ?_; refine r_cons ?_; refine r_int ?_; refine r_nil ?_
      exact n_lit rfl fun a ha => k _ _ (.tup [.int 0]) (.set ha _) (has_new_tup ha (l1 rfl)) rfl
    · refine r_list ?_; refine r_cons ?_; refine r_int ?_; refine r_nil ?_
      exact lit_sm (ds := [.int 0]) rfl (l1 rfl) rfl k
    · refine r_none ?_
      exact k _ _ .none (.refl _) rfl rfl
    · refine r_list ?_; refine r_cons ?_; refine r_neg ?_; refine r_nil ?_
      exact lit_sm (ds := [.int (-1)]) rfl (l1 rfl) rfl k
    · refine r_list ?_; refine r_cons ?_; refine r_bool ?_; refine r_nil ?_
      exact lit_sm (ds := [.bool true]) rfl (l1 rfl) rfl k
    · refine r_bcall ?_; refine r_cons ?_; refine r_bcall ?_; refine r_cons ?_; refine r_var (l_there rfl (l_there rfl (l_there rfl l_here))) ?_; refine r_nil ?_
      refine ⟨by rw [limI]; omega, by rw [limI]; omega, fun a ha => ?_⟩
      refine r_nil ?_
      refine b_lrange (set_at _ _ _) ?_
      exact new_sm (ds := (irange 0 many).map .int) hasL_ints (sm_ilist (by simp [irange]; omega)) fun v τ' y x' => k v τ' y ((Ext.set ha _).trans x')
    · refine r_list ?_; refine r_cons ?_; refine r_bool ?_; refine r_nil ?_
      exact lit_sm (ds := [.bool false]) rfl (l1 rfl) rfl k
    · refine r_list0 ?_
      exact new_sm (ds := []) HasL.nil rfl k
    · refine r_list0 ?_
      exact new_sm (ds := []) HasL.nil rfl k
    refine ⟨by rw [hasL_len hvs, hlen]; exact Nat.le_of_ble_eq_true rfl, fun a2 h2 => ?_⟩
    refine s_nxt ?_; refine s_cons ?_; refine s_assign ?_; refine r_sub ?_; refine r_var l_here ?_; refine r_bin ?_; refine r_var (l_there rfl (l_there rfl (l_there rfl (l_there rfl (l_there rfl (l_bind (l_bind (l_bind (l_there rfl (l_there rfl (l_there rfl (l_bind (l_bind (l_bind (l_bind (l_bind0 l_here)))))))))))))))) ?_; refine r_int ?_; refine o_mod rfl ?_
    refine sub_mem (set_at _ _ _) (hvs.ext (.set h2 _)) (Int.emod_nonneg _ (by omega)) (by rw [hlen]; exact Int.emod_lt_of_pos _ (by decide)) fun vr dr hdr hvr => ?_
    have sr := svs dr hdr
    have e3 := e2.trans (.set h2 (.list vs))
    generalize σ2.set a2 (.list vs) = σ3 at hvr e3 ⊢
    refine s_nxt ?_; refine s_cons ?_; refine s_assign ?_; refine r_call (FnOk.cf (by assumption)) ?_; refine r_cons ?_; refine r_var (l_there rfl (l_there rfl (l_there rfl (l_there rfl (l_there rfl (l_there rfl (l_bind (l_bind (l_bind (l_there rfl l_here)))))))))) ?_; refine r_cons ?_; refine r_var (l_there rfl (l_there rfl (l_there rfl l_here))) ?_; refine r_cons ?_; refine r_call (FnOk.cf (by assumption)) ?_; refine r_cons ?_; refine r_var (l_there rfl (l_there rfl l_here)) ?_; refine r_cons ?_; refine r_bin ?_; refine r_var (l_there rfl (l_there rfl (l_there rfl (l_there rfl (l_there rfl (l_there rfl (l_bind (l_bind (l_bind (l_there rfl (l_there rfl (l_there rfl (l_bind (l_bind (l_bind (l_bind (l_there rfl l_here))))))))))))))))) ?_; refine r_int ?_; refine o_fdiv rfl ?_; refine r_cons ?_; refine r_var l_here ?_; refine r_nil ?_
    refine law_put_spec (n := 7) hp (Hd.ext e3) hvr (by omega) SR fun w4 σ4 e4 hw4 => ?_
    refine r_nil ?_
    refine law_put_spec (n := 8) hp (HD.ext (e3.trans e4)) hw4 (by omega) SD fun w5 σ5 e5 hw5 => ?_
    refine s_nxt (s_nil (s_nxt (s_nil (s_nxt ?_))))
    have E5 := (e3.trans e4).trans e5
    exact fin (e1.trans E5) (by (repeat (first | with_reducible exact l_here | assumption | refine l_there rfl ?_ | with_reducible refine l_bind ?_ | with_reducible refine l_bind0 ?_))) (by (repeat (first | with_reducible exact l_here | assumption | refine l_there rfl ?_ | with_reducible refine l_bind ?_ | with_reducible refine l_bind0 ?_))) (by (repeat (first | with_reducible exact l_here | assumption | refine l_there rfl ?_ | with_reducible refine l_bind ?_ | with_reducible refine l_bind0 ?_))) (HL.ext E5) hw5 (HW.ext E5) SL (sm_put SD (sm_put SR sr)) SW
  refine s_cons ?_; refine s_if ?_; refine r_cmp ?_; refine r_var (l_there rfl (l_there rfl (l_there rfl (l_there rfl (l_bind (l_bind (l_bind (l_there rfl (l_there rfl (l_there rfl (l_bind (l_bind (l_bind (l_bind (l_there rfl (l_there rfl l_here)))))))))))))))) ?_; refine r_int ?_; refine c_eq ?_; refine t_bool ?_
  refine i_dec (fun w3 => ?_) fun w3 => ?_
  · refine s_cons ?_; refine s_assign ?_; refine r_call (FnOk.cf (by assumption)) ?_; refine r_cons ?_; refine r_sub ?_; refine r_var l_here ?_; refine r_bin ?_; refine r_bin ?_; refine r_var (l_there rfl (l_there rfl (l_there rfl (l_there rfl (l_bind (l_bind (l_bind (l_there rfl (l_there rfl (l_there rfl (l_bind (l_bind (l_bind (l_bind (l_there rfl l_here))))))))))))))) ?_; refine r_int ?_; refine o_fdiv rfl ?_; refine r_var (l_there rfl (l_there rfl (l_there rfl l_here))) ?_
    refine o_modn (by omega) (by omega) ?_
    have b0 := Int.emod_nonneg (pl / 5) (show many ≠ 0 by omega)
    have b1 := Int.emod_lt_of_pos (pl / 5) (show 0 < many by omega)
    refine sub_mem hae hxe b0 (by rw [List.length_map]; omega) fun vr dr hdr hvr => ?_
    refine Classical.byContradiction fun hG => ?_
    obtain ⟨ns, hns, rfl⟩ := List.mem_map.mp hdr
    refine hG ?_
    clear hG
    have nl := rooms_len (okr.2 ns hns).1 (by omega)
    have SN : sm 6 (ilist ns) = true := sm_ilist (by omega)
    refine r_cons ?_; refine r_bin ?_; refine r_var (l_there rfl (l_there rfl (l_there rfl (l_there rfl (l_bind (l_bind (l_bind (l_there rfl (l_there rfl (l_there rfl (l_bind (l_bind (l_bind (l_bind (l_there rfl l_here))))))))))))))) ?_; refine r_int ?_; refine o_fdiv rfl ?_; refine r_cons ?_; refine r_var (l_there rfl (l_there rfl l_here)) ?_; refine r_nil ?_
    refine law_put_spec (n := 6) hp hvr hxo (by omega) SN fun w2' σ3 e3 hw3 => ?_
    have sr := sm_put (k := pl / 40) SN sxo
    refine s_nxt ?_; refine s_cons ?_; refine s_assign ?_; refine r_call (FnOk.cf (by assumption)) ?_; refine r_cons ?_; refine r_var (l_there rfl (l_there rfl (l_there rfl (l_there rfl (l_there rfl (l_bind (l_bind (l_bind (l_there rfl l_here))))))))) ?_; refine r_cons ?_; refine r_var (l_there rfl (l_there rfl l_here)) ?_; refine r_cons ?_; refine r_call (FnOk.cf (by assumption)) ?_; refine r_cons ?_; refine r_var (l_there rfl l_here) ?_; refine r_cons ?_; refine r_bin ?_; refine r_var (l_there rfl (l_there rfl (l_there rfl (l_there rfl (l_there rfl (l_bind (l_bind (l_bind (l_there rfl (l_there rfl (l_there rfl (l_bind (l_bind (l_bind (l_bind (l_there rfl l_here)))))))))))))))) ?_; refine r_int ?_; refine o_fdiv rfl ?_; refine r_cons ?_; refine r_var l_here ?_; refine r_nil ?_
    refine law_put_spec (n := 7) hp (Hd.ext e3) hw3 (by omega) SR fun w4 σ4 e4 hw4 => ?_
    refine r_nil ?_
    refine law_put_spec (n := 8) hp (HD.ext (e3.trans e4)) hw4 (by omega) SD fun w5 σ5 e5 hw5 => ?_
    refine s_nxt (s_nil (s_nxt (s_nil (s_nxt (s_nil (s_nxt ?_))))))
    have E5 := (e3.trans e4).trans e5
    exact fin (e1.trans E5) (by (repeat (first | with_reducible exact l_here | assumption | refine l_there rfl ?_ | with_reducible refine l_bind ?_ | with_reducible refine l_bind0 ?_))) (by (repeat (first | with_reducible exact l_here | assumption | refine l_there rfl ?_ | with_reducible refine l_bind ?_ | with_reducible refine l_bind0 ?_))) (by (repeat (first | with_reducible exact l_here | assumption | refine l_there rfl ?_ | with_reducible refine l_bind ?_ | with_reducible refine l_bind0 ?_))) (HL.ext E5) hw5 (HW.ext E5) SL (sm_put SD (sm_put SR sr)) SW
  refine s_cons ?_; refine s_if ?_; refine r_cmp ?_; refine r_var (l_there rfl (l_there rfl (l_there rfl (l_there rfl (l_bind (l_bind (l_bind (l_there rfl (l_there rfl (l_there rfl (l_bind (l_bind (l_bind (l_bind (l_there rfl (l_there rfl l_here)))))))))))))))) ?_; refine r_int ?_; refine c_eq ?_; refine t_bool ?_
  refine i_dec (fun w4 => ?_) fun w4 => ?_
  · refine s_cons (s_assign (r_call (FnOk.cf hp) (r_cons (r_var (by (repeat (first | with_reducible exact l_here | assumption | refine l_there rfl ?_ | with_reducible refine l_bind ?_ | with_reducible refine l_bind0 ?_))) (r_cons (r_var (by (repeat (first | with_reducible exact l_here | assumption | refine l_there rfl ?_ | with_reducible refine l_bind ?_ | with_reducible refine l_bind0 ?_))) (r_cons ?_)))))))
    refine smE_go (n := 7) (σ0 := σ1) (sm_pick (i := cell % 6) (.cons (fun τ Q E x k => ?_) <| .cons (fun τ Q E x k => ?_) <| .cons (fun τ Q E x k => ?_) <| .cons (fun τ Q E x k => ?_) <| .cons (fun τ Q E x k => ?_) <| .cons (fun τ Q E x k => ?_) .nil) rfl (Int.emod_nonneg _ (by omega)) (Int.emod_lt_of_pos _ (by decide)) fun τ Q E k => ?_) (.refl σ1) fun vt σ2 dt e2 hvt st => ?_
    · refine r_slice ?_; refine r_var l_here ?_; refine r_none ?_; refine r_neg ?_; refine r_none ?_
      exact o_init (x _ _ hae) (new_sm (hasL_take (hxe.ext x) _) (sm_take SR) k)
    · refine r_bin ?_; refine r_var l_here ?_; refine r_list ?_; refine r_cons ?_; refine r_list ?_; refine r_cons ?_; refine r_int ?_; refine r_nil ?_
      refine n_lit rfl fun a ha => ?_
      refine r_nil ?_
      refine n_lit rfl fun b hb => ?_
      have x2 := (Ext.set ha (.list [.int 0])).trans (.set hb (.list [.ref a]))
      refine o_cat (x2 _ _ (x _ _ hae)) (set_at _ _ _) (by simp; omega) ?_
      exact new_sm (ds := rows.map ilist ++ [.list [.int 0]]) (hasL_append ((hxe.ext x).ext x2) (l1 ((has_new_list (ds := [.int 0]) ha (l1 rfl)).ext (.set hb _)))) (sm_snoc SR (by rw [List.length_map]; omega) rfl) fun v τ' y x' => k v τ' y (x2.trans x')
    · have hae' := x _ _ hae
      refine r_bcall ?_; refine r_cons ?_; refine r_var l_here ?_; refine r_nil ?_; refine b_tup (by assumption) ?_
      exact newT_sm (hxe.ext x) (sm_tup SR) k
    · refine r_none ?_
      exact k _ _ .none (.refl _) rfl rfl
    · refine r_list0 ?_
      exact new_sm (ds := []) HasL.nil rfl k
    · refine r_var l_here ?_
      exact k _ _ (deedD rows) (.refl _) (Hd.ext x) SR
    · refine r_bin ?_; refine r_var (l_there rfl (l_there rfl (l_there rfl (l_there rfl (l_bind (l_bind (l_bind (l_there rfl (l_there rfl (l_there rfl (l_bind (l_bind (l_bind (l_bind (l_bind0 l_here))))))))))))))) ?_; refine r_int ?_; refine o_mod rfl ?_
      exact k
    refine r_nil ?_
    refine law_put_spec (n := 8) hp (HD.ext e2) hvt (by omega) SD fun w5 σ5 e5 hw5 => ?_
    refine s_nxt (s_nil (s_nxt (s_nil (s_nxt (s_nil (s_nxt (s_nil (s_nxt ?_))))))))
    have E5 := e2.trans e5
    exact fin (e1.trans E5) (by (repeat (first | with_reducible exact l_here | assumption | refine l_there rfl ?_ | with_reducible refine l_bind ?_ | with_reducible refine l_bind0 ?_))) (by (repeat (first | with_reducible exact l_here | assumption | refine l_there rfl ?_ | with_reducible refine l_bind ?_ | with_reducible refine l_bind0 ?_))) (by (repeat (first | with_reducible exact l_here | assumption | refine l_there rfl ?_ | with_reducible refine l_bind ?_ | with_reducible refine l_bind0 ?_))) (HL.ext E5) hw5 (HW.ext E5) SL (sm_put SD st) SW
  refine s_cons ?_; refine s_if ?_; refine r_cmp ?_; refine r_var (l_there rfl (l_there rfl (l_there rfl (l_there rfl (l_bind (l_bind (l_bind (l_there rfl (l_there rfl (l_there rfl (l_bind (l_bind (l_bind (l_bind (l_there rfl (l_there rfl l_here)))))))))))))))) ?_; refine r_int ?_; refine c_eq ?_; refine t_bool ?_
  refine i_dec (fun w5 => ?_) fun w5 => ?_
  · refine s_cons (s_assign (r_list ?_))
    refine smEs_go (n := 8) (σ0 := σ1) (.cons (fun τ Q E x k => ?_) <| .cons (fun τ Q E x k => ?_) <| .cons (fun τ Q E x k => ?_) <| .cons (fun τ Q E x k => ?_) <| .cons (fun τ Q E x k => ?_) <| .cons (fun τ Q E x k => ?_) <| .cons (fun τ Q E x k => ?_) <| .cons (fun τ Q E x k => ?_) .nil) (.refl σ1) fun vs σ2 ds e2 hvs svs hlen => ?_
    · refine r_call (FnOk.cf (by assumption)) ?_; refine r_cons ?_; refine r_var (l_there rfl (l_there rfl (l_there rfl (l_there rfl (l_bind (l_bind (l_bind (l_bind0 l_here)))))))) ?_; refine r_cons ?_; refine r_var (l_there rfl (l_there rfl (l_there rfl (l_there rfl (l_bind (l_bind (l_bind (l_there rfl (l_there rfl (l_there rfl (l_bind (l_bind (l_bind (l_bind (l_there rfl l_here))))))))))))))) ?_; refine r_cons ?_; refine r_var (l_there rfl (l_there rfl l_here)) ?_; refine r_nil ?_
      exact law_put_spec (n := 8) hp (HW.ext x) (hxo.ext x) (by omega) SW fun w τ' x' hw => k w τ' _ x' hw (sm_put SW (sm_mono 5 7 xo (by omega) sxo))
    · refine r_bin ?_; refine r_var (l_there rfl (l_there rfl (l_there rfl (l_there rfl (l_bind (l_bind (l_bind (l_bind0 l_here)))))))) ?_; refine r_list ?_; refine r_cons ?_; refine r_var (l_there rfl (l_there rfl (l_there rfl l_here))) ?_; refine r_nil ?_
      refine n_lit rfl fun a ha => ?_
      refine o_cat (Ext.set ha _ _ _ (x _ _ haw1)) (set_at _ _ _) (by simp; omega) ?_
      exact new_sm (ds := W.map .int ++ [.int many]) (hasL_append hasL_ints (l1 (d := .int many) rfl)) (sm_snoc SW (by rw [List.length_map]; omega) rfl) fun v τ' y x' => k v τ' y ((Ext.set ha _).trans x')
    · refine r_list ?_; refine r_cons ?_; refine r_int ?_; refine r_cons ?_; refine r_int ?_; refine r_nil ?_
      exact lit_sm (ds := [.int 0, .int 0]) rfl (l2 rfl rfl) rfl k
    · have haw' := x _ _ haw1
      refine r_bcall ?_; refine r_cons ?_; refine r_var (l_there rfl (l_there rfl (l_there rfl (l_there rfl (l_bind (l_bind (l_bind (l_bind0 l_here)))))))) ?_; refine r_nil ?_; refine b_tup (by assumption) ?_
      exact newT_sm (ds := W.map .int) hasL_ints (sm_tup SW) k
    · refine r_none ?_
      exact k _ _ .none (.refl _) rfl rfl
    · refine r_str ?_
      exact k _ _ (.str _) (.refl _) rfl rfl
    · refine r_list ?_; refine r_cons ?_; refine r_bin ?_; refine r_var (l_there rfl (l_there rfl (l_there rfl l_here))) ?_; refine r_int ?_; refine o_sub ?_; refine r_cons ?_; refine r_int ?_; refine r_nil ?_
      exact lit_sm (ds := [.int (many - 1), .int 0]) rfl (l2 rfl rfl) rfl k
    · refine r_list ?_; refine r_cons ?_; refine r_bool ?_; refine r_nil ?_
      exact lit_sm (ds := [.bool false]) rfl (l1 rfl) rfl k
    refine ⟨by rw [hasL_len hvs, hlen]; exact Nat.le_of_ble_eq_true rfl, fun a2 h2 => ?_⟩
    refine s_nxt ?_; refine s_cons ?_; refine s_assign ?_; refine r_sub ?_; refine r_var l_here ?_; refine r_bin ?_; refine r_bin ?_; refine r_var (l_there rfl (l_there rfl (l_there rfl (l_there rfl (l_there rfl (l_bind (l_bind (l_bind (l_there rfl (l_there rfl (l_there rfl (l_bind (l_bind (l_bind (l_bind (l_bind0 l_here)))))))))))))))) ?_; refine r_int ?_; refine o_fdiv rfl ?_; refine r_int ?_; refine o_mod rfl ?_
    refine sub_mem (set_at _ _ _) (hvs.ext (.set h2 _)) (Int.emod_nonneg _ (by omega)) (by rw [hlen]; exact Int.emod_lt_of_pos _ (by decide)) fun vr dr hdr hvr => ?_
    have sr := svs dr hdr
    have e3 := e2.trans (.set h2 (.list vs))
    generalize σ2.set a2 (.list vs) = σ3 at hvr e3 ⊢
    refine s_nxt (s_nil (s_nxt (s_nil (s_nxt (s_nil (s_nxt (s_nil (s_nxt (s_nil (s_nxt ?_))))))))))
    exact fin (e1.trans e3) (by (repeat (first | with_reducible exact l_here | assumption | refine l_there rfl ?_ | with_reducible refine l_bind ?_ | with_reducible refine l_bind0 ?_))) (by (repeat (first | with_reducible exact l_here | assumption | refine l_there rfl ?_ | with_reducible refine l_bind ?_ | with_reducible refine l_bind0 ?_))) (by (repeat (first | with_reducible exact l_here | assumption | refine l_there rfl ?_ | with_reducible refine l_bind ?_ | with_reducible refine l_bind0 ?_))) (HL.ext e3) (HD.ext e3) hvr SL SD sr
  refine s_cons ?_; refine s_if ?_; refine r_cmp ?_; refine r_var (l_there rfl (l_there rfl (l_there rfl (l_there rfl (l_bind (l_bind (l_bind (l_there rfl (l_there rfl (l_there rfl (l_bind (l_bind (l_bind (l_bind (l_there rfl (l_there rfl l_here)))))))))))))))) ?_; refine r_int ?_; refine c_eq ?_; refine t_bool ?_
  refine i_dec (fun w6 => ?_) fun w6 => ?_
  · refine s_cons (s_assign ?_)
    refine smE_go (n := 8) (σ0 := σ1) (sm_pick (i := cell % 6) (.cons (fun τ Q E x k => ?_) <| .cons (fun τ Q E x k => ?_) <| .cons (fun τ Q E x k => ?_) <| .cons (fun τ Q E x k => ?_) <| .cons (fun τ Q E x k => ?_) <| .cons (fun τ Q E x k => ?_) .nil) rfl (Int.emod_nonneg _ (by omega)) (Int.emod_lt_of_pos _ (by decide)) fun τ Q E k => ?_) (.refl σ1) fun vt σ2 dt e2 hvt st => ?_
    · have hal' := x _ _ hal1
      refine r_bcall ?_; refine r_cons ?_; refine r_var (l_there rfl (l_there rfl (l_there rfl (l_there rfl (l_bind (l_bind (l_bind (l_there rfl (l_there rfl l_here))))))))) ?_; refine r_nil ?_; refine b_tup (by assumption) ?_
      exact newT_sm (ds := L.map .int) hasL_ints (sm_tup SL) k
    · refine r_none ?_
      exact k _ _ .none (.refl _) rfl rfl
    · refine r_list0 ?_
      exact new_sm (ds := []) HasL.nil rfl k
    · refine r_str ?_
      exact k _ _ (.str _) (.refl _) rfl rfl
    · refine r_bin ?_; refine r_var (l_there rfl (l_there rfl (l_there rfl (l_there rfl (l_bind (l_bind (l_bind (l_there rfl (l_there rfl l_here))))))))) ?_; refine r_list ?_; refine r_cons ?_; refine r_int ?_; refine r_nil ?_
      refine n_lit rfl fun a ha => ?_
      refine o_cat (Ext.set ha _ _ _ (x _ _ hal1)) (set_at _ _ _) (by simp; omega) ?_
      exact new_sm (ds := L.map .int ++ [.int 0]) (hasL_append hasL_ints (l1 (d := .int 0) rfl)) (sm_snoc SL (by rw [List.length_map]; omega) rfl) fun v τ' y x' => k v τ' y ((Ext.set ha _).trans x')
    · refine r_slice ?_; refine r_var (l_there rfl (l_there rfl (l_there rfl (l_there rfl (l_bind (l_bind (l_bind (l_there rfl (l_there rfl l_here))))))))) ?_; refine r_none ?_; refine r_neg ?_; refine r_none ?_
      exact o_init (x _ _ hal1) (new_sm (hasL_take hasL_ints _) (sm_take SL) k)
    · refine r_bin ?_; refine r_var (l_there rfl (l_there rfl (l_there rfl (l_there rfl (l_bind (l_bind (l_bind (l_there rfl (l_there rfl (l_there rfl (l_bind (l_bind (l_bind (l_bind (l_bind0 l_here))))))))))))))) ?_; refine r_int ?_; refine o_mod rfl ?_
      exact k
    refine s_nxt (s_nil (s_nxt (s_nil (s_nxt (s_nil (s_nxt (s_nil (s_nxt (s_nil (s_nxt (s_nil (s_nxt ?_))))))))))))
    exact fin (e1.trans e2) (by (repeat (first | with_reducible exact l_here | assumption | refine l_there rfl ?_ | with_reducible refine l_bind ?_ | with_reducible refine l_bind0 ?_))) (by (repeat (first | with_reducible exact l_here | assumption | refine l_there rfl ?_ | with_reducible refine l_bind ?_ | with_reducible refine l_bind0 ?_))) (by (repeat (first | with_reducible exact l_here | assumption | refine l_there rfl ?_ | with_reducible refine l_bind ?_ | with_reducible refine l_bind0 ?_))) hvt (HD.ext e2) (HW.ext e2) st SD SW
  refine s_cons ?_; refine s_if ?_; refine r_cmp ?_; refine r_var (l_there rfl (l_there rfl (l_there rfl (l_there rfl (l_bind (l_bind (l_bind (l_there rfl (l_there rfl (l_there rfl (l_bind (l_bind (l_bind (l_bind (l_there rfl (l_there rfl l_here)))))))))))))))) ?_; refine r_int ?_; refine c_eq ?_; refine t_bool ?_
  refine i_dec (fun w7 => ?_) fun w7 => ?_
  · refine s_cons (s_assign ?_)
    refine smE_go (n := 8) (σ0 := σ1) (sm_pick (i := cell % 6) (.cons (fun τ Q E x k => ?_) <| .cons (fun τ Q E x k => ?_) <| .cons (fun τ Q E x k => ?_) <| .cons (fun τ Q E x k => ?_) <| .cons (fun τ Q E x k => ?_) <| .cons (fun τ Q E x k => ?_) .nil) rfl (Int.emod_nonneg _ (by omega)) (Int.emod_lt_of_pos _ (by decide)) fun τ Q E k => ?_) (.refl σ1) fun vt σ2 dt e2 hvt st => ?_
    · have had' := x _ _ had1
      refine r_bcall ?_; refine r_cons ?_; refine r_var (l_there rfl (l_there rfl (l_there rfl (l_there rfl (l_bind (l_bind (l_bind (l_there rfl l_here)))))))) ?_; refine r_nil ?_; refine b_tup (by assumption) ?_
      exact newT_sm ((hxd.ext e1).ext x) (sm_tup SD) k
    · refine r_none ?_
      exact k _ _ .none (.refl _) rfl rfl
    · refine r_list0 ?_
      exact new_sm (ds := []) HasL.nil rfl k
    · refine r_bin ?_; refine r_slice ?_; refine r_var (l_there rfl (l_there rfl (l_there rfl (l_there rfl (l_bind (l_bind (l_bind (l_there rfl l_here)))))))) ?_; refine r_none ?_; refine r_int ?_; refine r_none ?_
      refine o_take (x _ _ had1) (by omega) (by omega) fun a ha => ?_
      refine r_int ?_
      refine o_rep (set_at _ _ _) (by simp; omega) (by omega) (by omega) ?_
      exact new_sm (hasL_rep ((hasL_take ((hxd.ext e1).ext x) _).ext (.set ha _)) _) (sm_rep (sm_take SD) (by decide) (by simp; omega)) fun v τ' y x' => k v τ' y ((Ext.set ha _).trans x')
    · refine r_bin ?_; refine r_slice ?_; refine r_var (l_there rfl (l_there rfl (l_there rfl (l_there rfl (l_bind (l_bind (l_bind (l_there rfl l_here)))))))) ?_; refine r_none ?_; refine r_int ?_; refine r_none ?_
      refine o_take (x _ _ had1) (by omega) (by omega) fun a ha => ?_
      refine r_int ?_
      refine o_rep (set_at _ _ _) (by simp; omega) (by omega) (by omega) ?_
      exact new_sm (hasL_rep ((hasL_take ((hxd.ext e1).ext x) _).ext (.set ha _)) _) (sm_rep (sm_take SD) (by decide) (by simp; omega)) fun v τ' y x' => k v τ' y ((Ext.set ha _).trans x')
    · refine r_str ?_
      exact k _ _ (.str _) (.refl _) rfl rfl
    · refine r_bin ?_; refine r_var (l_there rfl (l_there rfl (l_there rfl (l_there rfl (l_bind (l_bind (l_bind (l_there rfl (l_there rfl (l_there rfl (l_bind (l_bind (l_bind (l_bind (l_bind0 l_here))))))))))))))) ?_; refine r_int ?_; refine o_mod rfl ?_
      exact k
    refine s_nxt (s_nil (s_nxt (s_nil (s_nxt (s_nil (s_nxt (s_nil (s_nxt (s_nil (s_nxt (s_nil (s_nxt (s_nil (s_nxt ?_))))))))))))))
    exact fin (e1.trans e2) (by (repeat (first | with_reducible exact l_here | assumption | refine l_there rfl ?_ | with_reducible refine l_bind ?_ | with_reducible refine l_bind0 ?_))) (by (repeat (first | with_reducible exact l_here | assumption | refine l_there rfl ?_ | with_reducible refine l_bind ?_ | with_reducible refine l_bind0 ?_))) (by (repeat (first | with_reducible exact l_here | assumption | refine l_there rfl ?_ | with_reducible refine l_bind ?_ | with_reducible refine l_bind0 ?_))) (HL.ext e2) hvt (HW.ext e2) SL st SW
  -- a house of eight or nine rooms
  refine s_cons ?_; refine s_assign ?_; refine r_comp ?_; refine r_bcall ?_; refine r_cons ?_; refine r_bin ?_; refine r_int ?_; refine r_bin ?_; refine r_var (l_there rfl (l_there rfl (l_there rfl (l_there rfl (l_bind (l_bind (l_bind (l_there rfl (l_there rfl (l_there rfl (l_bind (l_bind (l_bind (l_bind (l_bind0 l_here))))))))))))))) ?_; refine r_int ?_; refine o_mod rfl ?_; refine o_add ?_; refine r_nil ?_
  have cb := Int.emod_nonneg cell (show (2 : Int) ≠ 0 by omega)
  have cb' := Int.emod_lt_of_pos cell (show (0 : Int) < 2 by omega)
  refine range_comp (by omega) (by omega) (fun _ => true) (fun i => i % 10) ?_ ?_ fun v2 σ2 e2 hv2 => ?_
  · intro i _ _ σ' e K' hK; exact hK σ' (.refl σ')
  · intro i _ _ _ σ' e K' hK
    refine r_bin ?_; refine r_var l_here ?_; refine r_int ?_; refine o_mod rfl ?_
    exact hK σ' (.refl σ')
  rw [filter_tt] at hv2
  have hl2 : ((irange 0 (8 + cell % 2)).map fun i => i % 10).length ≤ 9 := by simp [irange]; omega
  generalize ((irange 0 (8 + cell % 2)).map fun i => i % 10) = L2 at hv2 hl2
  have hv2 := hv2.has
  refine Classical.byContradiction fun hG => ?_
  obtain ⟨a2, rfl, ha2⟩ := ilist_has.mp hv2
  refine hG ?_
  clear hG
  refine s_nxt ?_; refine s_cons ?_; refine s_assign ?_; refine r_list ?_; refine r_cons ?_; refine r_comp ?_; refine r_bcall ?_; refine r_cons ?_; refine r_bcall ?_; refine r_cons ?_; refine r_var l_here ?_; refine r_nil ?_; refine b_len (by assumption) ?_; refine r_nil ?_
  rw [List.length_map]
  refine range_comp_ok (by omega) (by omega) (fun _ => true) (fun i => .list [.int i]) ?_ ?_ fun v3 σ3 e3 hv3 => ?_
  · intro i _ _ σ' e K' hK; exact hK σ' (.refl σ')
  · intro i _ _ _ σ' e K' hK
    refine r_list ?_; refine r_cons ?_; refine r_var l_here ?_; refine r_nil ?_
    exact n_lit rfl fun a ha => hK _ _ (.set ha _) (newF_list ha (e.new ha) (HasFL.cons.mpr ⟨rfl, HasFL.nil⟩))
  rw [filter_tt] at hv3
  have s3 : sm 7 (.list ((irange 0 L2.length).map fun i => .list [.int i])) = true := sm_mk (by simp [irange]; omega) fun d hd => by
    obtain ⟨i, _, rfl⟩ := List.mem_map.mp hd; rfl
  refine r_nil ?_
  refine n_lit rfl fun a4 h4 => ?_
  have H4 := has_new_list h4 (l1 hv3.has)
  have e4 := Ext.set h4 (.list [v3])
  generalize σ3.set a4 (.list [v3]) = σ4 at H4 e4 ⊢
  refine s_nxt ?_; refine s_cons ?_; refine s_assign ?_; refine r_list ?_; refine r_cons ?_; refine r_int ?_; refine r_nil ?_
  refine n_lit rfl fun a5 h5 => ?_
  have H5 := has_new_list (ds := [.int 0]) h5 (l1 rfl)
  have e5 := Ext.set h5 (.list [.int 0])
  refine s_nxt (s_nil (s_nxt (s_nil (s_nxt (s_nil (s_nxt (s_nil (s_nxt (s_nil (s_nxt (s_nil (s_nxt (s_nil (s_nxt ?_))))))))))))))
  exact fin ((((e1.trans e2).trans e3).trans e4).trans e5) (by (repeat (first | with_reducible exact l_here | assumption | refine l_there rfl ?_ | with_reducible refine l_bind ?_ | with_reducible refine l_bind0 ?_))) (by (repeat (first | with_reducible exact l_here | assumption | refine l_there rfl ?_ | with_reducible refine l_bind ?_ | with_reducible refine l_bind0 ?_))) (by (repeat (first | with_reducible exact l_here | assumption | refine l_there rfl ?_ | with_reducible refine l_bind ?_ | with_reducible refine l_bind0 ?_))) (((hv2.ext e3).ext e4).ext e5) (H4.ext e5) H5 (sm_ilist (by omega)) (sm_mk (by simp) fun d hd => by
    cases hd with
    | head => exact s3
    | tail _ hd => cases hd) rfl
end BP

/-! ## GSpecE -/
set_option linter.unusedVariables false
set_option linter.unusedSimpArgs false
namespace BP
open PySem
variable {F : Nat → CallW} {gv : Glo}

noncomputable def excNames : List String := ["HouseError", "BadHouse", "BadGuess", "BadDeed", "BadPlan", "BadSteps", "NoWay", "BadText"]
theorem word_house (h : FnOk F gv "_law_word" d_law_word) (hx : ∀ c ∈ excNames, gv.ex c = true) {d a : Nat} {σ : Sto} {Q : KV} {E : KE} (hσ : σ a = some (.exc "BadHouse")) (hQ : Q (.str (Str.ofString "house")) σ) : F (d + 1) true "_law_word" [.ref a] σ Q E := by
  have hx1 := hx "BadHouse" (by decide)
  have hx2 := hx "BadGuess" (by decide)
  have hx3 := hx "BadDeed" (by decide)
  have hx4 := hx "BadPlan" (by decide)
  have hx5 := hx "BadSteps" (by decide)
  have hx6 := hx "NoWay" (by decide)
  have hx7 := hx "BadText" (by decide)
  refine FnOk.go h rfl ?_
  refine s_cons ?_; refine s_assign ?_; refine r_bin ?_; refine r_bin ?_; refine r_str ?_; refine r_bint ?_; refine r_cons ?_; refine r_not ?_; refine r_isi ?_; refine r_var (l_bind (l_bind0 l_here)) ?_; refine z_val (by assumption) ?_; refine t_bool ?_; refine r_nil ?_; refine b_int ?_; refine o_smul (by decide +kernel) ?_; refine r_bin ?_; refine r_str ?_; refine r_bint ?_; refine r_cons ?_; refine r_isi ?_; refine r_var (l_bind (l_bind0 l_here)) ?_; refine z_own (by assumption) (by assumption) ?_; refine r_nil ?_; refine b_int ?_; refine o_smul (by decide +kernel) ?_; refine o_sadd (by decide +kernel) ?_
  refine s_nxt ?_; refine s_cons ?_; refine s_assign ?_; refine r_bin ?_; refine r_bin ?_; refine r_var l_here ?_; refine r_bin ?_; refine r_str ?_; refine r_bint ?_; refine r_cons ?_; refine r_isi ?_; refine r_var (l_there rfl (l_bind (l_bind0 l_here))) ?_; refine z_own (by assumption) (by assumption) ?_; refine r_nil ?_; refine b_int ?_; refine o_smul (by decide +kernel) ?_; refine o_sadd (by decide +kernel) ?_; refine r_bin ?_; refine r_str ?_; refine r_bint ?_; refine r_cons ?_; refine r_isi ?_; refine r_var (l_there rfl (l_bind (l_bind0 l_here))) ?_; refine z_own (by assumption) (by assumption) ?_; refine r_nil ?_; refine b_int ?_; refine o_smul (by decide +kernel) ?_; refine o_sadd (by decide +kernel) ?_
  refine s_nxt ?_; refine s_cons ?_; refine s_assign ?_; refine r_bin ?_; refine r_bin ?_; refine r_var l_here ?_; refine r_bin ?_; refine r_str ?_; refine r_bint ?_; refine r_cons ?_; refine r_isi ?_; refine r_var (l_there rfl (l_there rfl (l_bind (l_bind0 l_here)))) ?_; refine z_own (by assumption) (by assumption) ?_; refine r_nil ?_; refine b_int ?_; refine o_smul (by decide +kernel) ?_; refine o_sadd (by decide +kernel) ?_; refine r_bin ?_; refine r_str ?_; refine r_bint ?_; refine r_cons ?_; refine r_isi ?_; refine r_var (l_there rfl (l_there rfl (l_bind (l_bind0 l_here)))) ?_; refine z_own (by assumption) (by assumption) ?_; refine r_nil ?_; refine b_int ?_; refine o_smul (by decide +kernel) ?_; refine o_sadd (by decide +kernel) ?_
  refine s_nxt ?_; refine s_cons ?_; refine s_ret ?_; refine r_bin ?_; refine r_bin ?_; refine r_var l_here ?_; refine r_bin ?_; refine r_str ?_; refine r_bint ?_; refine r_cons ?_; refine r_isi ?_; refine r_var (l_there rfl (l_there rfl (l_there rfl (l_bind (l_bind0 l_here))))) ?_; refine z_own (by assumption) (by assumption) ?_; refine r_nil ?_; refine b_int ?_; refine o_smul (by decide +kernel) ?_; refine o_sadd (by decide +kernel) ?_; refine r_bin ?_; refine r_str ?_; refine r_bint ?_; refine r_cons ?_; refine r_isi ?_; refine r_var (l_there rfl (l_there rfl (l_there rfl (l_bind (l_bind0 l_here))))) ?_; refine z_own (by assumption) (by assumption) ?_; refine r_nil ?_; refine b_int ?_; refine o_smul (by decide +kernel) ?_; refine o_sadd (by decide +kernel) ?_; refine s_out ?_; refine k_ret ?_
  refine Eq.mp (congrArg (fun x => Q (.str x) σ) (?_ : Str.ofString "house" = _)) hQ
  decide +kernel

mutual
theorem pyEq_refl : ∀ d : Dat, pyEq d d = true
  | .none => rfl
  | .bool b => by simp [pyEq]
  | .int i => by simp [pyEq]
  | .str s => by simp [pyEq]
  | .list ds => by simp only [pyEq]; exact pyEqL_refl ds
  | .tup ds => by simp only [pyEq]; exact pyEqL_refl ds
theorem pyEqL_refl : ∀ ds : List Dat, pyEqL ds ds = true
  | [] => rfl
  | d :: ds => by simp only [pyEqL, Bool.and_eq_true]; exact ⟨pyEq_refl d, pyEqL_refl ds⟩
end
theorem ne_same {σ : Sto} {d : Dat} {v w : Val} {K : Bool → Prop} (hv : Has σ d v) (hw : Has σ d w) (hd : dOk 9 d = true) (h : K false) : cmpW .ne v w σ K := ⟨d, d, hv, hw, hd, hd, by rw [pyEq_refl]; exact h⟩
theorem eq_same {σ : Sto} {d : Dat} {v w : Val} {K : Bool → Prop} (hv : Has σ d v) (hw : Has σ d w) (hd : dOk 9 d = true) (h : K true) : cmpW .eq v w σ K := ⟨d, d, hv, hw, hd, hd, by rw [pyEq_refl]; exact h⟩
theorem s_try {F : CallW} {body hs : List St} {cls x : String} {ρ : Loc} {σ : Sto} {Q : KS} {E : KX} (hx : gv.ex cls = true) (h : wpSs F gv false body ρ σ Q (fun c ρ' σ' => excSub c cls = true ∧ ∀ a, σ' a = none →
      wpSs F gv true hs (upd ρ' x (.ref a)) (σ'.set a (.exc c)) (fun fl _ σ'' => Q fl (fun _ => none) σ'') (fun _ _ _ => False))) : wpS F gv false (.try_ body cls x hs) ρ σ Q E := ⟨rfl, hx, h⟩

theorem refused_spec (hw : FnOk F gv "is_whole" d_is_whole) (hr : FnOk F gv "is_rising" d_is_rising) (hde : FnOk F gv "is_deed" d_is_deed) (hod : FnOk F gv "own_deed" d_own_deed) (hH : ClsOk F gv "House" d_House_init)
    (g1 : gv.gv "MOST_ROOMS" = some (.int 8)) (g2 : gv.gv "MOST_DEEDS" = some (.int 5)) (g3 : gv.gv "MOST_LOOK" = some (.int 9)) (hx : ∀ c ∈ excNames, gv.ex c = true) (hwd : FnOk F gv "_law_word" d_law_word) (h : FnOk F gv "_law_refused" d03_law_refused)
    {d : Nat} {vl vd vw : Val} {el ed ew : Dat} {σ : Sto} {Q : KV} {E : KE} (hl : Has σ el vl) (hd : Has σ ed vd) (hwi : Has σ ew vw) (sl : sm 8 el = true) (sd : sm 8 ed = true) (hb : houseB el ed ew = false)
    (hQ : ∀ σ', Ext σ σ' → Q (.bool true) σ') : F (d + 6) false "_law_refused" [vl, vd, vw] σ Q E := by
  refine FnOk.go h rfl ?_
  refine s_cons (s_try (hx "HouseError" (by decide)) ?_)
  refine s_cons ?_; refine s_expr ?_; refine r_call (ClsOk.cf (by assumption)) ?_; refine r_cons ?_; refine r_var (l_bind (l_bind (l_bind (l_there rfl (l_there rfl l_here))))) ?_; refine r_cons ?_; refine r_var (l_bind (l_bind (l_bind (l_there rfl l_here)))) ?_; refine r_cons ?_; refine r_var (l_bind (l_bind (l_bind (l_bind0 l_here)))) ?_; refine r_nil ?_
  refine house_spec hw hr hde hod hH g1 g2 g3 (hx "BadHouse" (by decide)) (d := d) hl hd hwi sl sd (fun _ σ' e => ⟨rfl, fun a ha => ?_⟩) fun ht => by rw [hb] at ht; cases ht
  refine s_cons ?_; refine s_ret ?_; refine r_cmp ?_; refine r_call (FnOk.cf (by assumption)) ?_; refine r_cons ?_; refine r_var l_here ?_; refine r_nil ?_
  refine word_house hwd hx (d := d + 4) (set_at _ _ _) ?_
  refine r_str ?_
  refine eq_same (d := .str (Str.ofString "house")) rfl rfl rfl ?_
  refine s_out ?_; refine s_out ?_; refine k_ret ?_
  exact hQ _ (e.trans (.set ha _))

/-! ### lists that are written -/
theorem hasFL_get {ok : Nat → Prop} {σ : Sto} : ∀ {ds : List Dat} {xs : List Val}, HasFL ok σ ds xs → ∀ {i : Nat} {d : Dat}, ds[i]? = some d → ∃ x, xs[i]? = some x ∧ HasF ok σ d x
  | [], xs, h, i, d, e => by simp at e
  | d' :: ds, xs, h, i, d, e => by
    obtain ⟨y, zs, rfl, h1, h2⟩ := h
    cases i with
    | zero => simp at e; subst e; exact ⟨y, by simp, h1⟩
    | succ i => simp at e; obtain ⟨x, g1, g2⟩ := hasFL_get h2 e; exact ⟨x, by simpa using g1, g2⟩
theorem sub_first {ok : Nat → Prop} {σ : Sto} {ds : List Dat} {v : Val} {Q : KV} {d : Dat} (hv : HasF ok σ (.list (d :: ds)) v) (hQ : ∀ x, HasF ok σ d x → Q x σ) : subW v (.int 0) σ Q := by
  refine Classical.byContradiction fun hG => ?_
  obtain ⟨a, xs, rfl, _, ha, hxs⟩ := hv
  obtain ⟨x, hx, hdx⟩ := hasFL_get hxs (i := 0) rfl
  exact hG (subW_list ha (x := x) (by rw [show (0 : Int) = ((0 : Nat) : Int) from rfl, getIdx_nat]; exact hx) (hQ x hdx))
noncomputable def Lst (σ : Sto) (a : Nat) : Prop := ∃ xs, σ a = some (.list xs) ∧ xs.length ≤ 200
theorem Lst.set {σ : Sto} {a b : Nat} {ys : List Val} (h : Lst σ a) (hy : ys.length ≤ 200) : Lst (σ.set b (.list ys)) a := by
  by_cases q : a = b
  · subst q; exact ⟨ys, set_at _ _ _, hy⟩
  · obtain ⟨xs, h1, h2⟩ := h; exact ⟨xs, by rw [set_ne _ _ q]; exact h1, h2⟩
theorem ilistF {ok : Nat → Prop} {σ : Sto} {ns : List Int} {v : Val} (h : HasF ok σ (ilist ns) v) : ∃ a, v = .ref a ∧ ok a ∧ σ a = some (.list (ns.map .int)) := by
  obtain ⟨a, xs, h1, h2, h3, h4⟩ := h
  exact ⟨a, h1, h2, by rw [h3, hasL_ints_eq h4.has]⟩
theorem flat1_ilist (ns : List Int) : flat1 (ilist ns) = true := by
  show (ns.map Dat.int).all intD = true
  rw [List.all_eq_true]; intro d hd; obtain ⟨i, _, rfl⟩ := List.mem_map.mp hd; rfl
theorem flat3_deeds (D : List (List (List Int))) : flat3 (.list (D.map deedD)) = true := by
  show (D.map deedD).all flat2 = true
  rw [List.all_eq_true]; intro d hd; obtain ⟨rows, _, rfl⟩ := List.mem_map.mp hd
  show (rows.map ilist).all flat1 = true
  rw [List.all_eq_true]; intro d hd; obtain ⟨ns, _, rfl⟩ := List.mem_map.mp hd
  exact flat1_ilist ns
theorem dOk_three {el ed ew : Dat} (h1 : sm 8 el = true) (h2 : sm 8 ed = true) (h3 : sm 8 ew = true) : dOk 9 (.list [el, ed, ew]) = true := by
  show (dOk 8 el && (dOk 8 ed && (dOk 8 ew && true))) = true
  rw [sm_ok 8 8 _ (Nat.le_refl _) h1, sm_ok 8 8 _ (Nat.le_refl _) h2, sm_ok 8 8 _ (Nat.le_refl _) h3]; rfl
theorem hasL3 {σ : Sto} {a b c : Dat} {x y z : Val} (h1 : Has σ a x) (h2 : Has σ b y) (h3 : Has σ c z) : HasL σ [a, b, c] [x, y, z] := HasL.cons.mpr ⟨h1, l2 h2 h3⟩
end BP

/-! ## GSpecF -/
set_option linter.unusedVariables false
set_option linter.unusedSimpArgs false
namespace BP
open PySem
variable {F : Nat → CallW} {gv : Glo}

theorem copy_iteF {F : CallW} {x : String} {v : Val} {e : Dat} {ρ : Loc} {σ : Sto} {Q : KV} {E : KE} {ok : Nat → Prop} (hρ : ρ x = some v) (hv : HasF ok σ e v) (hQ : ∀ w σ', Ext σ σ' → HasF (fun b => ok b ∨ σ b = none) σ' e w → (flat1 e = true → HasF (new σ) σ' e w) → Q w σ') :
    wpE F gv false (.ite (.isi (.var x) .list) (.bcall .list [.var x]) (.var x)) ρ σ Q E := by
  refine r_ite ?_; refine r_isi ?_; refine r_var (by assumption) ?_
  refine y_dl hv.has ?_
  refine t_bool ?_
  cases c1 : isL e with
  | false =>
    refine i_f ?_; refine r_var (by assumption) ?_
    exact hQ v σ (.refl σ) (hv.move (fun _ _ _ q => q) fun _ q => .inl q) fun h => by cases e <;> first | cases h | cases c1
  | true =>
    have ee := isL_eq c1
    generalize elems e = ds at ee
    subst ee
    refine Classical.byContradiction fun hG => ?_
    obtain ⟨a, xs, rfl, _, ha, hxs⟩ := hv
    refine hG ?_
    clear hG
    refine i_t ?_; refine r_bcall ?_; refine r_cons ?_; refine r_var (by assumption) ?_; refine r_nil ?_; refine b_list (by assumption) ?_
    refine n_ob fun b hb => hQ _ _ (.set hb _) (newF_list hb (.inr hb) (hxs.move (fun _ _ _ q => q) fun _ q => .inl q)) fun h => ?_
    obtain ⟨L, rfl⟩ := ints_of (List.all_eq_true.mp h)
    rw [hasL_ints_eq hxs.has]
    exact newF_list hb hb hasFL_ints

theorem Lst.set' {σ : Sto} {a b : Nat} {ys : List Val} (h : Lst σ a) (hy : ys.length ≤ 300) : ∃ xs, (σ.set b (.list ys)) a = some (.list xs) ∧ xs.length ≤ 300 := by
  by_cases q : a = b
  · subst q; exact ⟨ys, set_at _ _ _, hy⟩
  · obtain ⟨xs, h1, h2⟩ := h; exact ⟨xs, by rw [set_ne _ _ q]; exact h1, by omega⟩
section
variable {d : Nat} {Q : KS} {E : KX}
/-- what is written after the house is made: nothing of it, nothing older -/
structure Js (τ σh σm ω : Sto) (hh : Nat) (hs : List Val) : Prop where
  old : Ext τ ω
  own : ∀ a ob, σh a = none → σm a = some ob → ω a = some ob
  hand : ω hh = some (.list hs)
theorem Js.ext {τ σh σm ω ω' : Sto} {hh : Nat} {hs : List Val} (J : Js τ σh σm ω hh hs) (e : Ext ω ω') : Js τ σh σm ω' hh hs := ⟨J.old.trans e, fun a ob q q' => e _ _ (J.own a ob q q'), e _ _ J.hand⟩
theorem Js.set {τ σh σm ω : Sto} {hh m : Nat} {hs : List Val} {ob : Ob} (J : Js τ σh σm ω hh hs) (h1 : τ m = none) (h2 : σh m ≠ none) (h3 : hh ≠ m) : Js τ σh σm (ω.set m ob) hh hs where
  old := fun a ob' q => by rw [set_ne _ _ (fun e => by rw [e, h1] at q; cases q)]; exact J.old _ _ q
  own := fun a ob' q q' => by rw [set_ne _ _ (fun e => h2 (by rw [← e]; exact q))]; exact J.own _ _ q q'
  hand := by rw [set_ne _ _ h3]; exact J.hand

set_option maxHeartbeats 4000000 in
/-- the law from the point where the house's data are there, good or not -/
theorem law03_rest (hw : FnOk F gv "is_whole" d_is_whole) (hr : FnOk F gv "is_rising" d_is_rising) (hde : FnOk F gv "is_deed" d_is_deed) (hod : FnOk F gv "own_deed" d_own_deed) (hH : ClsOk F gv "House" d_House_init)
    (g1 : gv.gv "MOST_ROOMS" = some (.int 8)) (g2 : gv.gv "MOST_DEEDS" = some (.int 5)) (g3 : gv.gv "MOST_LOOK" = some (.int 9)) (hx : ∀ c ∈ excNames, gv.ex c = true) (hwd : FnOk F gv "_law_word" d_law_word) (hrf : FnOk F gv "_law_refused" d03_law_refused)
    (hli : FnOk F gv "_law_int" d_law_int) (hir : FnOk F gv "_law_is_rising" d_law_is_rising) (hgo : FnOk F gv "_law_good" d03_law_good) (hcp : FnOk F gv "_law_copy" d03_law_copy) (hcd : FnOk F gv "_law_copied" d_law_copied)
    {τ : Sto} {ρ : Loc} {w : Val} {el ed ew : Dat} (hv : Has τ (.tup [el, ed, ew]) w) (sl : sm 8 el = true) (sd : sm 8 ed = true) (sw : sm 8 ew = true) (r1 : ρ "_law_house_here" = some w)
    (hQ : ∀ ρ' σ', Q (.ret (.bool true)) ρ' σ') : wpSs (F (d + 6)) gv false (d03_law.2.drop 3) ρ τ Q E := by
  refine Classical.byContradiction fun hG => ?_
  obtain ⟨ah, xs, rfl, hah, y1, ys1, rfl, H1, y2, ys2, rfl, H2, y3, ys3, rfl, H3, h5⟩ := hv
  cases h5
  refine hG ?_
  clear hG
  simp only [d03_law, List.drop]
  have three := dOk_three sl sd sw
  refine s_cons (s_unpack r1 hah rfl ?_)
  -- what is handed
  refine s_nxt (s_cons (s_assign (r_list (r_cons (copy_ite (by (repeat (first | with_reducible exact l_here | assumption | refine l_there rfl ?_ | with_reducible refine l_bind ?_ | with_reducible refine l_bind0 ?_))) H1 fun wl σ1 e1 C1 => ?_)))))
  refine r_cons ?_; refine r_call (FnOk.cf (by assumption)) ?_; refine r_cons ?_; refine r_var (l_bind (l_bind (l_bind (l_there rfl l_here)))) ?_; refine r_nil ?_
  refine law_copied_spec hcp hcd (d := d + 4) (H2.ext e1) sd fun wd σ2 e2 C2 => ?_
  refine r_nil ?_
  refine n_lit rfl fun hh n3 => ?_
  have A3 := set_at σ2 hh (.list [wl, wd])
  have e3 := Ext.set n3 (.list [wl, wd])
  generalize σ2.set hh (.list [wl, wd]) = σ3 at A3 e3 ⊢
  have E3 := (e1.trans e2).trans e3
  have T3 : HasF (fun b => τ b ≠ none) σ3 ew y3 := H3.hasF.there.move (fun b ob _ q => E3 _ _ q) fun b q => q.2
  refine s_nxt (s_cons (s_expr (r_meth (r_var (by (repeat (first | with_reducible exact l_here | assumption | refine l_there rfl ?_ | with_reducible refine l_bind ?_ | with_reducible refine l_bind0 ?_))) (m_on A3 (r_cons (copy_iteF (by (repeat (first | with_reducible exact l_here | assumption | refine l_there rfl ?_ | with_reducible refine l_bind ?_ | with_reducible refine l_bind0 ?_))) T3 fun ww σ4 e4 C4 C4' => ?_)))))))
  refine r_nil ?_
  refine m_app (e4 _ _ A3) (by simp) ?_
  have n0 : τ hh = none := (e1.trans e2).new n3
  have x5 : ∀ {b : Nat} {ob : Ob}, b ≠ hh → σ4 b = some ob → (σ4.set hh (.list ([wl, wd] ++ [ww]))) b = some ob := fun hb q => by rw [set_ne _ _ hb]; exact q
  have A5 : (σ4.set hh (.list ([wl, wd] ++ [ww]))) hh = some (.list [wl, wd, ww]) := set_at σ4 hh (.list ([wl, wd] ++ [ww]))
  have E5 : Ext τ (σ4.set hh (.list ([wl, wd] ++ [ww]))) := fun b ob q => x5 (fun e => by rw [e, n0] at q; cases q) ((E3.trans e4) _ _ q)
  have E15 : ∀ b ob, σ1 b = some ob → (σ4.set hh (.list ([wl, wd] ++ [ww]))) b = some ob := fun b ob q => x5 (fun e => by rw [e] at q; rw [e2 _ _ q] at n3; cases n3) ((e2.trans (e3.trans e4)) _ _ q)
  -- what is handed does not hold the list of it
  have mv : ∀ {ok : Nat → Prop} {dt : Dat} {u : Val}, HasF ok σ4 dt u → (∀ b, ok b → b ≠ hh) → HasF ok (σ4.set hh (.list ([wl, wd] ++ [ww]))) dt u := fun q k => q.move (fun b ob hb q' => x5 (k b hb) q') fun _ q => q
  have X1 : HasF (fun b => b ≠ hh) σ4 el wl := (C1.1.ext e2).hasF.there.move (fun b ob _ q => (e3.trans e4) _ _ q) fun b q e => q.2 (by rw [e]; exact n3)
  have X2 : HasF (fun b => b ≠ hh) σ4 ed wd := C2.1.hasF.there.move (fun b ob _ q => (e3.trans e4) _ _ q) fun b q e => q.2 (by rw [e]; exact n3)
  have X3 : HasF (fun b => b ≠ hh) σ4 ew ww := C4.move (fun _ _ _ q => q) fun b q e => by
    subst e
    rcases q with q | q
    · exact q n0
    · rw [A3] at q; cases q
  have P1 := (mv X1 fun _ q => q).has
  have P2 := (mv X2 fun _ q => q).has
  have P3 := (mv X3 fun _ q => q).has
  have G1 : flat1 el = true → HasF (fun b => (τ b = none ∧ σ1 b ≠ none) ∧ b ≠ hh) (σ4.set hh (.list ([wl, wd] ++ [ww]))) el wl := fun q => mv ((C1.2 q).there.move (fun b ob _ q => (e2.trans (e3.trans e4)) _ _ q) fun b q => ⟨q, fun e => by subst e; exact q.2 (e2.new n3)⟩) fun _ q => q.2
  have G2 : flat3 ed = true → HasF (fun b => σ1 b = none ∧ b ≠ hh) (σ4.set hh (.list ([wl, wd] ++ [ww]))) ed wd := fun q => mv ((C2.2 q).there.move (fun b ob _ q => (e3.trans e4) _ _ q) fun b q => ⟨q.1, fun e => by subst e; exact q.2 n3⟩) fun _ q => q.2
  have G3 : flat1 ew = true → HasF (fun b => τ b = none ∧ b ≠ hh) (σ4.set hh (.list ([wl, wd] ++ [ww]))) ew ww := fun q => mv ((C4' q).move (fun _ _ _ q => q) fun b q => ⟨E3.new q, fun e => by subst e; have q : σ3 b = none := q; rw [A3] at q; cases q⟩) fun _ q => q.2
  clear mv X1 X2 X3 C1 C2 C4 C4' T3 x5
  generalize σ4.set hh (.list ([wl, wd] ++ [ww])) = σ5 at A5 E5 E15 P1 P2 P3 G1 G2 G3 ⊢
  clear A3 e4 e3 E3 e2 n3
  refine s_nxt ?_; refine s_cons ?_; refine s_if ?_; refine r_not ?_; refine r_call (FnOk.cf (by assumption)) ?_; refine r_cons ?_; refine r_var (l_there rfl (l_bind (l_bind (l_bind (l_there rfl (l_there rfl l_here)))))) ?_; refine r_cons ?_; refine r_var (l_there rfl (l_bind (l_bind (l_bind (l_there rfl l_here))))) ?_; refine r_cons ?_; refine r_var (l_there rfl (l_bind (l_bind (l_bind (l_bind0 l_here))))) ?_; refine r_nil ?_
  refine law_good_spec hli hir hgo (d := d + 3) (H1.ext E5) (H2.ext E5) (H3.ext E5) sl sd sw fun σ6 e6 => ?_
  have A6 := e6 _ _ A5
  refine t_bool ?_; refine t_bool ?_
  cases cb : houseB el ed ew with
  | false =>
    refine i_nf ?_
    refine s_cons ?_; refine s_ret ?_; refine r_and ?_; refine r_and2 ?_; refine r_call (FnOk.cf (by assumption)) ?_; refine r_cons ?_; refine r_sub ?_; refine r_var l_here ?_; refine r_int ?_
    refine subW_list A6 (x := wl) rfl ?_
    refine r_cons ?_; refine r_sub ?_; refine r_var l_here ?_; refine r_int ?_
    refine subW_list A6 (x := wd) rfl ?_
    refine r_cons ?_; refine r_sub ?_; refine r_var l_here ?_; refine r_int ?_
    refine subW_list A6 (x := ww) rfl ?_
    refine r_nil ?_
    refine refused_spec hw hr hde hod hH g1 g2 g3 hx hwd hrf (d := d) (P1.ext e6) (P2.ext e6) (P3.ext e6) sl sd cb fun σ7 e7 => ?_
    refine t_bool ?_; refine i_t ?_; refine r_and1 ?_; refine r_cmp ?_; refine r_var l_here ?_; refine r_list ?_; refine r_cons ?_; refine r_var (l_there rfl (l_bind (l_bind (l_bind (l_there rfl (l_there rfl l_here)))))) ?_; refine r_cons ?_; refine r_var (l_there rfl (l_bind (l_bind (l_bind (l_there rfl l_here))))) ?_; refine r_cons ?_; refine r_var (l_there rfl (l_bind (l_bind (l_bind (l_bind0 l_here))))) ?_; refine r_nil ?_
    refine n_lit rfl fun a8 h8 => ?_
    have x7 := e6.trans e7
    have x8 := x7.trans (.set h8 (.list [y1, y2, y3]))
    refine eq_same (d := .list [el, ed, ew]) ⟨hh, _, rfl, x8 _ _ A5, hasL3 (P1.ext x8) (P2.ext x8) (P3.ext x8)⟩ (has_new_list h8 (hasL3 ((H1.ext E5).ext x7) ((H2.ext E5).ext x7) ((H3.ext E5).ext x7))) three ?_
    refine s_out ?_; refine s_out ?_
    exact hQ _ _
  | true =>
  refine i_nt ?_; refine s_nil ?_
  refine s_nxt ?_; refine s_cons ?_; refine s_assign ?_; refine r_call (ClsOk.cf (by assumption)) ?_; refine r_cons ?_; refine r_sub ?_; refine r_var l_here ?_; refine r_int ?_
  refine subW_list A6 (x := wl) rfl ?_
  refine r_cons ?_; refine r_sub ?_; refine r_var l_here ?_; refine r_int ?_
  refine subW_list A6 (x := wd) rfl ?_
  refine r_cons ?_; refine r_sub ?_; refine r_var l_here ?_; refine r_int ?_
  refine subW_list A6 (x := ww) rfl ?_
  refine r_nil ?_
  refine house_spec hw hr hde hod hH g1 g2 g3 (hx "BadHouse" (by decide)) (d := d + 1) (P1.ext e6) (P2.ext e6) (P3.ext e6) sl sd (fun hf => by rw [cb] at hf; cases hf) fun _ L D W q1 q2 q3 ok vm σ7 e7 hM => ?_
  clear cb
  subst q1 q2 q3
  have G1 := G1 (flat1_ilist L)
  have G2 := G2 (flat3_deeds D)
  have G3 := G3 (flat1_ilist W)
  have x7 := e6.trans e7
  -- the two comparisons
  refine s_nxt ?_; refine s_cons ?_; refine s_if ?_; refine r_or ?_; refine r_or2 ?_; refine r_cmp ?_; refine r_var (l_there rfl l_here) ?_; refine r_list ?_; refine r_cons ?_; refine r_var (l_there rfl (l_there rfl (l_bind (l_bind (l_bind (l_there rfl (l_there rfl l_here))))))) ?_; refine r_cons ?_; refine r_var (l_there rfl (l_there rfl (l_bind (l_bind (l_bind (l_there rfl l_here)))))) ?_; refine r_cons ?_; refine r_var (l_there rfl (l_there rfl (l_bind (l_bind (l_bind (l_bind0 l_here)))))) ?_; refine r_nil ?_
  refine n_lit rfl fun a8 h8 => ?_
  have s8 := Ext.set h8 (.list [y1, y2, y3])
  have x8 := x7.trans s8
  refine ne_same (d := .list [ilist L, .list (D.map deedD), ilist W]) ⟨hh, _, rfl, x8 _ _ A5, hasL3 (P1.ext x8) (P2.ext x8) (P3.ext x8)⟩ (has_new_list h8 (hasL3 ((H1.ext E5).ext x7) ((H2.ext E5).ext x7) ((H3.ext E5).ext x7))) three ?_
  have e78 := s8
  generalize σ7.set a8 (.list [y1, y2, y3]) = σ8 at x8 e78 ⊢
  clear s8
  have hM8 := hM.move (τ := σ8) fun a ob _ q => e78 _ _ q
  refine t_bool ?_; refine i_f ?_; refine r_or1 ?_; refine r_cmp ?_; refine r_list ?_; refine r_cons ?_; refine r_attr ?_; refine r_var l_here ?_
  refine hM8.looks fun u1 k1 => ?_
  refine r_cons ?_; refine r_attr ?_; refine r_var l_here ?_
  refine hM8.deeds fun u2 k2 => ?_
  refine r_cons ?_; refine r_attr ?_; refine r_var l_here ?_
  refine hM8.wished fun u3 k3 => ?_
  refine r_nil ?_
  refine n_lit rfl fun a9 h9 => ?_
  have e89 := Ext.set h9 (.list [u1, u2, u3])
  have x9 := x8.trans e89
  refine r_var (l_there rfl l_here) ?_
  refine ne_same (d := .list [ilist L, .list (D.map deedD), ilist W]) (has_new_list h9 (hasL3 k1.has k2.has k3.has)) ⟨hh, _, rfl, x9 _ _ A5, hasL3 (P1.ext x9) (P2.ext x9) (P3.ext x9)⟩ three ?_
  generalize σ8.set a9 (.list [u1, u2, u3]) = σ9 at e89 x9 ⊢
  refine t_bool ?_; refine i_f ?_; refine s_nil ?_
  have J : Js τ σ6 σ7 σ9 hh [wl, wd, ww] := ⟨E5.trans x9, fun a ob _ q => e89 _ _ (e78 _ _ q), x9 _ _ A5⟩
  clear hM8 k1 k2 k3 e78 x8 P1 P2 P3
  have m1 := ok.many1
  have m8 := ok.many8
  have cnt := ok.count
  have ll := ok.looks.1
  have wl' : W.length ≤ 50 := by have := rooms_len ok.wished (by omega); omega
  refine Classical.byContradiction fun hG => ?_
  obtain ⟨a0, rfl, ⟨⟨o1, o2⟩, o3⟩, l0⟩ := ilistF G1
  obtain ⟨a2, rfl, ⟨t1, t2⟩, l2'⟩ := ilistF G3
  have G2t := G2.there
  obtain ⟨a1, xs1, rfl, ⟨w1, w2⟩, l1', hxs1⟩ := G2
  cases D with
  | nil => simp at cnt
  | cons rows0 D' =>
  have r0 := ok.deeds rows0 (.head _)
  have r1' := r0.1
  cases rows0 with
  | nil => simp at r1'; omega
  | cons ns0 rows' =>
  refine hG ?_
  clear hG
  have nl := rooms_len (r0.2 ns0 (.head _)).1 (by omega)
  have hx1 := hasL_len hxs1.has
  simp only [List.length_map, List.length_cons] at hx1 cnt
  have there : ∀ {b : Nat} {ob : Ob}, σ5 b = some ob → σ6 b ≠ none := fun q => by rw [e6 _ _ q]; simp
  -- four writings
  refine s_nxt ?_; refine s_cons ?_; refine s_expr ?_; refine r_meth ?_; refine r_sub ?_; refine r_var (l_there rfl l_here) ?_; refine r_int ?_
  refine subW_list J.hand (x := .ref a0) rfl ?_
  refine m_on (x9 _ _ l0) ?_
  refine r_cons ?_; refine r_int ?_; refine r_nil ?_
  refine m_app (x9 _ _ l0) (by simp; omega) ?_
  have J1 := J.set (ob := .list (L.map .int ++ [.int 0])) o1 (there l0) (Ne.symm o3)
  have D1 : HasF (fun b => (σ1 b = none ∧ b ≠ hh) ∧ σ5 b ≠ none) (σ9.set a0 (.list (L.map .int ++ [.int 0]))) (.list (((ns0 :: rows') :: D').map deedD)) (.ref a1) := G2t.move (fun b ob hb q => by rw [set_ne _ _ (fun e => o2 (by rw [← e]; exact hb.1.1))]; exact x9 _ _ q) fun _ q => q
  have L1 : Lst (σ9.set a0 (.list (L.map .int ++ [.int 0]))) a1 := Lst.set ⟨xs1, x9 _ _ l1', by omega⟩ (by simp; omega)
  have L2 : Lst (σ9.set a0 (.list (L.map .int ++ [.int 0]))) a2 := Lst.set ⟨_, x9 _ _ l2', by simp; omega⟩ (by simp; omega)
  generalize σ9.set a0 (.list (L.map .int ++ [.int 0])) = ω1 at J1 D1 L1 L2 ⊢
  refine s_nxt ?_; refine s_cons ?_; refine s_expr ?_; refine r_meth ?_; refine r_sub ?_; refine r_sub ?_; refine r_sub ?_; refine r_var (l_there rfl l_here) ?_; refine r_int ?_
  refine subW_list J1.hand (x := .ref a1) rfl ?_
  refine r_int ?_
  refine sub_first (d := deedD (ns0 :: rows')) (ds := D'.map deedD) D1 fun z1 k1 => ?_
  refine r_int ?_
  refine sub_first (d := ilist ns0) (ds := rows'.map ilist) k1 fun z2 k2 => ?_
  refine Classical.byContradiction fun hG => ?_
  obtain ⟨b, rfl, ⟨⟨v1, v2⟩, v3⟩, lb⟩ := ilistF k2
  refine hG ?_
  clear hG
  refine m_on lb ?_
  refine r_cons ?_; refine r_int ?_; refine r_nil ?_
  refine m_app lb (by simp; omega) ?_
  have J2 := J1.set (ob := .list (ns0.map .int ++ [.int 9])) (e1.new v1) (fun q => v3 (e6.new q)) (Ne.symm v2)
  have L1 := L1.set (b := b) (ys := ns0.map .int ++ [.int 9]) (by simp; omega)
  have L2 := L2.set (b := b) (ys := ns0.map .int ++ [.int 9]) (by simp; omega)
  generalize ω1.set b (.list (ns0.map .int ++ [.int 9])) = ω2 at J2 L1 L2 ⊢
  refine s_nxt ?_; refine s_cons ?_; refine s_expr ?_; refine r_meth ?_; refine r_sub ?_; refine r_var (l_there rfl l_here) ?_; refine r_int ?_
  refine subW_list J2.hand (x := .ref a1) rfl ?_
  refine Classical.byContradiction fun hG => ?_
  obtain ⟨ys1, g1', g2'⟩ := L1
  refine hG ?_
  clear hG
  refine m_on g1' ?_
  refine r_cons ?_; refine r_list0 ?_
  refine n_ob fun a10 h10 => ?_
  have s10 := Ext.set h10 (.list [])
  refine r_nil ?_
  refine m_app (s10 _ _ g1') (by omega) ?_
  have J3 := (J2.ext s10).set (ob := .list (ys1 ++ [.ref a10])) (e1.new w1) (there l1') (Ne.symm w2)
  have L2 := Lst.set' (b := a1) (ys := ys1 ++ [.ref a10]) (L2.set (b := a10) (ys := []) (by simp)) (by simp; omega)
  generalize (ω2.set a10 (.list [])).set a1 (.list (ys1 ++ [.ref a10])) = ω3 at J3 L2 ⊢
  refine s_nxt ?_; refine s_cons ?_; refine s_expr ?_; refine r_meth ?_; refine r_sub ?_; refine r_var (l_there rfl l_here) ?_; refine r_int ?_
  refine subW_list J3.hand (x := .ref a2) rfl ?_
  refine Classical.byContradiction fun hG => ?_
  obtain ⟨ys2, f1', f2'⟩ := L2
  refine hG ?_
  clear hG
  refine m_on f1' ?_
  refine r_cons ?_; refine r_int ?_; refine r_nil ?_
  refine m_app f1' (by omega) ?_
  have J4 := J3.set (ob := .list (ys2 ++ [.int 0])) t1 (there l2') (Ne.symm t2)
  generalize ω3.set a2 (.list (ys2 ++ [.int 0])) = ω4 at J4 ⊢
  clear J J1 J2 J3 D1 G2t k1 k2 lb l0 l1' l2'
  have hM4 := hM.move J4.own
  refine s_nxt ?_; refine s_cons ?_; refine s_if ?_; refine r_cmp ?_; refine r_comp ?_; refine r_bin ?_; refine r_attr ?_; refine r_var l_here ?_
  refine hM4.looks fun u1 k1 => ?_
  refine Classical.byContradiction fun hG => ?_
  obtain ⟨c1, rfl, _, lc1⟩ := ilistF k1
  refine hG ?_
  clear hG
  refine r_attr ?_; refine r_var l_here ?_
  refine hM4.wished fun u3 k3 => ?_
  refine Classical.byContradiction fun hG => ?_
  obtain ⟨c3, rfl, _, lc3⟩ := ilistF k3
  refine hG ?_
  clear hG
  refine o_cat lc1 lc3 (by simp; omega) ?_
  rw [← List.map_append]
  refine n_ob fun a11 h11 => ?_
  have s11 := Ext.set h11 (.list ((L ++ W).map .int))
  have A11 := set_at ω4 a11 (.list ((L ++ W).map .int))
  generalize ω4.set a11 (.list ((L ++ W).map .int)) = ω5 at s11 A11 ⊢
  refine ⟨_, turns_list A11, by simp [lim]; omega, ?_⟩
  refine wpComp_of (D := fun i : Int => Dat.int i) (fun _ => false) (fun i => .int i) (L ++ W) _ [] _ hasL_ints (fun σ' e => stay_list A11 (e _ _ A11)) ?_ ?_ ?_
  · intro i _ v σ' e hv K' hK
    refine r_if1 ?_; refine r_not ?_; refine r_call (FnOk.cf (by assumption)) ?_; refine r_cons ?_; refine r_var l_here ?_; refine r_nil ?_
    refine law_int_spec hli hv ?_
    refine t_bool ?_; refine t_bool ?_
    refine i_neg rfl ?_
    exact hK σ' (.refl σ')
  · intro i _ hp; cases hp
  intro ys σ' e' hys a12 h12
  rw [List.filter_eq_nil_iff.mpr (by simp)] at hys
  cases hys
  have s12 := (s11.trans e').trans (.set h12 (.list ([] ++ [])))
  have N12 : Has (σ'.set a12 (.list ([] ++ []))) (.list []) (.ref a12) := has_new_list (ds := []) h12 HasL.nil
  generalize σ'.set a12 (.list ([] ++ [])) = ω6 at s12 N12 ⊢
  refine r_list0 ?_
  refine ne_nilD N12 rfl fun ω7 s13 => ?_
  have s7 := s12.trans s13
  have hM7 := hM4.move (τ := ω7) fun a ob _ q => s7 _ _ q
  have E7 := J4.old.trans s7
  rw [show isNil (.list []) = true from rfl]
  refine t_bool ?_; refine i_nt ?_; refine s_nil ?_
  refine s_nxt ?_; refine s_cons ?_; refine s_ret ?_; refine r_cmp ?_; refine r_list ?_; refine r_cons ?_; refine r_attr ?_; refine r_var l_here ?_
  refine hM7.looks fun u1 k1 => ?_
  refine r_cons ?_; refine r_attr ?_; refine r_var l_here ?_
  refine hM7.deeds fun u2 k2 => ?_
  refine r_cons ?_; refine r_attr ?_; refine r_var l_here ?_
  refine hM7.wished fun u3 k3 => ?_
  refine r_nil ?_
  refine n_lit rfl fun a13 h13 => ?_
  have N13 := has_new_list h13 (hasL3 k1.has k2.has k3.has)
  have s14 := Ext.set h13 (.list [u1, u2, u3])
  generalize ω7.set a13 (.list [u1, u2, u3]) = ω8 at N13 s14 ⊢
  refine r_list ?_; refine r_cons ?_; refine r_var (l_there rfl (l_there rfl (l_bind (l_bind (l_bind (l_there rfl (l_there rfl l_here))))))) ?_; refine r_cons ?_; refine r_var (l_there rfl (l_there rfl (l_bind (l_bind (l_bind (l_there rfl l_here)))))) ?_; refine r_cons ?_; refine r_var (l_there rfl (l_there rfl (l_bind (l_bind (l_bind (l_bind0 l_here)))))) ?_; refine r_nil ?_
  refine n_lit rfl fun a14 h14 => ?_
  have E8 := E7.trans s14
  refine eq_same (N13.ext (.set h14 _)) (has_new_list h14 (hasL3 (H1.ext E8) (H2.ext E8) (H3.ext E8))) three ?_
  refine s_out ?_
  exact hQ _ _
end
end BP

/-! ## GSpecG -/
set_option linter.unusedVariables false
set_option linter.unusedSimpArgs false
namespace BP
open PySem
variable {F : Nat → CallW} {gv : Glo}

theorem law03_spec (g1 : gv.gv "MOST_ROOMS" = some (.int 8)) (g2 : gv.gv "MOST_DEEDS" = some (.int 5)) (g3 : gv.gv "MOST_LOOK" = some (.int 9)) (hx : ∀ c ∈ excNames, gv.ex c = true)
    (hw : FnOk F gv "is_whole" d_is_whole) (hr : FnOk F gv "is_rising" d_is_rising) (hde : FnOk F gv "is_deed" d_is_deed) (hod : FnOk F gv "own_deed" d_own_deed) (hH : ClsOk F gv "House" d_House_init)
    (hwd : FnOk F gv "_law_word" d_law_word) (hrf : FnOk F gv "_law_refused" d03_law_refused) (hli : FnOk F gv "_law_int" d_law_int) (hir : FnOk F gv "_law_is_rising" d_law_is_rising) (hgo : FnOk F gv "_law_good" d03_law_good)
    (hcp : FnOk F gv "_law_copy" d03_law_copy) (hcd : FnOk F gv "_law_copied" d_law_copied) (hpu : FnOk F gv "_law_put" d_law_put) (hch : FnOk F gv "_law_changed" d_law_changed)
    (hc : FnOk F gv "_law_cell" d_law_cell) (hto : FnOk F gv "_law_to" d_law_to) (hlk : FnOk F gv "_law_looks" d_law_looks) (hlh : FnOk F gv "_law_house" d_law_house)
    {d l : Nat} {ns : List Int} {σ : Sto} {E : KX} (hσ : σ l = some (.ro (ns.map .int))) (hl : ns.length ≤ 63) : wpSs (F (d + 6)) gv false d03_law.2 (bindT d03_law.1 [.ref l] fun _ => none) σ (fun fl _ _ => match fl with | .next => Val.none = .bool true | .ret v => v = .bool true) E := by
  unfold d03_law
  refine s_cons ?_; refine s_assign ?_; refine r_call (FnOk.cf (by assumption)) ?_; refine r_cons ?_; refine r_var (l_bind (l_bind0 l_here)) ?_; refine r_nil ?_
  refine law_house_spec hc hto hlk hlh (d := d + 3) hσ hl fun many L D W vh σ1 e1 ok hho => ?_
  have m1 := ok.many1
  have m8 := ok.many8
  have wl : W.length ≤ 50 := by have := rooms_len ok.wished (by omega); omega
  refine s_nxt ?_; refine s_cons ?_; refine s_assign ?_; refine r_call (FnOk.cf (by assumption)) ?_; refine r_cons ?_; refine r_var (l_there rfl (l_bind (l_bind0 l_here))) ?_; refine r_cons ?_; refine r_int ?_; refine r_nil ?_
  refine cell_spec hc (d := d + 5) (k := 11) (e1 _ _ hσ) hl fun σ2 e2 => ?_
  refine s_nxt ?_; refine s_cons ?_; refine s_if ?_; refine r_cmp ?_; refine r_bin ?_; refine r_var l_here ?_; refine r_int ?_; refine o_mod rfl ?_; refine r_int ?_; refine c_gt ?_; refine t_bool ?_
  refine i_dec (fun q => ?_) fun q => ?_
  · refine s_cons ?_; refine s_assign ?_; refine r_sub ?_; refine r_list ?_; refine r_cons ?_; refine r_int ?_; refine r_cons ?_; refine r_int ?_; refine r_cons ?_; refine r_int ?_; refine r_cons ?_; refine r_int ?_; refine r_cons ?_; refine r_int ?_; refine r_cons ?_; refine r_int ?_; refine r_cons ?_; refine r_int ?_; refine r_cons ?_; refine r_int ?_; refine r_cons ?_; refine r_int ?_; refine r_cons ?_; refine r_int ?_; refine r_nil ?_
    refine n_lit rfl fun a3 h3 => ?_
    have e3 := (e1.trans e2).trans (Ext.set h3 (.list [.int 1, .int 2, .int 3, .int 4, .int 5, .int 6, .int 7, .int 8, .int 2, .int 3]))
    have s3 := Ext.set h3 (.list [.int 1, .int 2, .int 3, .int 4, .int 5, .int 6, .int 7, .int 8, .int 2, .int 3])
    refine r_bin ?_; refine r_bin ?_; refine r_var l_here ?_; refine r_int ?_; refine o_fdiv rfl ?_; refine r_int ?_; refine o_mod rfl ?_
    refine subW_ints (ns := [1, 2, 3, 4, 5, 6, 7, 8, 2, 3]) (set_at _ _ _) (Int.emod_nonneg _ (by omega)) (Int.emod_lt_of_pos _ (by decide)) fun way _ _ => ?_
    generalize σ2.set a3 (.list [.int 1, .int 2, .int 3, .int 4, .int 5, .int 6, .int 7, .int 8, .int 2, .int 3]) = σ3 at e3 s3 ⊢
    refine s_nxt ?_; refine s_cons ?_; refine s_assign ?_; refine r_call (FnOk.cf (by assumption)) ?_; refine r_cons ?_; refine r_var (l_there rfl (l_there rfl l_here)) ?_; refine r_cons ?_; refine r_var l_here ?_; refine r_cons ?_; refine r_call (FnOk.cf (by assumption)) ?_; refine r_cons ?_; refine r_var (l_there rfl (l_there rfl (l_there rfl (l_bind (l_bind0 l_here))))) ?_; refine r_cons ?_; refine r_int ?_; refine r_nil ?_
    refine cell_spec hc (d := d + 5) (k := 12) (e3 _ _ hσ) hl fun σ4 e4 => ?_
    refine r_cons ?_; refine r_call (FnOk.cf (by assumption)) ?_; refine r_cons ?_; refine r_var (l_there rfl (l_there rfl (l_there rfl (l_bind (l_bind0 l_here))))) ?_; refine r_cons ?_; refine r_int ?_; refine r_nil ?_
    refine cell_spec hc (d := d + 5) (k := 13) ((e3.trans e4) _ _ hσ) hl fun σ5 e5 => ?_
    refine r_nil ?_
    refine law_changed_spec hpu hch (d := d + 4) ok ((((hho.ext e2).ext s3).ext e4).ext e5) fun el ed ew w σ6 e6 hv s1 s2 s3 => ?_
    refine s_nxt (s_nil (s_nxt ?_))
    exact law03_rest hw hr hde hod hH g1 g2 g3 hx hwd hrf hli hir hgo hcp hcd hv s1 s2 s3 (by (repeat (first | with_reducible exact l_here | assumption | refine l_there rfl ?_ | with_reducible refine l_bind ?_ | with_reducible refine l_bind0 ?_))) fun _ _ => rfl
  · refine s_nil (s_nxt ?_)
    exact law03_rest hw hr hde hod hH g1 g2 g3 hx hwd hrf hli hir hgo hcp hcd (hho.ext e2) (sm_ilist (by have := ok.looks.1; omega)) (sm_deeds m1 m8 ok.count.2 ok.deeds) (sm_ilist (by omega)) (by (repeat (first | with_reducible exact l_here | assumption | refine l_there rfl ?_ | with_reducible refine l_bind ?_ | with_reducible refine l_bind0 ?_))) fun _ _ => rfl
end BP

/-! ## GTopJ -/
set_option linter.unusedVariables false
set_option linter.unusedSimpArgs false
namespace BP
open PySem PyProof.Rows

/-! ## the law's own call, out of the written part of the heap -/
theorem fnB_at {K : W.Frag} {h : Heap} {mg : Str → Option Value} {x : String} {fa : Addr} {df : List String × List St} (X : K.In h) (g : h.Ns mainGlobals mg) (hm : mg (Str.ofString x) = some (.ref fa)) (e : fnB K x df = true) : fdB K fa df = true := by
  unfold fnB at e
  split at e
  · rename_i a q
    have := refB_mg X g q
    rw [hm] at this
    cases this
    exact e
  · cases e
noncomputable def okB (K : W.Frag) (fns : List (String × (List String × List St))) : Bool := fns.all fun p => fnB K p.1 p.2 && calB K p.1
theorem fnOk_of {G : Gd} {fns : List (String × (List String × List St))} (h : okB G.K fns = true) {f : String} {df : List String × List St} (hf : (f, df) ∈ fns) (hc : G.fns.contains f = true) : FnOk (WF G) G.gv f df := by
  have := List.all_eq_true.mp h _ hf
  rw [Bool.and_eq_true] at this
  exact ⟨hc, fun d hd vs σ Q E hl hw => fnB_ok this.1 hl hw⟩
noncomputable def clsOkB (K : W.Frag) (x : String) (df : List String × List St) : Bool := match refB K x with
  | some C => clsB K C && makeB K C df && calB K x
  | none => false
theorem clsOk_of {G : Gd} {x : String} {df : List String × List St} (h : clsOkB G.K x df = true) (hc : G.cls x = refB G.K x) (hf : G.fns.contains x = true) : ClsOk (WF G) G.gv x df := by
  unfold clsOkB at h
  split at h
  · rename_i C q
    simp only [Bool.and_eq_true] at h
    exact ⟨hf, fun d hd vs σ Q E hl hw => makeB_ok q (hc.trans q) h.1.2 hl hw⟩
  · cases h
noncomputable def intB (K : W.Frag) (x : String) (i : Int) : Bool := match W.nsIn K mainGlobals (Str.ofString x) with
  | some (some (.int j _)) => j == i
  | _ => false
theorem intB_gv {G : Gd} {x : String} {i : Int} (e : intB G.K x i = true) : G.gv.gv x = some (.int i) := by
  unfold intB at e
  split at e
  · rename_i j t q
    have := W.mg_of G.kin G.g q
    show (G.mg (Str.ofString x)).bind vval = _
    rw [this, ← eq_of_beq e]; rfl
  · cases e

/-- the ground of a law with the class House -/
noncomputable def lawGd (prog : Program) (w : World) (s : Shared) (mg mb : Str → Option Value) (K : W.Frag) (KX : K.In s.heap) (g : s.heap.Ns mainGlobals mg) (b : s.heap.Ns builtinsNs mb) (bi : ∀ x : Str, x ≠ "__name__" → mb x = bootBuiltins x) (nl : s.heap.NoLimit)
    (hfree : bNames.all (freeB K) = true) (fns : List (String × (List String × List St))) (hok : okB K fns = true) (dH : List String × List St) (hH : clsOkB K "House" dH = true) (hxs : excsB K excNames = true) (hmods : (K.lookup sysModules).isSome = true) : Gd :=
  mkGd prog w s mg mb K KX g b bi nl hfree (fun c => if c = "House" then refB K "House" else none)
    (fun c C h => by
      split at h
      · unfold clsOkB at hH
        rw [h] at hH
        simp only [Bool.and_eq_true] at hH
        exact hH.1.1
      · cases h)
    ("House" :: fns.map (·.1))
    (by
      rw [List.all_cons, Bool.and_eq_true]
      refine ⟨?_, ?_⟩
      · unfold clsOkB at hH
        split at hH
        · simp only [Bool.and_eq_true] at hH; exact hH.2
        · cases hH
      · rw [List.all_map, List.all_eq_true]
        intro p hp
        have := List.all_eq_true.mp hok p hp
        rw [Bool.and_eq_true] at this
        exact this.2)
    excNames hxs hmods

theorem lawGd_ex {G : Gd} {xs : List String} (hxs : excsB G.K xs = true) (hx : ∀ c, G.exc c = if xs.contains c then refB G.K c else none) : ∀ c ∈ xs, G.gv.ex c = true := by
  intro c hc
  show (G.exc c).isSome = true
  rw [hx c, if_pos (by simpa using hc)]
  have := List.all_eq_true.mp hxs c hc
  cases q : refB G.K c with
  | none => rw [q] at this; cases this
  | some C => rfl

theorem ro_list {G : Gd} {s : Shared} {l : Addr} {vs : List Value} {ns : List Int} (hL : s.heap.IsList l vs.toArray) (hI : IntsAre vs ns) (hn : ns.length ≤ 63) : ∀ a ob, (fun x => if x = l then some (Ob.ro (ns.map .int)) else none : Sto) a = some ob → ob.isRo = true ∧ ∃ o, s.heap.get? a = some o ∧ ObR G ob o := by
  intro a ob h
  dsimp only at h
  split at h
  · rename_i q
    subst q
    cases h
    obtain ⟨o, ho, hc, n, hd⟩ := hL
    refine ⟨rfl, o, ho, _, n, hc, hd, ?_, by simp [lim]; omega⟩
    exact VsR.of_ints hI
  · cases h

/-- from the law's text to the claim -/
theorem law_end {c : W.ClaimW} {cl : Str → Option Addr} {mean : PySem.ExcName → Option Value} {args : List W.WData} {s₁ : Shared} {G : Gd} (hb : G.base = s₁.heap) (ho : s₁.os = G.os) (hg' : s₁.gens = G.gens) (hg : s₁.gens = #[]) {fa l : Addr} {df : List String × List St} (H : fdB G.K fa df = true) (hlen : df.1.length = 1) {vs : List Value} {ns : List Int} (hL : s₁.heap.IsList l vs.toArray) (hI : IntsAre vs ns) (hn : ns.length ≤ 63)
    (hw : wpSs (WF G 20) G.gv false df.2 (bindT df.1 [.ref l] fun _ => none) (fun x => if x = l then some (.ro (ns.map .int)) else none) (fun fl _ _ => match fl with | .next => Val.none = .bool true | .ret v => v = .bool true) (fun _ _ _ => False))
    (hr : ∀ cls, c.raises args cls = false) (hp : ∀ h : Heap, ∃ d, W.ReadsW c.records cl h (.bool true) d [] ∧ c.post args d args = true) :
    wpAny (model G.prog G.w) callerA (PySem.call (.ref fa) [.ref l]) (fun v s' => W.GoodWG c cl mean args s₁ (.ok (.ret v)) s') (fun e s' => W.GoodWG c cl mean args s₁ (.error e) s') s₁ := by
  refine W.enter_call ?_
  refine top_call (vs := [.ref l]) hb ho hg' H (d := 20) (by decide) (by simp [hlen]) (ro_list hL hI hn) hw (show VsR [.ref l] [.ref l] from rfl) ?_
  intro s' hk hos hgs
  obtain ⟨d, h1, h2⟩ := hp s'.heap
  exact W.GoodW.toG ⟨.inl ⟨_, d, [], rfl, hr, h1, h2, fun _ => ⟨.nil, fun a ha => by cases ha⟩⟩, hk, hos, hgs.trans hg⟩
end BP

/-! ## GHook -/
set_option linter.unusedVariables false
namespace BP
open PySem PyProof.Rows

/-! ## the written part of the heap, taken from the heap itself -/
noncomputable def fragAt (h : Heap) (as : List Addr) : W.Frag := as.filterMap fun a => (h.get? a).map fun o => (a, o)
theorem lookup_mem {α : Type} : ∀ {l : List (Nat × α)} {a : Nat} {o : α}, l.lookup a = some o → (a, o) ∈ l
  | [], _, _, h => by cases h
  | (b, x) :: l, a, o, h => by
    rw [List.lookup_cons] at h
    split at h
    · rename_i q; cases h; rw [eq_of_beq q]; exact List.mem_cons_self
    · exact List.mem_cons_of_mem _ (lookup_mem h)
theorem fragAt_in (h : Heap) (as : List Addr) : (fragAt h as).In h := by
  intro a o hm
  have hm := lookup_mem hm
  obtain ⟨b, _, hb⟩ := List.mem_filterMap.mp hm
  cases q : h.get? b with
  | none => rw [q] at hb; cases hb
  | some o' => rw [q] at hb; cases hb; exact q

/-- what the top's run is asked: a check of the written part -/
noncomputable def cHook (as : List Addr) (chk : W.Frag → Bool) : W.Hook where
  α := Bool
  obs := fun s => chk (fragAt s.heap as)
  val := fun _ => true
  says := fun _ h => ∃ K : W.Frag, K.In h ∧ chk K = true
  of := fun _ s e => ⟨_, fragAt_in _ _, e⟩
  keeps := fun _ h h' ⟨K, x, e⟩ k => ⟨K, x.keeps k, e⟩
theorem cHook_says {as : List Addr} {chk : W.Frag → Bool} {w : World} {h : Heap} (Y : (cHook as chk).says w h) : ∃ K : W.Frag, K.In h ∧ chk K = true := Y
end BP

/-! ## GEnd03 -/
namespace BP
noncomputable def fns03 : List (String × (List String × List St)) := [("is_whole", d_is_whole), ("is_rising", d_is_rising), ("is_deed", d_is_deed), ("own_deed", d_own_deed), ("_law_word", d_law_word), ("_law_refused", d03_law_refused), ("_law_int", d_law_int), ("_law_is_rising", d_law_is_rising), ("_law_good", d03_law_good), ("_law_copy", d03_law_copy), ("_law_copied", d_law_copied), ("_law_put", d_law_put), ("_law_changed", d_law_changed), ("_law_cell", d_law_cell), ("_law_to", d_law_to), ("_law_looks", d_law_looks), ("_law_house", d_law_house)]
noncomputable def ads03 : List Nat := [1, 2, 3, 15, 22, 23, 24, 25, 28, 35, 36, 37, 40, 47, 48, 49, 52, 59, 60, 61, 64, 71, 72, 73, 76, 83, 84, 85, 88, 95, 96, 97, 100, 107, 108, 109, 112, 114, 115, 117, 118, 119, 121, 122, 124, 125, 126, 129, 130, 138, 141, 142, 143, 144, 145, 146, 147, 150, 153, 154, 155, 157, 158, 160, 161, 162, 164, 165, 167, 168, 169, 172, 173, 174, 177, 178, 179, 182, 183, 199, 202, 203, 204, 207, 208, 209, 211, 212, 214, 215, 216, 218, 219, 221, 222, 223, 226, 227, 228, 231, 232, 233, 235, 236, 238, 239, 240, 242, 243, 245, 246, 247, 250, 251]
noncomputable def chk03 (K : PySem.W.Frag) : Bool := bNames.all (freeB K) && (okB K fns03 && (clsOkB K "House" d_House_init && (fnB K "law" d03_law && (intB K "MOST_ROOMS" 8 && (intB K "MOST_DEEDS" 5 && (intB K "MOST_LOOK" 9 && (excsB K excNames && (K.lookup PySem.sysModules).isSome)))))))
end BP
open PySem PySem.W PyProof.Rows
set_option Elab.async false
set_option maxRecDepth 100000 in
set_option maxHeartbeats 8000000 in
theorem PySem.Challenge.cw_uf020010_03_holds : PySem.Challenge.rw_uf020010_03.Holds := by
  w_on
  o_law
  o_head (BP.cHook BP.ads03 BP.chk03)
  (case hw => w_witness2)
  intro w s₀ s₁ mg mb G Y fa o pm cd doc dV kV ho hd hcd hD hmg hg args vals as hpre hlay hrd hwl hlo
  obtain ⟨K, KX, FF⟩ := BP.cHook_says Y
  clear ho hd hcd hD
  refine Ground.open G ?_
  intro T B D TE TW
  wrow_args hpre hlay hrd hwl hlo
  rename_i ns _ _ _ _ _ _ _ l vs _ hL _ _ _ hI _ hlen _
  have hmg' : mg (Str.ofString "law") = some (.ref fa) := hmg
  clear hmg
  simp only [BP.chk03, Bool.and_eq_true] at FF
  obtain ⟨F1, F2, F3, F4, F5, F6, F7, F8, F9⟩ := FF
  let GD := BP.lawGd rw_uf020010_03.row.prog w s₁ mg mb _ KX T.g T.b T.builtins T.nolimit F1 BP.fns03 F2 BP.d_House_init F3 F8 F9
  have fk : ∀ (k : Nat) {f df}, BP.fns03[k]? = some (f, df) → BP.FnOk (BP.WF GD) GD.gv f df := fun k {f df} hk => BP.fnOk_of (G := GD) (fns := BP.fns03) F2 (List.mem_of_getElem? hk) (by
    show ("House" :: BP.fns03.map (·.1)).contains f = true
    rw [List.contains_eq_mem, decide_eq_true_eq]
    exact List.mem_cons_of_mem _ (List.mem_map.mpr ⟨_, List.mem_of_getElem? hk, rfl⟩))
  have ck : BP.ClsOk (BP.WF GD) GD.gv "House" BP.d_House_init := BP.clsOk_of (G := GD) F3 rfl rfl
  refine BP.law_end (G := GD) rfl rfl rfl hg (BP.fnB_at KX T.g hmg' F4) rfl hL hI (by omega) ?_ ?_ ?_
  · exact BP.law03_spec (F := BP.WF GD) (d := 14) (ns := ns) (BP.intB_gv (G := GD) F5) (BP.intB_gv (G := GD) F6) (BP.intB_gv (G := GD) F7) (BP.lawGd_ex (G := GD) F8 (fun _ => rfl)) (fk 0 rfl) (fk 1 rfl) (fk 2 rfl) (fk 3 rfl) ck (fk 4 rfl) (fk 5 rfl) (fk 6 rfl) (fk 7 rfl) (fk 8 rfl) (fk 9 rfl) (fk 10 rfl) (fk 11 rfl) (fk 12 rfl) (fk 13 rfl) (fk 14 rfl) (fk 15 rfl) (fk 16 rfl)
      (σ := fun x => if x = l then some (.ro (ns.map .int)) else none) (by simp) (by omega)
  · intro cls; rfl
  · intro h; exact ⟨.bool true, .bool true, by first | rfl | kernel_rfl⟩
