import PyProof.Rows.All
import Wide.All
import OpenK.AllK
import Wide.FinOn
import HandS.ForExc
import HandS.Comp
import HandS.Iter
import HandS.Wide
import HandS.IsInst
import HandS.Conv
import HandS.TupAny
import HandS.Zip
import HandS.Rev
import HandS.Style
import PyProof.ReprRoads
import PyProof.Rows.NestShow
import HandS.NestedK
import HandS.HeadHook4
import HandS.Exc
import HandS.ExcIs
import HandS.ExcField
import HandS.HeadHook1
import PyProof.NeKinds
import HandS.SortInts
import HandS.SortRule
import KE.DataMinMax
import HandS.Deep
import HandS.TupMul
import HandS.SortKw
import KE.GoesEnum
import KE.GoesMore
import KE.KRevIter
import HandS.RevTup
import HandS.SetFor
import HandS.TryOnly
import HandS.Strs
import HandS.RaiseMore
import PyProof.MaxThree
import HandS.Codes
import HandS.CallLocal
import HandS.ExcOwn
import KE.SortKeyHeap
import HandS.More
import HandS.Words
import HandS.Defaults
import HandS.HeadEnd
import HandS.EndTab
import PyProof.ReprBulk
import PyProof.FitsInt
import Lean
import KE.KStateDown
import HandS.WordsExc
import HandS.Head0
import HandS.Head1
import HandS.Head2
import HandS.HeadHook2
import PySem.Challenge.RW_fallgain_k23_mixtures_or_not
set_option Elab.async false
set_option linter.all false
set_option maxRecDepth 100000
set_option maxHeartbeats 1000000
namespace Ev
end Ev
namespace L2
end L2
namespace PySem
end PySem
namespace Lw
open PySem PySem.Spec PyProof.Rows L2 Ev
def top (i : Nat) : Stmt := PySem.Challenge.pw_fallgain_k23_mixtures_or_not.main.body.getD i (.Pass ⟨0, 0, 0, 0⟩)
def d__law_next : He.DefD := ⟨("_law_next", none), "_law_next", "_law_next", defArgs (top 12), defBody (top 12), defScope (top 12), [], []⟩
def d__law_many : He.DefD := ⟨("_law_many", none), "_law_many", "_law_many", defArgs (top 13), defBody (top 13), defScope (top 13), [], []⟩
def d__law_order : He.DefD := ⟨("_law_order", none), "_law_order", "_law_order", defArgs (top 14), defBody (top 14), defScope (top 14), [], []⟩
def d__law_far : He.DefD := ⟨("_law_far", none), "_law_far", "_law_far", defArgs (top 20), defBody (top 20), defScope (top 20), [], []⟩
def d__law_mixture : He.DefD := ⟨("_law_mixture", none), "_law_mixture", "_law_mixture", defArgs (top 15), defBody (top 15), defScope (top 15), [], []⟩
def d__law_deep : He.DefD := ⟨("_law_deep", none), "_law_deep", "_law_deep", defArgs (top 21), defBody (top 21), defScope (top 21), [], []⟩
def d__law_odd : He.DefD := ⟨("_law_odd", none), "_law_odd", "_law_odd", defArgs (top 22), defBody (top 22), defScope (top 22), [], []⟩
def d__law_bent_order : He.DefD := ⟨("_law_bent_order", none), "_law_bent_order", "_law_bent_order", defArgs (top 23), defBody (top 23), defScope (top 23), [], []⟩
def d__law_bent_pair : He.DefD := ⟨("_law_bent_pair", none), "_law_bent_pair", "_law_bent_pair", defArgs (top 24), defBody (top 24), defScope (top 24), [], []⟩
def d__law_bent_mixture : He.DefD := ⟨("_law_bent_mixture", none), "_law_bent_mixture", "_law_bent_mixture", defArgs (top 25), defBody (top 25), defScope (top 25), [], []⟩
def d__law_says : He.DefD := ⟨("_law_says", none), "_law_says", "_law_says", defArgs (top 19), defBody (top 19), defScope (top 19), [], []⟩
def d_is_whole : He.DefD := ⟨("is_whole", none), "is_whole", "is_whole", defArgs (top 1), defBody (top 1), defScope (top 1), [], []⟩
def d_is_many : He.DefD := ⟨("is_many", none), "is_many", "is_many", defArgs (top 4), defBody (top 4), defScope (top 4), [], []⟩
def d_is_thing : He.DefD := ⟨("is_thing", none), "is_thing", "is_thing", defArgs (top 5), defBody (top 5), defScope (top 5), [], []⟩
def d_is_order : He.DefD := ⟨("is_order", none), "is_order", "is_order", defArgs (top 7), defBody (top 7), defScope (top 7), [], []⟩
def d_is_counted : He.DefD := ⟨("is_counted", none), "is_counted", "is_counted", defArgs (top 9), defBody (top 9), defScope (top 9), [], []⟩
def d_is_mixture : He.DefD := ⟨("is_mixture", none), "is_mixture", "is_mixture", defArgs (top 10), defBody (top 10), defScope (top 10), [], []⟩
def d__law_int : He.DefD := ⟨("_law_int", none), "_law_int", "_law_int", defArgs (top 16), defBody (top 16), defScope (top 16), [], []⟩
def d__law_is_order : He.DefD := ⟨("_law_is_order", none), "_law_is_order", "_law_is_order", defArgs (top 17), defBody (top 17), defScope (top 17), [], []⟩
def d__law_is_mixture : He.DefD := ⟨("_law_is_mixture", none), "_law_is_mixture", "_law_is_mixture", defArgs (top 18), defBody (top 18), defScope (top 18), [], []⟩
def d_law : He.DefD := ⟨("law", none), "law", "law", defArgs (top 26), defBody (top 26), defScope (top 26), [], []⟩
def fns : List He.DefD := [d__law_next, d__law_many, d__law_order, d__law_far, d__law_mixture, d__law_deep, d__law_odd, d__law_bent_order, d__law_bent_pair, d__law_bent_mixture, d__law_says, d_is_whole, d_is_many, d_is_thing, d_is_order, d_is_counted, d_is_mixture, d__law_int, d__law_is_order, d__law_is_mixture, d_law]
def fas : List He.Fa := [.glo "_law_next", .glo "_law_many", .glo "_law_order", .glo "_law_far", .glo "_law_mixture", .glo "_law_deep", .glo "_law_odd", .glo "_law_bent_order", .glo "_law_bent_pair", .glo "_law_bent_mixture", .glo "_law_says", .glo "is_whole", .glo "is_many", .glo "is_thing", .glo "is_order", .glo "is_counted", .glo "is_mixture", .glo "_law_int", .glo "_law_is_order", .glo "_law_is_mixture", .glo "law", .free "len", .free "min", .free "int", .free "list", .free "range", .free "tuple", .free "str", .free "isinstance", .free "bool", .free "set", .free "sorted", .free "repr", .free "max", .int "MOST" 10]
def looseNames : List PySem.Str := (["is_whole", "MOST", "is_many", "is_thing", "is_order", "is_counted", "is_mixture", "_law_next", "_law_many", "_law_order", "_law_mixture", "_law_int", "_law_is_order", "_law_is_mixture", "_law_says", "_law_far", "_law_deep", "_law_odd", "_law_bent_order", "_law_bent_pair", "_law_bent_mixture"] : List PySem.Str)
abbrev R : PySem.W.OpenRow := PySem.W.OpenLaw.row PySem.Challenge.rw_fallgain_k23_mixtures_or_not
abbrev hk : PySem.W.Hook := He.hookD 4 fas fns
def ob (s : PySem.W.SharedT) : He.AlD := He.obsDG 4 fas fns (HandSHeadRun.getT s)
theorem map3 {α β γ δ : Type _} {o : Option α} {f : α → β} {g : α → γ} {h : α → δ} {x : β} {y : γ} {z : δ} (a : o.map f = some x) (b : o.map g = some y) (c : o.map h = some z) : o.map (fun s => (f s, g s, h s)) = some (x, y, z) := by
  cases o with
  | none => cases a
  | some s =>
    cases a
    cases b
    cases c
    rfl
open PySem PySem.W PySem.Calls PyProof.Rows HandSHeadRun in
set_option maxHeartbeats 0 in
theorem runA (w : World) (os : OsState) : Option.map (fun s => HandSHeadRun.looksF R.prog (boot_heap w.params) s.abs) (HandSHeadRun.endF (stepQ (denQ tabQ) R.prog w) 1620 R.prog w os) = some (true) := by
  kernel_rfl
open PySem PySem.W PySem.Calls PyProof.Rows HandSHeadRun in
set_option maxHeartbeats 0 in
theorem runB (w : World) (os : OsState) : Option.map (fun s => seenQ (PySem.W.view R.prog [26]) looseNames (importedModules R.prog.main.body) (fun s => xlAt (PySem.W.view R.prog [26]) [] s && recOk R.toRowW.records s) s.abs) (HandSHeadRun.endF (stepQ (denQ tabQ) R.prog w) 1620 R.prog w os) = some (openGood (PySem.W.view R.prog [26]) looseNames) := by
  kernel_rfl
open PySem PySem.W PySem.Calls PyProof.Rows HandSHeadRun in
set_option maxHeartbeats 0 in
theorem runC (w : World) (os : OsState) : Option.map ob (HandSHeadRun.endF (stepQ (denQ tabQ) R.prog w) 1620 R.prog w os) = some (hk.val w) := by
  kernel_rfl
theorem run (w : World) : HandSHeadRun.RunEq R (PySem.W.view R.prog [26]) hk ob 1620 looseNames w := fun os => map3 (runA w os) (runB w os) (runC w os)
end Lw
/-! A verified evaluator over the hand layer, part 1: values, expressions, statements, what they evaluate to. -/
namespace Ev
open PySem L2

abbrev D := PyData
inductive Slot where
  | un | val (d : D) | own (l : List D) | lent (l : List D)
inductive Res where
  | val (d : D) | fr (l : List D) | pl (i : Nat)
abbrev Nv := List Slot
structure Fn where
  name : Str
  ps : List Str
  asg : List Nat
  lvl : Nat
  run : List Slot → Option (Res × List Slot)

def Slot.get : Slot → Option D
  | .un => none | .val d => some d | .own l => some (.list l) | .lent l => some (.list l)
def sAt (env : Nv) (i : Nat) : Slot := env.getD i .un
def rd (env : Nv) : Res → Option D
  | .val d => some d | .fr l => some (.list l) | .pl i => (sAt env i).get
def rdS (env : Nv) : Res → Option D
  | .val (.list _) => none
  | .val d => some d
  | .fr l => some (.list l)
  | .pl i => match sAt env i with | .own l => some (.list l) | _ => none
def rdB (op : Operator) (env : Nv) (r : Res) : Option D := match op with
  | .Mult => rdS env r
  | _ => rd env r
def keepS (i : Nat) (env : Nv) : Slot → Option (D × Nv)
  | .own l => some (.list l, env.set i (.val (.list l)))
  | .val d => some (d, env)
  | _ => none
def keep (env : Nv) : Res → Option (D × Nv)
  | .val d => some (d, env)
  | .fr l => some (.list l, env)
  | .pl i => keepS i env (sAt env i)

inductive IK where
  | seq | r1 | r2 | enum | zip | rev | zip3
inductive B1 where
  | len | int | sum | min | max | lst | tup | abs | str | srt | all | any
inductive B2 where
  | min | max

mutual
inductive E where
  | no
  | var (i : Nat)
  | cst (c : D)
  | glo (x : Str) (c : D)
  | tup (es : EL)
  | lst (es : EL)
  | bin (op : Operator) (a b : E)
  | neg (a : E)
  | cmp (op : CmpOp) (a b : E)
  | eqn (a : E)
  | chn (o1 o2 : CmpOp) (a b c : E)
  | bop (conj : Bool) (es : EL)
  | not (a : E)
  | ix (a i : E)
  | sl (a lo hi : E)
  | call (f : Fn) (es : EL)
  | b1 (b : B1) (a : E)
  | b2 (b : B2) (a c : E)
  | isi (a : E) (t : String)
  | lrng (a : E)
  | lrev (a : E)
  | dct
  | dsp (k : Int ⊕ Str) (a : E)
  | dspe (k a : E)
  | dsp2 (k : Int ⊕ Str) (a : E) (l : Int ⊕ Str) (b : E)
  | mx3 (a b c : E)
  | srv (a : E)
  | rvt (a : E)
  | rvl (a : E)
  | rp (r : Bool) (a : E)
  | lset (a : E)
  | srs (a : E)
  | dctP (a : E)
  | frz (a : E)
  | dlh (a b : E)
  | undl (a : E)
  | dli (a c b : E)
  | mt (c : Bool) (a : E)
  | srtK (a : E) (n : Str) (is : List Nat) (b : E)
  | trng (a : E)
  | inv (a : E)
  | mn3 (a b c : E)
  | mnd (a : E) (c : Int)
  | idx (a e : E)
  | ext (i : Nat) (a : E)
  | rvI (i : Nat)
  | rmv (i : Nat) (a : E)
  | app (i : Nat) (a : E)
  | pop (i : Nat)
  | popAt (i : Nat) (a : E)
  | isx (a : E) (y : Str)
  | isxT (a : E) (ys : List Str)
  | fld (i : Nat) (f : Str)
  | isv (a : E)
  | callv (i : Nat) (fs : List Fn) (es : EL)
  | callP (f : Fn) (i : Nat) (as es : EL)
  | lc (own : List (Str × Nat)) (tup : Bool) (tg : List Nat) (ik : IK) (a b c e : E)
inductive EL where
  | nil
  | cons (e : E) (es : EL)
end
mutual
inductive S where
  | asg (i : Nat) (e : E)
  | asgT (is : List Nat) (e : E)
  | asgL (is : List Nat) (e : E)
  | par (i j : Nat) (a b : E)
  | par3 (i j l : Nat) (a b c : E)
  | paro (i j : Nat) (a b : E)
  | setIx (i : Nat) (ix e : E)
  | swp (i ja jb : Nat) (e : E)
  | exp (e : E)
  | ret (e : E)
  | retN
  | ife (c : E) (a b : SL)
  | for_ (tup : Bool) (tg : List Nat) (ik : IK) (a b : E) (body : SL)
  | whl (c : E) (body : SL)
  | forc (tup : Bool) (tg : List Nat) (ik : IK) (a b : E) (n : Nat) (pre : SL) (c : E) (x rest : SL)
  | never
inductive SL where
  | nil
  | cons (s : S) (ss : SL)
end

def EL.length : EL → Nat
  | .nil => 0 | .cons _ es => es.length + 1

/-! ### operators on values -/
def mulOk (a b : Int) : Bool := decide (a.natAbs < 2 ^ 64) || decide (b.natAbs < 2 ^ 64) || decide (a.natAbs.log2 + b.natAbs.log2 < 1000000)
def big : Nat := 16777216
def opv : Operator → D → D → Option Res
  | .Add, .int a, .int b => some (.val (.int (a + b)))
  | .Add, .list a, .list b => if a.length + b.length ≤ big then some (.fr (a ++ b)) else none
  | .Add, .tuple a, .tuple b => if a.length + b.length ≤ big then some (.val (.tuple (a ++ b))) else none
  | .Sub, .int a, .int b => some (.val (.int (a - b)))
  | .Mult, .int a, .int b => if mulOk a b then some (.val (.int (a * b))) else none
  | .Mult, .list a, .int k => if -1000000 ≤ k ∧ k ≤ 1000000 ∧ a.length * k.toNat ≤ big then some (.fr (List.replicate k.toNat a).flatten) else none
  | .Mult, .tuple a, .int k => if a ≠ [] ∧ 0 ≤ k ∧ k ≤ 2000 ∧ a.length ≤ 1000 then some (.val (.tuple (List.replicate k.toNat a).flatten)) else none
  | .FloorDiv, .int a, .int b => if b ≠ 0 ∧ b.natAbs.log2 < 9000 then some (.val (.int (a.fdiv b))) else none
  | .Mod, .int a, .int b => if b ≠ 0 then some (.val (.int (a.fmod b))) else none
  | .Pow, .int a, .int b => if 0 ≤ b ∧ b ≤ 1000000 ∧ a.natAbs < 2 ^ 64 then some (.val (.int (a ^ b.toNat))) else none
  | .LShift, .int a, .int b => if 0 ≤ b ∧ b ≤ 1000000 ∧ a.natAbs < 2 ^ 64 then some (.val (.int (a * 2 ^ b.toNat))) else none
  | .RShift, .int a, .int b => if 0 ≤ b then some (.val (.int (a / 2 ^ b.toNat))) else none
  | .BitAnd, .int a, .int b => some (.val (.int (Builtin.bitAnd a b)))
  | .BitOr, .int a, .int b => some (.val (.int (Builtin.bitOr a b)))
  | .BitXor, .int a, .int b => some (.val (.int (Builtin.bitXor a b)))
  | _, _, _ => none
abbrev errD (x : Str) : D := .dict [(.none, .str x)]
abbrev fnD (f : Str) : D := .dict [(.bool true, .str f)]
abbrev errF (x : Str) (ns : List Str) (ds : List D) : D := .dict ((.none, .str x) :: (ns.map PyData.str).zip ds)
def errOf : D → Option Str
  | .dict ((.none, .str x) :: _) => some x
  | _ => none
def fldIn (f : Str) : List (D × D) → Option D
  | (.str g, d) :: l => if g = f then some d else fldIn f l
  | _ => none
def fldOf (f : Str) : D → Option D
  | .dict ((.none, .str _) :: l) => fldIn f l
  | _ => none
def fnOf : D → Option Str
  | .dict [(.bool true, .str x)] => some x
  | _ => none
abbrev dlD (i : Int) (ds : List D) : D := .dict [(.bool false, .tuple [.int i, .tuple ds])]
def dlvP : D → Option (Int × List D)
  | .dict [(.bool false, .tuple [.int i, .tuple ds])] => some (i, ds)
  | _ => none
def errCl : List Str := []
def lamDs : List ((Str × Option Str) × Str) := []
def lamNs : List (List Str) := []
def subE (nm x : Str) : Bool := decide (nm = x) || (decide (x = "GainError") || decide (x = "ValueError"))
def spcL : List (D × D) → Bool
  | (.none, _) :: _ => true
  | (.bool _, _) :: _ => true
  | _ => false
def spc : D → Bool
  | .dict l => spcL l
  | _ => false
def eqv0 : List D → List D → Option Bool
  | _ :: _, [] => some false
  | _, _ => none
def eqv (a b : D) : Option Bool := if SeqAt.shaped a = true ∧ SeqAt.shaped b = true then some (PyData.eqv a b) else none
def inv (a c : D) (l : List D) : Option Bool := if SeqAt.shaped a = true ∧ SeqAt.shaped c = true then some (l.any fun z => PyData.eqv z a) else none
def intsD : List D → Option (List Int)
  | [] => some []
  | .int i :: r => (intsD r).map (i :: ·)
  | _ :: _ => none
abbrev kdD (ns : List Int) : D := .dict [(.bool false, .list (ns.map PyData.int))]
def kdV (ns : List Int) : D := kdD ns
def keysD : List D → Option (List Int)
  | [] => some []
  | .tuple [.int i, .bool true] :: r => (keysD r).map (i :: ·)
  | _ :: _ => none
def dnin : D → List (D × D) → Option Bool
  | .int i, [(.bool false, .list l)] => (intsD l).map fun ns => !decide (i ∈ ns)
  | _, _ => none
def cmpv : CmpOp → D → D → Option Bool
  | .Lt, .int a, .int b => some (decide (a < b))
  | .LtE, .int a, .int b => some (decide (a ≤ b))
  | .Gt, .int a, .int b => some (decide (b < a))
  | .GtE, .int a, .int b => some (decide (b ≤ a))
  | .Eq, .int a, .int b => some (decide (a = b))
  | .NotEq, .int a, .int b => some (!decide (a = b))
  | .Eq, .str a, .str b => some (decide (a = b))
  | .NotEq, .str a, .str b => some (!decide (a = b))
  | .Eq, .dict l, .str _ => if spcL l then none else some false
  | .Eq, .tuple l, .tuple m => (eqv (.tuple l) (.tuple m)).or (eqv0 l m)
  | .Eq, a, b => eqv a b
  | .NotEq, .dict l, .int _ => if spcL l then none else some true
  | .NotEq, .dict l, .str _ => if spcL l then none else some true
  | .NotEq, a, b => (eqv a b).map not
  | .In, a, .list l => inv a (.list l) l
  | .In, a, .tuple l => inv a (.tuple l) l
  | .NotIn, a, .list l => (inv a (.list l) l).map not
  | .NotIn, a, .tuple l => (inv a (.tuple l) l).map not
  | .NotIn, a, .dict l => dnin a l
  | .Is, .bool a, .bool b => some (decide (a = b))
  | .IsNot, .bool a, .bool b => some (!decide (a = b))
  | .Is, a, .none => some (match a with | .none => true | _ => false)
  | .IsNot, a, .none => some (match a with | .none => false | _ => true)
  | _, _, _ => none
def ixv : D → D → Option D
  | .list l, .int i => atI l i
  | .tuple l, .int i => atI l i
  | _, _ => none
def cutD (l : List D) (lo hi : Option Int) : List D := (l.drop (HT.sIx l.length 0 lo)).take (HT.sIx l.length l.length hi - HT.sIx l.length 0 lo)
def slv (d : D) (lo hi : Option Int) : Option Res := match d with
  | .list l => some (.fr (cutD l lo hi))
  | .tuple l => some (.val (.tuple (cutD l lo hi)))
  | _ => none
def pairsD : List D → Option (List (Int × Int))
  | [] => some []
  | .tuple [.int a, .int b] :: r => (pairsD r).map ((a, b) :: ·)
  | _ :: _ => none
def pairD (p : Int × Int) : D := .tuple [.int p.1, .int p.2]
def boolsD : List D → Option (List Bool)
  | [] => some []
  | .bool i :: r => (boolsD r).map (i :: ·)
  | _ :: _ => none
def items : D → Option (List D)
  | .list l => some l
  | .tuple l => some l
  | _ => none
def lMax : List Int → Int
  | [] => 0 | a :: r => r.foldl Max.max a
def lMin : List Int → Int
  | [] => 0 | a :: r => r.foldl Min.min a
def max3 (a b c : Int) : Int := if b > a then (if c > b then c else b) else (if c > a then c else a)
def sortI (l : List Int) : List Int := l.mergeSort (fun a b => decide (a ≤ b))
def lexLe (p q : Int × Int) : Bool := decide (p.1 < q.1 ∨ (p.1 = q.1 ∧ p.2 ≤ q.2))
def sortP (l : List (Int × Int)) : List (Int × Int) := l.mergeSort lexLe
def sortR (l : List Int) : List Int := (sortI l).reverse
def srvv : D → Option Res
  | .list l => (intsD l).map fun ns => .fr ((sortR ns).map .int)
  | _ => none
def rvtv : D → Option Res
  | .list l => some (.val (.tuple l.reverse))
  | .tuple l => if l ≠ [] then some (.val (.tuple l.reverse)) else none
  | _ => none
def kpNm : Str := "_law_kept"
def keyD : Int ⊕ Str → D
  | .inl i => .int i
  | .inr x => .str x
mutual
def okD : D → Bool
  | .list l => okDL l
  | .tuple l => okDL l
  | .dict l => !spcL l && okDK l
  | _ => true
def okDL : List D → Bool
  | [] => true
  | d :: l => okD d && okDL l
def okDK : List (D × D) → Bool
  | [] => true
  | (_, d) :: l => okD d && okDK l
end
def okRx (d : D) : Bool := okD d && d.showable && decide (d.shown.length ≤ sizeLine) && decide (d.depth ≤ 64)
def okRp (d : D) : Bool := PyProof.Rows.isDisplay d && (SeqAt.shaped d && (d.showable && decide (d.shown.length ≤ sizeLine)))
def rvlv : D → Option Res
  | .list l => some (.fr l.reverse)
  | .tuple l => some (.val (.tuple l.reverse))
  | _ => none
def dcnt : List Int → Nat
  | [] => 0
  | a :: l => dcnt l + if a ∈ l then 0 else 1
def lsetv : D → Option Res
  | .tuple l => (intsD l).bind fun ns => if ns.length ≤ 1000 then some (.val (.int (dcnt ns : Nat))) else none
  | _ => none
def ddI : List Int → List Int
  | [] => []
  | a :: l => if a ∈ l then ddI l else a :: ddI l
def srsv : D → Option Res
  | .list l => (intsD l).bind fun ns => if ns.length ≤ 60 then some (.fr ((sortI (ddI ns)).map .int)) else none
  | _ => none
def min3 (a b c : Int) : Int := if b < a then (if c < b then c else b) else (if c < a then c else a)
def mn3v : D → D → D → Option Res
  | .int a, .int b, .int c => some (.val (.int (min3 a b c)))
  | _, _, _ => none
def mndv (c : Int) : D → Option Res
  | .list l => (intsD l).bind fun ns => some (.val (.int (if ns = [] then c else lMin ns)))
  | _ => none
def idxI (k : Int) : List Int → Option Nat
  | [] => none
  | a :: l => if a = k then some 0 else (idxI k l).map (· + 1)
def boolsE : List D → Option (List Bool)
  | [] => some []
  | .bool b :: l => (boolsE l).map (b :: ·)
  | _ => none
def fstT : List Bool → Option Nat
  | [] => none
  | true :: _ => some 0
  | false :: l => (fstT l).map (· + 1)
def idxv : D → D → Option Res
  | .list l, .int k => (intsD l).bind fun ns => (idxI k ns).map fun j => .val (.int (j : Nat))
  | _, _ => none
def srtIK (l : List (Int × D)) : List D := (l.mergeSort fun p q => decide (p.1 ≤ q.1)).map (·.2)
def srtPK (l : List ((Int × Int) × D)) : List D := (l.mergeSort fun p q => lexLe p.1 q.1).map (·.2)
def srtKv (ks l : List D) : Option (List D) := match intsD ks with
  | some ns => some (srtIK (ns.zip l))
  | none => (pairsD ks).map fun ps => srtPK (ps.zip l)
def mx3v : D → D → D → Option Res
  | .int a, .int b, .int c => some (.val (.int (max3 a b c)))
  | _, _, _ => none
def b1v : B1 → D → Option Res
  | .len, .list l => some (.val (.int l.length))
  | .len, .tuple l => some (.val (.int l.length))
  | .int, .int i => some (.val (.int i))
  | .int, .bool b => some (.val (.int (if b then 1 else 0)))
  | .sum, .list l => (intsD l).map fun ns => .val (.int ns.sum)
  | .sum, .tuple l => (intsD l).map fun ns => .val (.int ns.sum)
  | .max, .list l => (intsD l).bind fun ns => if ns = [] then none else some (.val (.int (lMax ns)))
  | .min, .list l => (intsD l).bind fun ns => if ns = [] then none else some (.val (.int (lMin ns)))
  | .max, .tuple l => (intsD l).bind fun ns => if ns = [] then none else some (.val (.int (lMax ns)))
  | .min, .tuple l => (intsD l).bind fun ns => if ns = [] then none else some (.val (.int (lMin ns)))
  | .lst, d => (items d).map .fr
  | .tup, d => (items d).map fun l => .val (.tuple l)
  | .abs, .int i => some (.val (.int i.natAbs))
  | .srt, .list l => match intsD l with
    | some ns => some (.fr ((sortI ns).map .int))
    | none => (pairsD l).map fun ps => .fr ((sortP ps).map pairD)
  | .srt, .tuple l => (intsD l).map fun ns => .fr ((sortI ns).map .int)
  | .all, .list l => (boolsD l).map fun bs => .val (.bool (bs.all id))
  | .any, .list l => (boolsD l).map fun bs => .val (.bool (bs.any id))
  | .str, .int i => if i.natAbs.log2 < 1920 then some (.val (.str (Str.ofString (toString i)))) else none
  | _, _ => none
def b2v : B2 → D → D → Option Res
  | .min, .int a, .int b => some (.val (.int (if b < a then b else a)))
  | .max, .int a, .int b => some (.val (.int (if b > a then b else a)))
  | _, _, _ => none
def tyN : D → String
  | .none => "NoneType" | .bool _ => "bool" | .int _ => "int" | .str _ => "str" | .list _ => "list" | .tuple _ => "tuple" | .dict _ => "dict"
def isiv (d : D) (t : String) : Bool := tyN d == t || (tyN d == "bool" && t == "int")
def rngL (lo hi : Int) : List D := (List.range (hi - lo).toNat).map fun (i : Nat) => .int (lo + (i : Int))
def enumL : Nat → List D → List D
  | _, [] => []
  | n, d :: r => .tuple [.int n, d] :: enumL (n + 1) r
def zipL : List D → List D → List D
  | a :: r, b :: s => .tuple [a, b] :: zipL r s
  | _, _ => []

def putN (i j : Nat) (d : D) (env : Nv) : Option Nv := match sAt env i, sAt env j with
  | .own l, .val (.int m) => (match ixN l.length m with
    | some p => some (env.set i (.own (l.set p d)))
    | none => none)
  | _, _ => none
/-! ### slots -/
def setMany : List Nat → List D → Nv → Nv
  | i :: is, d :: ds, env => setMany is ds (env.set i (.val d))
  | _, _, env => env
def setTg (tup : Bool) (tg : List Nat) (d : D) (env : Nv) : Option Nv := match tup, tg, d with
  | false, [i], d => some (env.set i (.val d))
  | true, tg, .tuple ds => if ds.length = tg.length then some (setMany tg ds env) else none
  | _, _, _ => none
def wipeE (env : Nv) : List Nat → Nv
  | [] => env
  | v :: vs => (wipeE env vs).set v .un
def backE (old env : Nv) : List Nat → Nv
  | [] => env
  | v :: vs => (backE old env vs).set v (sAt old v)
def lend1 (env : Nv) : Res → List Nat
  | .pl i => match sAt env i with | .own _ => [i] | _ => []
  | _ => []
def lendE (env : Nv) : List Nat → Nv
  | [] => env
  | i :: is => match sAt env i with
    | .own l => lendE (env.set i (.lent l)) is
    | _ => lendE env is
def unlendE (env : Nv) : List Nat → Nv
  | [] => env
  | i :: is => match sAt env i with
    | .lent l => unlendE (env.set i (.own l)) is
    | _ => unlendE env is
def plainS : Slot → Bool
  | .un => true
  | .val _ => true
  | _ => false
def lnIn (vs : List Nat) (ln : List Nat) : Bool := ln.any fun i => vs.contains i
def dupPl : List Res → Bool
  | [] => false
  | .pl i :: r => (r.any fun | .pl j => i == j | _ => false) || dupPl r
  | _ :: r => dupPl r
def argS (asg : List Nat) : Nat → Nv → List Res → Option (List Slot)
  | _, _, [] => some []
  | k, env, .val d :: r => (argS asg (k + 1) env r).map (.val d :: ·)
  | k, env, .fr l :: r => (argS asg (k + 1) env r).map (.own l :: ·)
  | k, env, .pl i :: r => match sAt env i with
    | .un => none
    | .val d => (argS asg (k + 1) env r).map (.val d :: ·)
    | .lent l => (argS asg (k + 1) env r).map (.lent l :: ·)
    | .own l => (argS asg (k + 1) env r).map ((if asg.contains k then .lent l else .own l) :: ·)
def putB (asg : List Nat) (env0 : Nv) : Nat → Nv → List Res → List Slot → Nv
  | k, env, .pl i :: r, s :: ss => match sAt env0 i with
    | .own _ => putB asg env0 (k + 1) (if asg.contains k then env else env.set i s) r ss
    | _ => putB asg env0 (k + 1) env r ss
  | k, env, _ :: r, _ :: ss => putB asg env0 (k + 1) env r ss
  | _, env, _, _ => env
def isOwn (env : Nv) (i : Nat) : Bool := match sAt env i with
  | .own _ => true
  | _ => false
def lcLoop (tg : D → Nv → Option Nv) (c : Nv → Option (Bool × Nv)) (el : Nv → Option (D × Nv)) (wp : Nv → Nv) : List D → List D → Nv → Option (List D × Nv)
  | [], acc, env => some (acc, env)
  | d :: ds, acc, env => do
    let env ← tg d env
    let (b, env) ← c env
    if b then do
      let (y, env) ← el env
      if acc.length < big then lcLoop tg c el wp ds (acc ++ [y]) (wp env) else none
    else lcLoop tg c el wp ds acc (wp env)
inductive Fl where
  | nx | rt (r : Res)
def forL (tg : D → Nv → Option Nv) (body : Nv → Option (Fl × Nv)) : List D → Nv → Option (Fl × Nv)
  | [], env => some (.nx, env)
  | d :: ds, env => do
    let env ← tg d env
    let (f, env) ← body env
    match f with
    | .nx => forL tg body ds env
    | .rt r => some (.rt r, env)
def preF (p g : Nv → Option (Fl × Nv)) (env : Nv) : Option (Fl × Nv) := do
  let (f, env) ← p env
  match f with
  | .nx => g env
  | .rt r => some (.rt r, env)
def ctF (c : Nv → Option (Bool × Nv)) (x g : Nv → Option (Fl × Nv)) (env : Nv) : Option (Fl × Nv) := do
  let (t, env) ← c env
  if t then x env else g env
def whlL (c : Nv → Option (Bool × Nv)) (body : Nv → Option (Fl × Nv)) (env : Nv) : Option (Fl × Nv) := do
  let (b, env) ← c env
  if b then do
    let (f, env) ← body env
    match f with
    | .nx => whlL c body env
    | .rt r => some (.rt r, env)
  else some (.nx, env)
partial_fixpoint
def zipL3 : List D → List D → List D → List D
  | a :: r, b :: s, c :: t => .tuple [a, b, c] :: zipL3 r s t
  | _, _, _ => []
def zip3V : Option (List D) → Option (List D) → Option (List D) → Option (List D)
  | some l, some m, some n => some (zipL3 l m n)
  | _, _, _ => none
def iterV (ik : IK) (d1 d2 : D) : Option (List D) := match ik, d1, d2 with
  | .seq, d, _ => items d
  | .r1, .int n, _ => if -1000000 ≤ n ∧ n ≤ 1000000 then some (rngL 0 n) else none
  | .r2, .int m, .int n => if -1000000 ≤ m ∧ m ≤ 1000000 ∧ -1000000 ≤ n ∧ n ≤ 1000000 then some (rngL m n) else none
  | .rev, .list l, _ => some l.reverse
  | .rev, .tuple l, _ => some l.reverse
  | .enum, .list l, _ => some (enumL 0 l)
  | .enum, .tuple l, _ => some (enumL 0 l)
  | .zip, .list l, .list m => some (zipL l m)
  | .zip, .list l, .tuple m => some (zipL l m)
  | .zip, .tuple l, .list m => some (zipL l m)
  | .zip, .tuple l, .tuple m => some (zipL l m)
  | .zip3, .tuple [x, y, z], _ => zip3V (items x) (items y) (items z)
  | _, _, _ => none

/-! ### the evaluator -/
def E.isTup : E → Prop
  | .tup _ => True
  | _ => False
def E.isNo : E → Bool
  | .no => true
  | _ => false
def evD (ik : IK) (f : Nv → Option (Res × Nv)) (env : Nv) : Option (Res × Nv) := match ik with
  | .r2 => f env
  | .zip => f env
  | _ => some (.val .none, env)
def evC (no : Bool) (f : Nv → Option (Res × Nv)) (env : Nv) : Option (Bool × Nv) := if no then some (true, env) else do
    let (r, env) ← f env
    match r with
    | .val (.bool b) => some (b, env)
    | _ => none
def evO (no : Bool) (f : Nv → Option (Res × Nv)) (env : Nv) : Option (Option Int × Nv) := if no then some (none, env) else do
    let (r, env) ← f env
    match r with
    | .val (.int i) => some (some i, env)
    | _ => none
def fnAt (env : Nv) (i : Nat) : Option Str := match sAt env i with
  | .val d => fnOf d
  | _ => none
def callE (f : Fn) (rs : List Res) (env : Nv) : Option (Res × Nv) := if dupPl rs then none else
  match argS f.asg 0 env rs with
  | none => none
  | some as => match f.run as with
    | some (.val d, bs) => some (.val d, putB f.asg env 0 env rs bs)
    | some (.fr d, bs) => some (.fr d, putB f.asg env 0 env rs bs)
    | _ => none
def ownL (env : Nv) (i : Nat) : Option (List D) := match sAt env i with
  | .own l => some l
  | _ => none
def atomR : Res → Option D
  | .val (.int i) => some (.int i)
  | .val (.bool b) => some (.bool b)
  | .val .none => some .none
  | _ => none
def capS (env : Nv) : List Nat → Option (List Slot)
  | [] => some []
  | i :: is => match sAt env i with
    | .val d => (capS env is).map (Slot.val d :: ·)
    | _ => none
def keysV (f : Nv → Option (Res × Nv)) (cs : List Slot) : List D → Option (List D)
  | [] => some []
  | d :: ds => do
    let (r, _) ← f (.val d :: cs)
    match r with
    | .val k => do
      let ks ← keysV f cs ds
      some (k :: ks)
    | _ => none
mutual
def ev : E → Nv → Option (Res × Nv)
  | .no, _ => none
  | .var i, env => match sAt env i with | .un => none | .val d => some (.val d, env) | _ => some (.pl i, env)
  | .cst c, env => some (.val c, env)
  | .glo _ c, env => some (.val c, env)
  | .tup es, env => do
    let (ds, env) ← evK es env
    some (.val (.tuple ds), env)
  | .lst es, env => do
    let (ds, env) ← evK es env
    some (.fr ds, env)
  | .bin op a b, env => do
    let (ra, env) ← ev a env
    let (rb, env) ← ev b env
    let da ← rdB op env ra
    let db ← rd env rb
    let r ← opv op da db
    some (r, env)
  | .neg a, env => do
    let (ra, env) ← ev a env
    match ra with
    | .val (.int i) => some (.val (.int (-i)), env)
    | _ => none
  | .cmp op a b, env => do
    let (ra, env) ← ev a env
    let (rb, env) ← ev b env
    let da ← rd env ra
    let db ← rd env rb
    let c ← cmpv op da db
    some (.val (.bool c), env)
  | .eqn a, env => do
    let (ra, env) ← ev a env
    match ra with
    | .fr l => some (.val (.bool l.isEmpty), env)
    | _ => none
  | .chn o1 o2 a b c, env => do
    let (ra, env) ← ev a env
    let (rb, env) ← ev b env
    match ra, rb with
    | .val (.int i), .val (.int j) => do
      let t ← cmpv o1 (.int i) (.int j)
      if t then do
        let (rc, env) ← ev c env
        match rc with
        | .val (.int k) => do
          let u ← cmpv o2 (.int j) (.int k)
          some (.val (.bool u), env)
        | _ => none
      else some (.val (.bool false), env)
    | _, _ => none
  | .bop conj es, env => do
    let (b, env) ← evB conj es env
    some (.val (.bool b), env)
  | .not a, env => do
    let (ra, env) ← ev a env
    match ra with
    | .val (.bool b) => some (.val (.bool (!b)), env)
    | _ => none
  | .ix a i, env => do
    let (ra, env) ← ev a env
    let (ri, env) ← ev i env
    let da ← rd env ra
    let di ← rd env ri
    let d ← ixv da di
    some (.val d, env)
  | .sl a lo hi, env => do
    let (ra, env) ← ev a env
    let (l, env) ← evO lo.isNo (fun env => ev lo env) env
    let (h, env) ← evO hi.isNo (fun env => ev hi env) env
    let da ← rd env ra
    let r ← slv da l h
    some (r, env)
  | .call f es, env => do
    let (rs, env) ← evL es env
    if dupPl rs then none else do
      let as ← argS f.asg 0 env rs
      let (r, bs) ← f.run as
      match r with
      | .pl _ => none
      | r => some (r, putB f.asg env 0 env rs bs)
  | .b1 b a, env => do
    let (ra, env) ← ev a env
    let da ← rd env ra
    let r ← b1v b da
    some (r, env)
  | .b2 b a c, env => do
    let (ra, env) ← ev a env
    let (rc, env) ← ev c env
    let da ← rd env ra
    let dc ← rd env rc
    let r ← b2v b da dc
    some (r, env)
  | .isi a t, env => do
    let (ra, env) ← ev a env
    let da ← rd env ra
    if spc da then none else some (.val (.bool (isiv da t)), env)
  | .isx a y, env => do
    let (ra, env) ← ev a env
    let da ← rd env ra
    let x ← errOf da
    some (.val (.bool (subE x y)), env)
  | .isxT a ys, env => do
    let (ra, env) ← ev a env
    let da ← rd env ra
    let x ← errOf da
    some (.val (.bool (ys.any (subE x))), env)
  | .fld i f, env => do
    let da ← rd env (.pl i)
    let d ← fldOf f da
    some (.val d, env)
  | .isv a, env => do
    let (ra, env) ← ev a env
    let da ← rd env ra
    let _ ← errOf da
    some (.val (.bool true), env)
  | .callP f i as es, env => do
    let _ ← ownL env i
    let (d1, env) ← evK as env
    let (d2, env) ← evK es env
    let l ← ownL env i
    if d2.length + 1 = f.ps.length then do
      let (r, _) ← f.run (.val (.tuple (.list l :: d1)) :: d2.map .val)
      let d ← atomR r
      some (.val d, env)
    else none
  | .callv i fs es, env => do
    let x ← fnAt env i
    let f ← fs.find? fun f => decide (f.name = x)
    if es.length = f.ps.length then do
      let (rs, env) ← evL es env
      callE f rs env
      else none
  | .lrng a, env => do
    let (ra, env) ← ev a env
    match ra with
    | .val (.int n) => if 0 ≤ n ∧ n ≤ 1000000 then some (.fr (rngL 0 n), env) else none
    | _ => none
  | .lrev a, env => do
    let (ra, env) ← ev a env
    let da ← rd env ra
    match da with
    | .list l => some (.fr l.reverse, env)
    | _ => none
  | .dct, env => some (.val (.dict []), env)
  | .dsp k a, env => do
    let (r, env) ← ev a env
    let (d, env) ← keep env r
    some (.val (.dict [(keyD k, d)]), env)
  | .dspe k a, env => do
    let (rk, env) ← ev k env
    match rk with
    | .val (.int i) => do
      let (r, env) ← ev a env
      let (d, env) ← keep env r
      some (.val (.dict [(.int i, d)]), env)
    | _ => none
  | .dsp2 k a l b, env => do
    let (r, env) ← ev a env
    let (d, env) ← keep env r
    let (u, env) ← ev b env
    let (c, env) ← keep env u
    if k = l then none else some (.val (.dict [(keyD k, d), (keyD l, c)]), env)
  | .mx3 a b c, env => do
    let (ra, env) ← ev a env
    let (rb, env) ← ev b env
    let (rc, env) ← ev c env
    let da ← rd env ra
    let db ← rd env rb
    let dc ← rd env rc
    let r ← mx3v da db dc
    some (r, env)
  | .srv a, env => do
    let (ra, env) ← ev a env
    let da ← rd env ra
    let r ← srvv da
    some (r, env)
  | .rvt a, env => do
    let (ra, env) ← ev a env
    let da ← rd env ra
    let r ← rvtv da
    some (r, env)
  | .rp r a, env => do
    let (ra, env) ← ev a env
    let da ← rd env ra
    if (if r then okRx da else okRp da) = true then some (.val (.str da.shown), env) else none
  | .rvl a, env => do
    let (ra, env) ← ev a env
    let da ← rd env ra
    let r ← rvlv da
    some (r, env)
  | .lset a, env => do
    let (ra, env) ← ev a env
    let da ← rd env ra
    let r ← lsetv da
    some (r, env)
  | .dctP a, env => do
    let (ra, env) ← ev a env
    let da ← rd env ra
    match da with
    | .list l => do
      let ns ← keysD l
      if ns = [] then none else some (.val (kdV ns), env)
    | _ => none
  | .srs a, env => do
    let (ra, env) ← ev a env
    let da ← rd env ra
    let r ← srsv da
    some (r, env)
  | .dlh a b, env => do
    let (ra, env) ← ev a env
    match ra with
    | .val (.int i) => do
      let (rb, env) ← ev b env
      match rd env rb with
      | some (.list l) => some (.val (dlD i l), env)
      | _ => none
    | _ => none
  | .undl a, env => do
    let (ra, env) ← ev a env
    match ra with
    | .val d => do
      let p ← dlvP d
      some (.val (.tuple [.int p.1, .tuple p.2]), env)
    | _ => none
  | .mt c a, env => do
    let (ra, env) ← ev a env
    match rd env ra with
    | some (.list l) => do
      let bs ← boolsE l
      if c = true then some (.val (.int (bs.count true : Nat)), env) else do
      let j ← fstT bs
      some (.val (.int (j : Nat)), env)
    | _ => none
  | .dli a c b, env => do
    let (ra, env) ← ev a env
    match ra with
    | .val d => do
      let p ← dlvP d
      let (rc, env) ← ev c env
      match rc with
      | .val (.int n) => do
        if n ≠ 1 then none else do
        let (rb, env) ← ev b env
        match rb with
        | .val (.int k) => do
          let ns ← intsD p.2
          let j ← idxI k ns
          some (.val (.int (j : Nat)), env)
        | _ => none
      | _ => none
    | _ => none
  | .frz a, env => do
    let (ra, env) ← ev a env
    let (d, env) ← keep env ra
    some (.val d, env)
  | .srtK a _ is b, env => do
    let (ra, env) ← ev a env
    let da ← rd env ra
    match da with
    | .list l => do
      let cs ← capS env is
      let ks ← keysV (fun env => ev b env) cs l
      let out ← srtKv ks l
      some (.fr out, env)
    | _ => none
  | .trng a, env => do
    let (ra, env) ← ev a env
    match ra with
    | .val (.int n) => if 0 ≤ n ∧ n ≤ 1000000 then some (.val (.tuple (rngL 0 n)), env) else none
    | _ => none
  | .inv a, env => do
    let (ra, env) ← ev a env
    match ra with
    | .val (.int i) => some (.val (.int (Builtin.bitNot i)), env)
    | _ => none
  | .mn3 a b c, env => do
    let (ra, env) ← ev a env
    let (rb, env) ← ev b env
    let (rc, env) ← ev c env
    let da ← rd env ra
    let db ← rd env rb
    let dc ← rd env rc
    let r ← mn3v da db dc
    some (r, env)
  | .mnd a c, env => do
    let (ra, env) ← ev a env
    let da ← rd env ra
    let r ← mndv c da
    some (r, env)
  | .idx a e, env => do
    let (ra, env) ← ev a env
    let d0 ← rd env ra
    match d0 with
    | .list _ => do
      let (re, env) ← ev e env
      let da ← rd env ra
      let de ← rd env re
      let r ← idxv da de
      some (r, env)
    | _ => none
  | .ext i a, env => if isOwn env i then do
    let (ra, env) ← ev a env
    match ra with
    | .fr m => (match sAt env i with
      | .own l => if l.length + m.length ≤ big then some (.val .none, env.set i (.own (l ++ m))) else none
      | _ => none)
    | _ => none
    else none
  | .rvI i, env => match sAt env i with
    | .own l => some (.val .none, env.set i (.own l.reverse))
    | _ => none
  | .rmv i a, env => if isOwn env i then do
    let (ra, env) ← ev a env
    match ra with
    | .val (.int k) => (match sAt env i with
      | .own l => (match intsD l with
        | some ns => (match idxI k ns with
          | some j => some (.val .none, env.set i (.own (l.eraseIdx j)))
          | none => none)
        | none => none)
      | _ => none)
    | _ => none
    else none
  | .app i a, env => if isOwn env i then do
    let (ra, env) ← ev a env
    let (d, env) ← keep env ra
    match sAt env i with
    | .own l => if l.length < big then some (.val .none, env.set i (.own (l ++ [d]))) else none
    | _ => none
    else none
  | .pop i, env => match sAt env i with
    | .own l => match l[l.length - 1]? with
      | some d => some (.val d, env.set i (.own l.dropLast))
      | none => none
    | _ => none
  | .popAt i a, env => if isOwn env i then do
    let (ra, env) ← ev a env
    match ra with
    | .val (.int k) => (match sAt env i with
      | .own l => if 0 ≤ k ∧ k < l.length then (match l[k.toNat]? with
        | some d => some (.val d, env.set i (.own (l.eraseIdx k.toNat)))
        | none => none) else none
      | _ => none)
    | _ => none
    else none
  | .lc own tup tg ik a b c e, env => do
    let (ra, env) ← ev a env
    let (rb, env) ← evD ik (fun env => ev b env) env
    let d1 ← rd env ra
    let d2 ← rd env rb
    let its ← iterV ik d1 d2
    let ln := lend1 env ra ++ lend1 env rb
    let old := lendE env ln
    let vs := own.map (·.2)
    if vs.any (fun v => !plainS (sAt old v)) then none else do
    let (ds, env) ← lcLoop (setTg tup tg) (evC c.isNo fun env => ev c env) (fun env => do let (r, env) ← ev e env; keep env r) (fun env => wipeE env vs) its [] (wipeE old vs)
    some (.fr ds, unlendE (backE old env vs) ln)
def evL : EL → Nv → Option (List Res × Nv)
  | .nil, env => some ([], env)
  | .cons e es, env => do
    let (r, env) ← ev e env
    let (rs, env) ← evL es env
    some (r :: rs, env)
def evK : EL → Nv → Option (List D × Nv)
  | .nil, env => some ([], env)
  | .cons e es, env => do
    let (r, env) ← ev e env
    let (d, env) ← keep env r
    let (ds, env) ← evK es env
    some (d :: ds, env)
def evB (conj : Bool) : EL → Nv → Option (Bool × Nv)
  | .nil, _ => none
  | .cons e es, env => do
    let (r, env) ← ev e env
    match r with
    | .val (.bool b) => match es with
      | .nil => some (b, env)
      | .cons _ _ => if b = conj then evB conj es env else some (b, env)
    | _ => none
end
/-! ### statements, defs -/
mutual
def asgs : S → List Nat
  | .asg i _ => [i]
  | .asgT is _ => is
  | .asgL is _ => is
  | .par i j _ _ => [i, j]
  | .par3 i j l _ _ _ => [i, j, l]
  | .paro i j _ _ => [i, j]
  | .setIx _ _ _ => []
  | .swp _ _ _ _ => []
  | .exp _ => []
  | .ret _ => []
  | .retN => []
  | .ife _ a b => asgsL a ++ asgsL b
  | .for_ _ tg _ _ _ body => tg ++ asgsL body
  | .whl _ body => asgsL body
  | .forc _ tg _ _ _ _ pre _ x rest => tg ++ (asgsL pre ++ (asgsL x ++ asgsL rest))
  | .never => []
def asgsL : SL → List Nat
  | .nil => []
  | .cons s ss => asgs s ++ asgsL ss
end
def slotOf (env : Nv) : Res → Option (Slot × Nv)
  | .val d => some (.val d, env)
  | .fr l => some (.own l, env)
  | .pl i => (keep env (.pl i)).map fun (d, env) => (.val d, env)
mutual
def evS : S → Nv → Option (Fl × Nv)
  | .asg i e, env => do
    let (r, env) ← ev e env
    let (s, env) ← slotOf env r
    some (.nx, env.set i s)
  | .asgT is e, env => do
    let (r, env) ← ev e env
    match r with
    | .val (.tuple ds) => if ds.length = is.length then some (.nx, setMany is ds env) else none
    | _ => none
  | .asgL is e, env => do
    let (r, env) ← ev e env
    match r with
    | .fr ds => if ds.length = is.length then some (.nx, setMany is ds env) else none
    | .val (.list ds) => if ds.length = is.length then some (.nx, setMany is ds env) else none
    | _ => none
  | .par i j a b, env => do
    let (ds, env) ← evK (.cons a (.cons b .nil)) env
    match ds with
    | [d, c] => some (.nx, (env.set i (.val d)).set j (.val c))
    | _ => none
  | .par3 i j l a b c, env => do
    let (ds, env) ← evK (.cons a (.cons b (.cons c .nil))) env
    match ds with
    | [d, e, f] => some (.nx, ((env.set i (.val d)).set j (.val e)).set l (.val f))
    | _ => none
  | .paro i j a b, env => do
    let (ra, env) ← ev a env
    match ra with
    | .fr l => do
      let (rb, env) ← ev b env
      match rb with
      | .val d => some (.nx, (env.set i (.own l)).set j (.val d))
      | _ => none
    | _ => none
  | .swp i ja jb e, env => do
    let (r, env) ← ev e env
    match r with
    | .val (.tuple [x, y]) => (match putN i ja x env with
      | some env => (match putN i jb y env with
        | some env => some (.nx, env)
        | none => none)
      | none => none)
    | _ => none
  | .setIx i ix e, env => do
    let (r, env) ← ev e env
    let (d, env) ← keep env r
    if isOwn env i then do
      let (ri, env) ← ev ix env
      match ri with
      | .val (.int k) => (match sAt env i with
        | .own l => (match ixN l.length k with
          | some n => some (.nx, env.set i (.own (l.set n d)))
          | none => none)
        | _ => none)
      | _ => none
      else none
  | .exp e, env => do
    let (_, env) ← ev e env
    some (.nx, env)
  | .ret e, env => do
    let (r, env) ← ev e env
    some (.rt r, env)
  | .retN, env => some (.rt (.val .none), env)
  | .ife c a b, env => do
    let (t, env) ← evC false (fun env => ev c env) env
    if t then evSL a env else evSL b env
  | .for_ tup tg ik a b body, env => do
    let (ra, env) ← ev a env
    let (rb, env) ← evD ik (fun env => ev b env) env
    let d1 ← rd env ra
    let d2 ← rd env rb
    let its ← iterV ik d1 d2
    let ln := lend1 env ra ++ lend1 env rb
    if lnIn (tg ++ asgsL body) ln then none else do
      let (f, env) ← forL (setTg tup tg) (fun env => evSL body env) its (lendE env ln)
      some (f, unlendE env ln)
  | .whl c body, env => whlL (evC false fun env => ev c env) (fun env => evSL body env) env
  | .forc tup tg ik a b _ pre c x rest, env => do
    let (ra, env) ← ev a env
    let (rb, env) ← evD ik (fun env => ev b env) env
    let d1 ← rd env ra
    let d2 ← rd env rb
    let its ← iterV ik d1 d2
    let ln := lend1 env ra ++ lend1 env rb
    if lnIn (tg ++ (asgsL pre ++ (asgsL x ++ asgsL rest))) ln then none else do
      let (f, env) ← forL (setTg tup tg) (preF (fun env => evSL pre env) (ctF (evC false fun env => ev c env) (fun env => evSL x env) (fun env => evSL rest env))) its (lendE env ln)
      some (f, unlendE env ln)
  | .never, _ => none
def evSL : SL → Nv → Option (Fl × Nv)
  | .nil, env => some (.nx, env)
  | .cons s ss, env => do
    let (f, env) ← evS s env
    match f with
    | .nx => evSL ss env
    | .rt r => some (.rt r, env)
end
def outs (asg : List Nat) : Nat → Nat → Nv → List Slot
  | _, 0, _ => []
  | k, n + 1, env => (if asg.contains k then .un else sAt env k) :: outs asg (k + 1) n env
def fin (np : Nat) (asg : List Nat) : Option (Fl × Nv) → Option (Res × List Slot)
  | none => none
  | some (.nx, env) => some (.val .none, outs asg 0 np env)
  | some (.rt (.val d), env) => some (.val d, outs asg 0 np env)
  | some (.rt (.fr l), env) => some (.fr l, outs asg 0 np env)
  | some (.rt (.pl i), env) => if i < np then (keep env (.pl i)).map fun (d, env) => (.val d, outs asg 0 np env) else match sAt env i with
    | .val d => some (.val d, outs asg 0 np env)
    | .own l => some (.fr l, outs asg 0 np env)
    | _ => none
def runB (np n : Nat) (asg : List Nat) (body : SL) (as : List Slot) : Option (Res × List Slot) :=
  if as.length = np then fin np asg (evSL body (as ++ List.replicate (n - np) .un)) else none
def mkFn (name : Str) (ps : List Str) (n lvl : Nat) (body : SL) : Fn :=
  { name := name, ps := ps, asg := (asgsL body).filter (· < ps.length), lvl := lvl, run := runB ps.length n ((asgsL body).filter (· < ps.length)) body }
end Ev

/-! A verified evaluator over the hand layer, part 2: what of the text an expression of ours stands for. -/
namespace Ev
open PySem L2

/-! ### forms of the text -/
def visB (sc : Scope) (x : Str) : Bool := decide (sc.names.lookup x = some .local) || decide (sc.names.lookup x = some .cell) || decide (sc.names.lookup x = some .free)
def locB (sc : Scope) (x : Str) : Bool := decide (sc.names.lookup x = some .local) || decide (sc.names.lookup x = some .cell)
def glbB (sc : Scope) (x : Str) : Bool := decide (sc.names.lookup x = some .globalImplicit)
def noStar : Expr → Bool
  | .Starred .. => false
  | _ => true
def noSlice : Expr → Bool
  | .Slice .. => false
  | _ => true
def noSet : Expr → Bool
  | .Set .. => false
  | _ => true
def noComp : Expr → Bool
  | .ListComp .. | .SetComp .. | .DictComp .. => false
  | _ => true
def noTup : Expr → Bool
  | .Tuple .. | .List .. => false
  | _ => true
def cstB : D → Const → Bool
  | .none, .none => true
  | .bool a, .bool b => a == b
  | .int a, .int b => decide (a = b)
  | .str a, .str b => decide (a = b)
  | _, _ => false
def nmB (N : List Str) (sc : Scope) (i : Nat) (x : Str) : Bool := decide (N[i]? = some x) && visB sc x && !(x == "__debug__") && !(x == "__classdict__")
def blB (sc : Scope) (x y : Str) : Bool := decide (x = y) && glbB sc x
def B1.nm : B1 → Str
  | .len => "len" | .int => "int" | .sum => "sum" | .min => "min" | .max => "max" | .lst => "list" | .tup => "tuple" | .abs => "abs" | .str => "str" | .srt => "sorted" | .all => "all" | .any => "any"
def B2.nm : B2 → Str
  | .min => "min" | .max => "max"
def rcvB : Expr → Bool
  | .Name .. => true
  | .Subscript .. => true
  | _ => false
def lamP (n : Str) : Arguments → Bool
  | ⟨[], [⟨m, none, _⟩], none, [], [], none, []⟩ => decide (m = n)
  | _ => false
def lamB (N : List Str) (sc : Scope) (n : Str) (is : List Nat) (fr : List Str) (ps : Arguments) (ls : Scope) : Bool :=
  (lamNs.contains N && !lamNs.contains (n :: fr)) && (lamP n ps && (decide (is.map (fun j => N[j]?) = fr.map some) && (NdefX.nscB (n :: fr) [n] fr ls && (NdefX.ndefB sc ls fr && !((n :: fr).contains kpNm)))))
def chTs (N : List Str) (sc : Scope) : List Nat → List Expr → Bool
  | [], [] => true
  | i :: is, .Name x _ :: es => decide (N[i]? = some x) && locB sc x && chTs N sc is es
  | _, _ => false
def chTg (N : List Str) (sc : Scope) : Bool → List Nat → Expr → Bool
  | false, [i], .Name x _ => decide (N[i]? = some x) && locB sc x
  | true, is, .Tuple es _ _ => chTs N sc is es
  | _, _, _ => false

def ikT : IK → Bool → Bool
  | .enum, t => t
  | .zip, t => t
  | .zip3, t => t
  | _, _ => true
def chI (N : List Str) (sc : Scope) (ik : IK) (it : Expr) (fa fb : Expr → Bool) (nb : Bool) : Bool := match ik, it with
  | .seq, e => fa e && nb
  | .r1, .Call (.Name x _) [y] [] _ => blB sc x "range" && fa y && noStar y && nb
  | .r2, .Call (.Name x _) [y, z] [] _ => blB sc x "range" && fa y && fb z && noStar y && noStar z
  | .enum, .Call (.Name x _) [y] [] _ => blB sc x "enumerate" && fa y && noStar y && nb
  | .rev, .Call (.Name x _) [y] [] _ => blB sc x "reversed" && fa y && noStar y && nb
  | .zip3, .Call (.Name x _) [y, z, q] [] pos => blB sc x "zip" && fa (.Tuple [y, z, q] 0 pos) && noStar y && noStar z && noStar q && nb
  | .zip, .Call (.Name x _) [y, z] [] _ => blB sc x "zip" && fa y && fb z && noStar y && noStar z
  | _, _ => false

def chCs (sc : Scope) : List Str → List Expr → Bool
  | [], [] => true
  | c :: cs, .Name u _ :: es => blB sc u c && (errCl.contains c && (!(u == "__debug__") && chCs sc cs es))
  | _, _ => false
mutual
def ch (N : List Str) (sc : Scope) : E → Expr → Bool
  | .no, _ => false
  | .var i, e => match e with
    | .Name x _ => nmB N sc i x
    | _ => false
  | .cst c, e => match e with
    | .Constant k _ _ => cstB c k
    | _ => false
  | .glo y _, e => match e with
    | .Name x _ => decide (x = y) && glbB sc x && !(x == "__debug__")
    | _ => false
  | .tup es, e => match e with
    | .Tuple xs _ _ => chL N sc es xs && decide (es.length ≤ 1000)
    | _ => false
  | .lst es, e => match e with
    | .List xs _ => chL N sc es xs && decide (es.length ≤ 1000)
    | _ => false
  | .bin op a b, e => match e with
    | .BinOp l o r _ => decide (o = op) && ch N sc a l && ch N sc b r
    | _ => false
  | .neg a, e => match e with
    | .UnaryOp .USub x _ => ch N sc a x
    | _ => false
  | .eqn a, e => match e with
    | .Compare l [CmpOp.Eq] [Expr.List [] _] _ => ch N sc a l
    | _ => false
  | .cmp op a b, e => match e with
    | .Compare l [o] [r] _ => decide (o = op) && ch N sc a l && ch N sc b r && !behindInMarks op r
    | _ => false
  | .chn o1 o2 a b c, e => match e with
    | .Compare l [p1, p2] [m, r] _ => decide (p1 = o1) && decide (p2 = o2) && ch N sc a l && ch N sc b m && ch N sc c r && !lastMarks [o1, o2] [m, r]
    | _ => false
  | .bop conj es, e => match e with
    | .BoolOp o xs _ => decide (o = if conj then .And else .Or) && chL N sc es xs
    | _ => false
  | .not a, e => match e with
    | .UnaryOp .Not x _ => ch N sc a x
    | _ => false
  | .ix a i, e => match e with
    | .Subscript x j _ => ch N sc a x && ch N sc i j && noSlice j
    | _ => false
  | .sl a lo hi, e => match e with
    | .Subscript x (.Slice l h none _) _ => ch N sc a x && (match l with | none => lo.isNo | some l => !lo.isNo && ch N sc lo l) && (match h with | none => hi.isNo | some h => !hi.isNo && ch N sc hi h)
    | _ => false
  | .call f es, e => match e with
    | .Call (.Name x _) xs [] _ => blB sc x f.name && !(x == "__debug__") && chL N sc es xs && decide (es.length = f.ps.length) && xs.all noStar && !xs.isEmpty
    | _ => false
  | .b1 b a, e => match e with
    | .Call (.Name x _) [y] [] _ => blB sc x b.nm && ch N sc a y && noStar y
    | _ => false
  | .b2 b a c, e => match e with
    | .Call (.Name x _) [y, z] [] _ => blB sc x b.nm && ch N sc a y && ch N sc c z && noStar y && noStar z
    | _ => false
  | .isi a t, e => match e with
    | .Call (.Name x _) [y, .Name u _] [] _ => blB sc x "isinstance" && ch N sc a y && noStar y && blB sc u (Str.ofString t) && (["int", "bool", "str", "tuple", "list", "dict"] : List String).contains t
    | _ => false
  | .fld i f, e => match e with
    | .Attribute (.Name x _) f' _ => nmB N sc i x && decide (f' = f)
    | _ => false
  | .isx a c, e => match e with
    | .Call (.Name x _) [y, .Name u _] [] _ => blB sc x "isinstance" && ch N sc a y && noStar y && blB sc u c && errCl.contains c && !(u == "__debug__")
    | _ => false
  | .isxT a cs, e => match e with
    | .Call (.Name x _) [y, .Tuple es _ _] [] _ => blB sc x "isinstance" && ch N sc a y && noStar y && chCs sc cs es && decide (cs.length ≤ 1000)
    | _ => false
  | .isv a, e => match e with
    | .Call (.Name x _) [y, .Name u _] [] _ => blB sc x "isinstance" && ch N sc a y && noStar y && blB sc u "ValueError"
    | _ => false
  | .callP f i as es, e => match e with
    | .Call (.Name x _) (.Tuple (.Name y _ :: ys) _ _ :: xs) [] _ => blB sc x f.name && !(x == "__debug__") && nmB N sc i y && chL N sc as ys && chL N sc es xs && ys.all noStar && xs.all noStar && decide (as.length ≤ 1000)
    | _ => false
  | .callv i _ es, e => match e with
    | .Call (.Name x _) xs [] _ => nmB N sc i x && chL N sc es xs && xs.all noStar && !xs.isEmpty
    | _ => false
  | .lrng a, e => match e with
    | .Call (.Name x _) [.Call (.Name u _) [y] [] _] [] _ => blB sc x "list" && blB sc u "range" && ch N sc a y && noStar y
    | _ => false
  | .lrev a, e => match e with
    | .Call (.Name x _) [.Call (.Name u _) [y] [] _] [] _ => blB sc x "list" && blB sc u "reversed" && ch N sc a y && noStar y
    | _ => false
  | .dsp k a, e => match e with
    | .Dict [some (.Constant (.int i) _ _)] [y] _ => decide (k = .inl i) && ch N sc a y
    | .Dict [some (.Constant (.str i) _ _)] [y] _ => decide (k = .inr i) && ch N sc a y
    | _ => false
  | .dspe k a, e => match e with
    | .Dict [some kx] [y] _ => ch N sc k kx && ch N sc a y
    | _ => false
  | .dsp2 k a l b, e => match e with
    | .Dict [some (.Constant (.int i) _ _), some (.Constant (.int j) _ _)] [y, z] _ => decide (k = .inl i) && decide (l = .inl j) && ch N sc a y && ch N sc b z
    | _ => false
  | .dct, e => match e with
    | .Dict [] [] _ => true
    | _ => false
  | .mx3 a b c, e => match e with
    | .Call (.Name x _) [y, z, w] [] _ => blB sc x "max" && ch N sc a y && ch N sc b z && ch N sc c w && noStar y && noStar z && noStar w
    | _ => false
  | .rvt a, e => match e with
    | .Call (.Name x _) [.Call (.Name u _) [y] [] _] [] _ => blB sc x "tuple" && blB sc u "reversed" && ch N sc a y && noStar y
    | _ => false
  | .lset a, e => match e with
    | .Call (.Name x _) [.Call (.Name u _) [y] [] _] [] _ => blB sc x "len" && blB sc u "set" && ch N sc a y && noStar y
    | _ => false
  | .frz a, e => match e with
    | .Name _ _ => ch N sc a e
    | _ => false
  | .dlh a b, e => match e with
    | .Tuple [y, .Call (.Name x _) [z] [] _] _ _ => blB sc x "tuple" && ch N sc a y && ch N sc b z && noStar y && noStar z
    | _ => false
  | .undl a, e => match e with
    | .Name _ _ => ch N sc a e
    | _ => false
  | .dli a c b, e => match e with
    | .Call (.Attribute (.Subscript y i _) m ap) [z] [] cp => decide (m = "index") && ch N sc a y && ch N sc c i && noSlice i && ch N sc b z && noStar z && (ap.endLine == cp.line)
    | _ => false
  | .dctP a, e => match e with
    | .Call (.Name x _) [y] [] _ => blB sc x "dict" && ch N sc a y && noStar y
    | _ => false
  | .srs a, e => match e with
    | .Call (.Name x _) [.Call (.Name u _) [y] [] _] [] _ => blB sc x "sorted" && blB sc u "set" && ch N sc a y && noStar y
    | _ => false
  | .rp r a, e => match e with
    | .Call (.Name x _) [y] [] _ => blB sc x (if r then "repr" else "str") && ch N sc a y && noStar y && N.contains kpNm
    | _ => false
  | .rvl a, e => match e with
    | .Subscript y (.Slice none none (some (.UnaryOp .USub (.Constant (.int 1) _ _) _)) _) _ => ch N sc a y
    | _ => false
  | .srv a, e => match e with
    | .Call (.Name x _) [y] [⟨some k, .Constant (.bool true) _ _, _⟩] _ => blB sc x "sorted" && decide (k = "reverse") && ch N sc a y && noStar y
    | _ => false
  | .srtK a n is b, e => match e with
    | .Call (.Name x _) [y] [⟨some k, .Lambda ps body ls _, _⟩] _ => blB sc x "sorted" && decide (k = "key") && ch N sc a y && noStar y && lamB N sc n is (is.filterMap fun j => N[j]?) ps ls && ch (n :: is.filterMap fun j => N[j]?) ls b body
    | _ => false
  | .trng a, e => match e with
    | .Call (.Name x _) [.Call (.Name u _) [y] [] _] [] _ => blB sc x "tuple" && blB sc u "range" && ch N sc a y && noStar y
    | _ => false
  | .inv a, e => match e with
    | .UnaryOp .Invert x _ => ch N sc a x
    | _ => false
  | .mnd a c, e => match e with
    | .Call (.Name x _) [y] [⟨some k, .Constant kc _ _, _⟩] _ => blB sc x "min" && decide (k = "default") && ch N sc a y && noStar y && cstB (.int c) kc
    | _ => false
  | .mn3 a b c, e => match e with
    | .Call (.Name x _) [y, z, w] [] _ => blB sc x "min" && ch N sc a y && ch N sc b z && ch N sc c w && noStar y && noStar z && noStar w
    | _ => false
  | .mt c a, e => match e with
    | .Call (.Attribute y m ap) [.Constant kc _ _] [] cp => decide (m = if c then "count" else "index") && rcvB y && ch N sc a y && cstB (.bool true) kc && (ap.endLine == cp.line)
    | _ => false
  | .idx a b, e => match e with
    | .Call (.Attribute y m ap) [z] [] cp => decide (m = "index") && rcvB y && ch N sc a y && ch N sc b z && noStar z && (ap.endLine == cp.line)
    | _ => false
  | .ext i a, e => match e with
    | .Call (.Attribute (.Name x _) m ap) [y] [] cp => nmB N sc i x && decide (m = "extend") && ch N sc a y && noStar y && (ap.endLine == cp.line)
    | _ => false
  | .rvI i, e => match e with
    | .Call (.Attribute (.Name x _) m ap) [] [] cp => nmB N sc i x && decide (m = "reverse") && (ap.endLine == cp.line)
    | _ => false
  | .rmv i a, e => match e with
    | .Call (.Attribute (.Name x _) m ap) [y] [] cp => nmB N sc i x && decide (m = "remove") && ch N sc a y && noStar y && (ap.endLine == cp.line)
    | _ => false
  | .app i a, e => match e with
    | .Call (.Attribute (.Name x _) m ap) [y] [] cp => nmB N sc i x && decide (m = "append") && ch N sc a y && noStar y && (ap.endLine == cp.line)
    | _ => false
  | .pop i, e => match e with
    | .Call (.Attribute (.Name x _) m ap) [] [] cp => nmB N sc i x && decide (m = "pop") && (ap.endLine == cp.line)
    | _ => false
  | .popAt i a, e => match e with
    | .Call (.Attribute (.Name x _) m ap) [y] [] cp => nmB N sc i x && decide (m = "pop") && ch N sc a y && noStar y && (ap.endLine == cp.line)
    | _ => false
  | .lc own tup tg ik a b c el, e => match e with
    | .ListComp x [⟨t, it, ifs, 0⟩] scope _ =>
      chI N sc ik it (fun y => ch N sc a y) (fun y => ch N sc b y) b.isNo && noSet it && ikT ik tup && blkC N sc scope own && chTg N scope tup tg t && (tg.all fun i => (own.map (·.2)).contains i) &&
      ch N (relS scope sc) el x && (match ifs with
        | [] => c.isNo
        | [y] => !c.isNo && ch N (relS scope sc) c y
        | _ => false)
    | _ => false
def chL (N : List Str) (sc : Scope) : EL → List Expr → Bool
  | .nil, xs => match xs with
    | [] => true
    | _ => false
  | .cons e es, xs => match xs with
    | x :: xs => ch N sc e x && chL N sc es xs && noStar x
    | _ => false
end

def isCt : Option Stmt → Bool
  | some (.Continue _) => true
  | _ => false
mutual
def chS (N : List Str) (sc : Scope) : S → Stmt → Bool
  | .asg i e, s => match s with
    | .Assign [.Name x px] v _ => decide (N[i]? = some x) && locB sc x && ch N sc e v && (noComp v || (match v with
      | .ListComp _ _ _ _ => true
      | _ => false))
    | _ => false
  | .asgT is e, s => match s with
    | .Assign [.Tuple ts _ _] v _ => chTs N sc is ts && ch N sc e v && noComp v && noTup v
    | _ => false
  | .asgL is e, s => match s with
    | .Assign [.Tuple ts _ _] v _ => chTs N sc is ts && ch N sc e v && noComp v && noTup v
    | _ => false
  | .par i j a b, s => match s with
    | .Assign [.Tuple [.Name x px, .Name y py] _ _] (.Tuple [u, v] _ _) _ => decide (N[i]? = some x) && decide (N[j]? = some y) && decide (sc.names.lookup x = some .local) && decide (sc.names.lookup y = some .local) && !(i == j) &&
        (px.line == py.line) && ch N sc a u && ch N sc b v && noStar u && noStar v && !(foldedForSure 8 u && foldedForSure 8 v) && !(constantsAlone 8 u && constantsAlone 8 v)
    | _ => false
  | .paro i j a b, s => match s with
    | .Assign [.Tuple [.Name x px, .Name y py] _ _] (.Tuple [u, v] _ _) _ => decide (N[i]? = some x) && decide (N[j]? = some y) && decide (sc.names.lookup x = some .local) && decide (sc.names.lookup y = some .local) && !(i == j) &&
        (px.line == py.line) && ch N sc a u && ch N sc b v && noStar u && noStar v && !(foldedForSure 8 u && foldedForSure 8 v) && !(constantsAlone 8 u && constantsAlone 8 v)
    | _ => false
  | .par3 i j l a b c, s => match s with
    | .Assign [.Tuple [.Name x px, .Name y py, .Name z pz] _ _] (.Tuple [u, v, w] _ _) _ => decide (N[i]? = some x) && (decide (N[j]? = some y) && (decide (N[l]? = some z) && (decide (sc.names.lookup x = some .local) && (decide (sc.names.lookup y = some .local) && (decide (sc.names.lookup z = some .local) && (!(i == j) && (!(i == l) && (!(j == l) && ((px.line == py.line) && ((px.line == pz.line) && (chL N sc (.cons a (.cons b (.cons c .nil))) [u, v, w] && (noStar u && (noStar v && (noStar w && (!(foldedForSure 8 u && (foldedForSure 8 v && foldedForSure 8 w)) && (!(constantsAlone 8 u && (constantsAlone 8 v && constantsAlone 8 w))))))))))))))))))
    | _ => false
  | .swp i ja jb e, s => match s with
    | .Assign [.Tuple [.Subscript (.Name x _) (.Name a _) _, .Subscript (.Name y _) (.Name b _) _] _ _] v _ => nmB N sc i x && nmB N sc i y && nmB N sc ja a && nmB N sc jb b && ch N sc e v && noComp v
    | _ => false
  | .setIx i ix e, s => match s with
    | .Assign [.Subscript (.Name x _) j _] v _ => nmB N sc i x && ch N sc ix j && ch N sc e v && noSlice j && noComp v
    | _ => false
  | .exp e, s => match s with
    | .Expr v _ => ch N sc e v && noComp v
    | _ => false
  | .ret e, s => match s with
    | .Return (some v) _ => ch N sc e v
    | _ => false
  | .retN, s => match s with
    | .Return none _ => true
    | _ => false
  | .ife c a b, s => match s with
    | .If t x y _ => ch N sc c t && chSL N sc a x && chSL N sc b y
    | _ => false
  | .for_ tup tg ik a b body, s => match s with
    | .For t it x [] _ => chI N sc ik it (fun y => ch N sc a y) (fun y => ch N sc b y) b.isNo && noSet it && ikT ik tup && chTg N sc tup tg t && chSL N sc body x
    | _ => false
  | .whl c body, s => match s with
    | .While t x [] _ => ch N sc c t && chSL N sc body x
    | _ => false
  | .forc tup tg ik a b n pre c x rest, s => match s with
    | .For t it xs [] _ => chI N sc ik it (fun y => ch N sc a y) (fun y => ch N sc b y) b.isNo && noSet it && ikT ik tup && chTg N sc tup tg t && chSL N sc pre (xs.take n) && (match xs.drop n with
      | .If tc xc [] _ :: zs => ch N sc c tc && isCt xc.getLast? && chSL N sc x xc.dropLast && chSL N sc rest zs
      | _ => false)
    | _ => false
  | .never, _ => true
def chSL (N : List Str) (sc : Scope) : SL → List Stmt → Bool
  | .nil, xs => match xs with
    | [] => true
    | _ => false
  | .cons s ss, xs => match xs with
    | x :: xs => chS N sc s x && chSL N sc ss xs
    | _ => false
end
end Ev

/-! A verified evaluator over the hand layer, part 3: how values and slots lie in the heap; what a step may change. -/
namespace Ev
open PySem L2

def CstL (K : PySem.W.Frag) (H : Hp) (a : Addr) (xs : List V) : Prop := (∃ o, H a = some (.frz o (.lst xs))) ∨
  ∃ (o : Obj) (its : Array Value) (n : Nat), K.lookup a = some o ∧ o.cls = .type "list" ∧ o.dict = none ∧ o.data = .seq its n ∧ its.size ≤ sizeLine ∧ Vals xs its.toList
def ErO (cls : Value) (a : Addr) : HO := .ext fun h => ∃ (oe : Obj) (vs : Array Value), h.get? a = some oe ∧ Zc cls none oe ∧ oe.data = .fields vs
def ErOF (cls : Value) (d a : Addr) : HO := .ext fun h => ∃ (oe : Obj) (vs : Array Value), h.get? a = some oe ∧ Zc cls (some d) oe ∧ oe.data = .fields vs
structure ErG (K : PySem.W.Frag) (x : Str) : Prop where
  ec : ExcC K (He.ga K x)
  is : ∀ y ∈ errCl, PySem.W.kitOne K (.ref (He.ga K x)) (.ref (He.ga K y)) = some (subE x y)
  ve : PySem.W.kitOne K (.ref (He.ga K x)) (.type "ValueError") = some true
mutual
inductive Rp (K : PySem.W.Frag) (F : Addr → Prop) (H : Hp) : V → D → Prop
  | non : Rp K F H .non .none
  | bl (b : Bool) : Rp K F H (.bl b) (.bool b)
  | int (i : Int) : Rp K F H (.int i) (.int i)
  | str (x : Str) : Rp K F H (.str x) (.str x)
  | tup {a : Addr} {xs : List V} {ds : List D} : SqT K H a xs → xs.length ≤ sizeLine → RpL K F H xs ds → Rp K F H (.ref a) (.tuple ds)
  | lst {a : Addr} {xs : List V} {ds : List D} : F a → H a = some (.lst xs) → xs.length ≤ sizeLine → RpL K F H xs ds → Rp K F H (.ref a) (.list ds)
  | dct {a : Addr} {kvs : List (Key × V)} {ds : List (D × D)} : F a → H a = some (.dK kvs) → RpL K F H (kvs.map (·.2)) (ds.map (·.2)) → kvs.map (fun p => keyD p.1) = ds.map (·.1) → spcL ds = false → Rp K F H (.ref a) (.dict ds)
  | kd {a : Addr} {kvs : List (Key × V)} {ns : List Int} : H a = some (.dK kvs) → ns ≠ [] → (∀ n : Int, (valV kvs (.inl n)).isSome = decide (n ∈ ns)) → Rp K F H (.ref a) (kdD ns)
  | err {a : Addr} {x : Str} : H a = some (ErO (.ref (He.ga K x)) a) → ErG K x → Rp K F H (.ref a) (errD x)
  | errF {a dd : Addr} {x : Str} {ns : List Str} {vs : List V} {ds : List D} : H a = some (ErOF (.ref (He.ga K x)) dd a) → H dd = some (.xd ((ns.zip vs).reverse)) → ns.Nodup → ns.length = vs.length → ErG K x → XfC K (He.ga K x) → (∀ f ∈ ns, PySem.W.findIn K (.ref (He.ga K x)) f = some none) → RpL K F H vs ds → Rp K F H (.ref a) (errF x ns ds)
  | fn {x : Str} : Rp K F H (.ref (He.ga K x)) (fnD x)
  | dl {a b : Addr} {i : Int} {o : Obj} {xs : List V} {ds : List D} : SqT K H a [.int i, .ref b] → H b = some (.frz o (.tup xs)) → o.cls = .type "tuple" → o.dict = none → xs.length ≤ sizeLine → RpL K F H xs ds → Rp K F H (.ref a) (dlD i ds)
  | cst {a : Addr} {xs : List V} {ds : List D} : CstL K H a xs → xs.length ≤ sizeLine → RpL K F H xs ds → Rp K F H (.ref a) (.list ds)
inductive RpL (K : PySem.W.Frag) (F : Addr → Prop) (H : Hp) : List V → List D → Prop
  | nil : RpL K F H [] []
  | cons {v : V} {vs : List V} {d : D} {ds : List D} : Rp K F H v d → RpL K F H vs ds → RpL K F H (v :: vs) (d :: ds)
end

def tabsK (K : PySem.W.Frag) : List (Addr × Str) := lamDs.map fun d => ((He.cT K d.1).2, d.2)
abbrev NT (o : HO) : Prop := ∀ ps, o ≠ .tbl ps
theorem nt_lst {xs : List V} : NT (.lst xs) := fun _ z => nomatch z
theorem nt_er {c : Value} {a : Addr} : NT (ErO c a) := fun _ z => by unfold ErO at z; cases z
theorem nt_erF {c : Value} {d a : Addr} : NT (ErOF c d a) := fun _ z => by unfold ErOF at z; cases z
theorem tabS_kp {H H' : Hp} {P : Addr} {q : Str} (h : LamX.TabS H P q) (kp : ∀ x o, H x = some o → ((∃ ps, o = .tbl ps) ∨ ∃ φ, o = .ext φ) → H' x = some o) : LamX.TabS H' P q := by
  obtain ⟨ps, h1, h2, h3⟩ := h
  refine ⟨ps, kp _ _ h1 (.inl ⟨_, rfl⟩), h2, fun pos cv hc => ?_⟩
  obtain ⟨c, e1, e2⟩ := h3 pos cv hc
  exact ⟨c, e1, kp _ _ e2 (.inr ⟨_, rfl⟩)⟩
theorem tabS_upd {H : Hp} {P p : Addr} {q : Str} {o o' : HO} (h : LamX.TabS H P q) (e : H p = some o) (n1 : NT o) (n2 : ∀ φ, o ≠ .ext φ) : LamX.TabS (upd H p o') P q := tabS_kp h fun x u hx hu => by
  rw [upd_ne (fun z => by
    rw [z, e] at hx; cases hx
    rcases hu with ⟨ps, z⟩ | ⟨φ, z⟩
    · exact n1 ps z
    · exact n2 φ z)]
  exact hx
structure Wd where
  O : Addr → Prop
  L : Addr → Prop
  F : Addr → Prop
  H : Hp
structure Wd.Ok (w : Wd) : Prop where
  ol : ∀ a, w.O a → ∃ xs, w.H a = some (.lst xs)
  ll : ∀ a, w.L a → ∃ xs, w.H a = some (.lst xs)
  fo : ∀ a, w.F a → ¬ w.O a
  lo : ∀ a, w.L a → ¬ w.O a
  tr : ∀ a, w.F a → ∃ o, w.H a = some o
structure Stp (a b : Wd) : Prop where
  k : ∀ x o, a.H x = some o → ¬ a.O x → NT o → b.H x = some o
  t : ∀ x o, a.H x = some o → ∃ o', b.H x = some o'
  o : ∀ x, b.O x → a.O x ∨ a.H x = none
  l : ∀ x, b.L x → a.L x ∨ a.O x ∨ a.H x = none
  f : ∀ x, a.F x → b.F x
  g : ∀ x, b.F x → a.F x ∨ a.O x ∨ a.H x = none
theorem Stp.refl (a : Wd) : Stp a a := ⟨fun _ _ h _ _ => h, fun _ o h => ⟨o, h⟩, fun _ h => .inl h, fun _ h => .inl h, fun _ h => h, fun _ h => .inl h⟩
theorem Stp.new {a b : Wd} (s : Stp a b) {x : Addr} (h : b.H x = none) : a.H x = none := by
  cases e : a.H x with
  | none => rfl
  | some o =>
    obtain ⟨o', e'⟩ := s.t x o e
    rw [h] at e'; cases e'
theorem Stp.on {a b : Wd} (s : Stp a b) {x : Addr} (h : b.O x ∨ b.H x = none) : a.O x ∨ a.H x = none := h.elim (s.o x) fun h => .inr (s.new h)
theorem Stp.trans {a b c : Wd} (s : Stp a b) (t : Stp b c) : Stp a c where
  k := fun x o h n nt => t.k x o (s.k x o h n nt) (fun q => by
    rcases s.o x q with q | q
    · exact n q
    · rw [h] at q; cases q) nt
  t := fun x o h => let ⟨o', h'⟩ := s.t x o h; t.t x o' h'
  o := fun x h => s.on (t.o x h)
  l := fun x h => by
    rcases t.l x h with q | q
    · exact s.l x q
    · exact .inr (s.on q)
  f := fun x h => t.f x (s.f x h)
  g := fun x h => by
    rcases t.g x h with q | q
    · exact s.g x q
    · exact .inr (s.on q)

section
variable {K : PySem.W.Frag} {a b : Wd}
theorem Stp.sqT (s : Stp a b) (ok : a.Ok) {p : Addr} {xs : List V} (h : SqT K a.H p xs) : SqT K b.H p xs := by
  have no : ∀ o, a.H p = some o → (∀ ys, o ≠ .lst ys) → ¬ a.O p := fun o e n q => by
    obtain ⟨ys, q⟩ := ok.ol p q
    rw [e] at q
    exact n ys (Option.some.inj q)
  rcases h with (h | ⟨o, h⟩) | h
  · exact .inl (.inl (s.k p _ h (no _ h fun _ z => nomatch z) fun _ z => nomatch z))
  · exact .inl (.inr ⟨o, s.k p _ h (no _ h fun _ z => nomatch z) fun _ z => nomatch z⟩)
  · exact .inr h
theorem Stp.cst (s : Stp a b) (ok : a.Ok) {p : Addr} {xs : List V} (h : CstL K a.H p xs) : CstL K b.H p xs := by
  rcases h with ⟨o, h⟩ | h
  · refine .inl ⟨o, s.k p _ h (fun q => ?_) fun _ z => nomatch z⟩
    obtain ⟨ys, q⟩ := ok.ol p q
    rw [h] at q; cases q
  · exact .inr h
mutual
theorem Rp.mono (s : Stp a b) (ok : a.Ok) : ∀ {v : V} {d : D}, Rp K a.F a.H v d → Rp K b.F b.H v d
  | _, _, .non => .non
  | _, _, .bl b => .bl b
  | _, _, .int b => .int b
  | _, _, .str b => .str b
  | _, _, .tup h z r => .tup (s.sqT ok h) z (RpL.mono s ok r)
  | _, _, .lst f h z r => .lst (s.f _ f) (s.k _ _ h (ok.fo _ f) nt_lst) z (RpL.mono s ok r)
  | _, _, .dct f h r e hs => .dct (s.f _ f) (s.k _ _ h (fun q => by
      obtain ⟨ys, q⟩ := ok.ol _ q
      rw [h] at q; cases q) fun _ z => nomatch z) (RpL.mono s ok r) e hs
  | _, _, .kd h hs hk => .kd (s.k _ _ h (fun q => by
      obtain ⟨ys, q⟩ := ok.ol _ q
      rw [h] at q; cases q) fun _ z => nomatch z) hs hk
  | _, _, .err h g => .err (s.k _ _ h (fun q => by
      obtain ⟨ys, q⟩ := ok.ol _ q
      rw [h] at q; cases q) nt_er) g
  | _, _, .errF h1 h2 nd hl g xf no r => .errF (s.k _ _ h1 (fun q => by
      obtain ⟨ys, q⟩ := ok.ol _ q
      rw [h1] at q; cases q) nt_erF) (s.k _ _ h2 (fun q => by
      obtain ⟨ys, q⟩ := ok.ol _ q
      rw [h2] at q; cases q) fun _ z => nomatch z) nd hl g xf no (RpL.mono s ok r)
  | _, _, .fn => .fn
  | _, _, .dl h1 h2 c n z r => .dl (s.sqT ok h1) (s.k _ _ h2 (fun q => by
      obtain ⟨ys, q⟩ := ok.ol _ q
      rw [h2] at q; cases q) fun _ z => nomatch z) c n z (RpL.mono s ok r)
  | _, _, .cst h z r => .cst (s.cst ok h) z (RpL.mono s ok r)
theorem RpL.mono (s : Stp a b) (ok : a.Ok) : ∀ {vs : List V} {ds : List D}, RpL K a.F a.H vs ds → RpL K b.F b.H vs ds
  | _, _, .nil => .nil
  | _, _, .cons h r => .cons (Rp.mono s ok h) (RpL.mono s ok r)
end
end

section
variable {K : PySem.W.Frag} {F : Addr → Prop} {H : Hp}
theorem RpL.length : ∀ {vs : List V} {ds : List D}, RpL K F H vs ds → vs.length = ds.length
  | _, _, .nil => rfl
  | _, _, .cons _ r => congrArg (· + 1) (RpL.length r)
theorem RpL.get : ∀ {vs : List V} {ds : List D} {i : Nat} {d : D}, RpL K F H vs ds → ds[i]? = some d → ∃ v, vs[i]? = some v ∧ Rp K F H v d
  | _, _, _, _, .nil, e => by simp at e
  | _, _, 0, _, .cons h _, e => by simp at e; subst e; exact ⟨_, rfl, h⟩
  | _, _, i + 1, d, .cons _ r, e => by
    obtain ⟨v, h1, h2⟩ := RpL.get (i := i) (d := d) r (by simpa using e)
    exact ⟨v, by simpa using h1, h2⟩
theorem RpL.getV : ∀ {vs : List V} {ds : List D} {i : Nat} {v : V}, RpL K F H vs ds → vs[i]? = some v → ∃ d, ds[i]? = some d ∧ Rp K F H v d
  | _, _, _, _, .nil, e => by simp at e
  | _, _, 0, _, .cons h _, e => by simp at e; subst e; exact ⟨_, rfl, h⟩
  | _, _, i + 1, d, .cons _ r, e => by
    obtain ⟨v, h1, h2⟩ := RpL.getV (i := i) (v := d) r (by simpa using e)
    exact ⟨v, by simpa using h1, h2⟩
theorem RpL.append : ∀ {vs us : List V} {ds es : List D}, RpL K F H vs ds → RpL K F H us es → RpL K F H (vs ++ us) (ds ++ es)
  | _, _, _, _, .nil, s => s
  | _, _, _, _, .cons h r, s => .cons h (RpL.append r s)
theorem RpL.take : ∀ {vs : List V} {ds : List D} (n : Nat), RpL K F H vs ds → RpL K F H (vs.take n) (ds.take n)
  | _, _, 0, _ => .nil
  | _, _, _ + 1, .nil => .nil
  | _, _, n + 1, .cons h r => .cons h (RpL.take n r)
theorem RpL.drop : ∀ {vs : List V} {ds : List D} (n : Nat), RpL K F H vs ds → RpL K F H (vs.drop n) (ds.drop n)
  | _, _, 0, r => r
  | _, _, _ + 1, .nil => .nil
  | _, _, n + 1, .cons _ r => RpL.drop n r
theorem RpL.set {v : V} {d : D} (h : Rp K F H v d) : ∀ {vs : List V} {ds : List D} (n : Nat), RpL K F H vs ds → RpL K F H (vs.set n v) (ds.set n d)
  | _, _, _, .nil => .nil
  | _, _, 0, .cons _ r => .cons h r
  | _, _, n + 1, .cons q r => .cons q (RpL.set h n r)
theorem RpL.eraseIdx : ∀ {vs : List V} {ds : List D} (n : Nat), RpL K F H vs ds → RpL K F H (vs.eraseIdx n) (ds.eraseIdx n)
  | _, _, _, .nil => .nil
  | _, _, 0, .cons _ r => r
  | _, _, n + 1, .cons q r => .cons q (RpL.eraseIdx n r)
theorem RpL.dropLast {vs : List V} {ds : List D} (r : RpL K F H vs ds) : RpL K F H vs.dropLast ds.dropLast := by
  rw [List.dropLast_eq_take, List.dropLast_eq_take, r.length]
  exact r.take _
theorem RpL.rev {vs : List V} {ds : List D} (r : RpL K F H vs ds) : RpL K F H vs.reverse ds.reverse := by
  have key : ∀ (vs : List V) (ds : List D), RpL K F H vs ds → RpL K F H vs.reverse ds.reverse := by
    intro vs
    induction vs with
    | nil => intro ds r; cases r; exact .nil
    | cons v vs ih =>
      intro ds r
      cases r with
      | cons h r =>
        rw [List.reverse_cons, List.reverse_cons]
        exact (ih _ r).append (.cons h .nil)
  exact key vs ds r
theorem RpL.rep {vs : List V} {ds : List D} (r : RpL K F H vs ds) : ∀ n : Nat, RpL K F H (List.replicate n vs).flatten (List.replicate n ds).flatten
  | 0 => .nil
  | n + 1 => by
    rw [List.replicate_succ, List.replicate_succ, List.flatten_cons, List.flatten_cons]
    exact r.append (RpL.rep r n)
theorem RpL.cut {vs : List V} {ds : List D} (r : RpL K F H vs ds) (lo hi : Option Int) : RpL K F H (cutV vs lo hi) (cutD ds lo hi) := by
  unfold cutV cutD
  rw [r.length]
  exact (r.drop _).take _
theorem RpL.ints_ : ∀ {vs : List V} {ds : List D} {ns : List Int}, RpL K F H vs ds → intsD ds = some ns → vs = ns.map V.int ∧ ds = ns.map PyData.int
  | _, _, ns, .nil, e => by simp [intsD] at e; subst e; exact ⟨rfl, rfl⟩
  | _, _, ns, .cons (d := d) h r, e => by
    cases h <;> simp only [intsD, Option.map_eq_some_iff, reduceCtorEq] at e
    obtain ⟨ms, e1, rfl⟩ := e
    obtain ⟨h1, h2⟩ := RpL.ints_ r e1
    rw [h1, h2]
    exact ⟨rfl, rfl⟩
theorem RpL.bools_ : ∀ {vs : List V} {ds : List D} {ns : List Bool}, RpL K F H vs ds → boolsD ds = some ns → vs = ns.map V.bl ∧ ds = ns.map PyData.bool
  | _, _, ns, .nil, e => by simp [boolsD] at e; subst e; exact ⟨rfl, rfl⟩
  | _, _, ns, .cons (d := d) h r, e => by
    cases h <;> simp only [boolsD, Option.map_eq_some_iff, reduceCtorEq] at e
    obtain ⟨ms, e1, rfl⟩ := e
    obtain ⟨h1, h2⟩ := RpL.bools_ r e1
    rw [h1, h2]
    exact ⟨rfl, rfl⟩
inductive PrL (K : PySem.W.Frag) (H : Hp) : List V → List (Int × Int) → Prop
  | nil : PrL K H [] []
  | cons {t : Addr} {i j : Int} {vs : List V} {ps : List (Int × Int)} : SqT K H t [.int i, .int j] → PrL K H vs ps → PrL K H (.ref t :: vs) ((i, j) :: ps)
theorem PrL.length : ∀ {vs : List V} {ps : List (Int × Int)}, PrL K H vs ps → vs.length = ps.length
  | _, _, .nil => rfl
  | _, _, .cons _ r => congrArg (· + 1) r.length
theorem RpL.pairs_ : ∀ {vs : List V} {ds : List D} {ps : List (Int × Int)}, RpL K F H vs ds → pairsD ds = some ps → PrL K H vs ps
  | _, _, ps, .nil, e => by simp [pairsD] at e; subst e; exact .nil
  | _, _, ps, .cons (d := d) h r, e => by
    cases h <;> try simp only [pairsD, Option.map_eq_some_iff, reduceCtorEq] at e
    rename_i xs ds' hs hz hr
    cases hr with
    | nil => simp [pairsD] at e
    | cons h1 r1 =>
      cases h1 <;> try simp only [pairsD, Option.map_eq_some_iff, reduceCtorEq] at e
      cases r1 with
      | nil => simp [pairsD] at e
      | cons h2 r2 =>
        cases h2 <;> try simp only [pairsD, Option.map_eq_some_iff, reduceCtorEq] at e
        cases r2 with
        | cons _ _ => simp [pairsD] at e
        | nil =>
          simp only [pairsD, Option.map_eq_some_iff] at e
          obtain ⟨qs, e1, rfl⟩ := e
          exact .cons hs (RpL.pairs_ r e1)
theorem RpL.of_pairs : ∀ {vs : List V} {ps : List (Int × Int)}, PrL K H vs ps → RpL K F H vs (ps.map pairD)
  | _, _, .nil => .nil
  | _, _, .cons h r => .cons (.tup h (by show 2 ≤ sizeLine; decide) (.cons (.int _) (.cons (.int _) .nil))) (RpL.of_pairs r)
theorem RpL.of_ints : ∀ ns : List Int, RpL K F H (ns.map V.int) (ns.map PyData.int)
  | [] => .nil
  | n :: ns => .cons (.int n) (RpL.of_ints ns)
end

/-! ### slots -/
inductive SlR (K : PySem.W.Frag) (F : Addr → Prop) (H : Hp) : Slot → Option V → Prop
  | un {ov : Option V} : SlR K F H .un ov
  | val {v : V} {d : D} : Rp K F H v d → SlR K F H (.val d) (some v)
  | own {a : Addr} {xs : List V} {l : List D} : H a = some (.lst xs) → xs.length ≤ sizeLine → RpL K F H xs l → ¬ F a → SlR K F H (.own l) (some (.ref a))
  | lent {a : Addr} {xs : List V} {l : List D} : H a = some (.lst xs) → xs.length ≤ sizeLine → RpL K F H xs l → ¬ F a → SlR K F H (.lent l) (some (.ref a))
def OwnA (σ : L2.St) (env : Nv) (a : Addr) : Prop := ∃ (i : Nat) (l : List D), env[i]? = some (Slot.own l) ∧ σ[i]? = some (some (.ref a))
def LenA (σ : L2.St) (env : Nv) (a : Addr) : Prop := ∃ (i : Nat) (l : List D), env[i]? = some (Slot.lent l) ∧ σ[i]? = some (some (.ref a))
abbrev wd (σ : L2.St) (env : Nv) (F : Addr → Prop) (H : Hp) : Wd := ⟨OwnA σ env, LenA σ env, F, H⟩
structure ER (K : PySem.W.Frag) (F : Addr → Prop) (H : Hp) (σ : L2.St) (env : Nv) : Prop where
  len : env.length = σ.length
  sl : ∀ (i : Nat) (s : Slot), env[i]? = some s → ∃ ov, σ[i]? = some ov ∧ SlR K F H s ov
  inj : ∀ (i j : Nat) (a : Addr), (∃ l, env[i]? = some (Slot.own l) ∨ env[i]? = some (Slot.lent l)) → σ[i]? = some (some (.ref a)) → σ[j]? = some (some (.ref a)) → (∃ l, env[j]? = some (Slot.own l) ∨ env[j]? = some (Slot.lent l)) → i = j
  tr : ∀ a, F a → ∃ o, H a = some o
  tb : LamX.Tabs (tabsK K) H

theorem sAt_some {env : Nv} {i : Nat} {s : Slot} (h : env[i]? = some s) : sAt env i = s := by
  unfold sAt
  rw [List.getD_eq_getElem?_getD, h]
  rfl
theorem sAt_get {env : Nv} {i : Nat} {s : Slot} (h : sAt env i = s) (n : s ≠ .un) : env[i]? = some s := by
  unfold sAt at h
  rw [List.getD_eq_getElem?_getD] at h
  cases e : env[i]? with
  | none => rw [e] at h; exact absurd h.symm n
  | some t => rw [e] at h; exact congrArg some h

section
variable {K : PySem.W.Frag} {F F' : Addr → Prop} {H H' : Hp} {σ : L2.St} {env env' : Nv}
theorem ER.own (R : ER K F H σ env) {i : Nat} {l : List D} (h : sAt env i = .own l) : ∃ a xs, σ[i]? = some (some (.ref a)) ∧ H a = some (.lst xs) ∧ xs.length ≤ sizeLine ∧ RpL K F H xs l ∧ ¬ F a ∧ OwnA σ env a := by
  have e := sAt_get h (fun z => nomatch z)
  obtain ⟨ov, e1, r⟩ := R.sl i _ e
  cases r with
  | own h z r n => exact ⟨_, _, e1, h, z, r, n, i, l, e, e1⟩
theorem ER.lent (R : ER K F H σ env) {i : Nat} {l : List D} (h : sAt env i = .lent l) : ∃ a xs, σ[i]? = some (some (.ref a)) ∧ H a = some (.lst xs) ∧ xs.length ≤ sizeLine ∧ RpL K F H xs l ∧ ¬ F a ∧ LenA σ env a := by
  have e := sAt_get h (fun z => nomatch z)
  obtain ⟨ov, e1, r⟩ := R.sl i _ e
  cases r with
  | lent h z r n => exact ⟨_, _, e1, h, z, r, n, i, l, e, e1⟩
theorem ER.val (R : ER K F H σ env) {i : Nat} {d : D} (h : sAt env i = .val d) : ∃ v, σ[i]? = some (some v) ∧ Rp K F H v d := by
  have e := sAt_get h (fun z => nomatch z)
  obtain ⟨ov, e1, r⟩ := R.sl i _ e
  cases r with
  | val r => exact ⟨_, e1, r⟩
theorem ER.ok (R : ER K F H σ env) : (wd σ env F H).Ok where
  ol := fun a ⟨i, l, e, e1⟩ => by
    obtain ⟨ov, e2, r⟩ := R.sl i _ e
    rw [e1] at e2; cases e2
    cases r with
    | own h _ _ _ => exact ⟨_, h⟩
  ll := fun a ⟨i, l, e, e1⟩ => by
    obtain ⟨ov, e2, r⟩ := R.sl i _ e
    rw [e1] at e2; cases e2
    cases r with
    | lent h _ _ _ => exact ⟨_, h⟩
  fo := fun a f ⟨i, l, e, e1⟩ => by
    obtain ⟨ov, e2, r⟩ := R.sl i _ e
    rw [e1] at e2; cases e2
    cases r with
    | own _ _ _ n => exact n f
  lo := fun a ⟨i, l, e, e1⟩ ⟨j, l', e', e1'⟩ => by
    have q := R.inj j i a ⟨l', .inl e'⟩ e1' e1 ⟨l, .inr e⟩
    subst q
    rw [e] at e'; cases e'
  tr := R.tr
end

/-! ### results -/
def RR (K : PySem.W.Frag) (F : Addr → Prop) (H : Hp) (σ : L2.St) (env : Nv) : Res → V → Prop
  | .val d, v => Rp K F H v d
  | .fr l, v => ∃ a xs, v = .ref a ∧ H a = some (.lst xs) ∧ xs.length ≤ sizeLine ∧ RpL K F H xs l ∧ ¬ F a ∧ ¬ OwnA σ env a ∧ ¬ LenA σ env a
  | .pl i, v => σ[i]? = some (some v)
def Prov (w : Wd) : Res → V → Prop
  | .fr _, v => ∀ a, v = .ref a → w.O a ∨ w.H a = none
  | _, _ => True
inductive Bw (K : PySem.W.Frag) (F : Addr → Prop) (H : Hp) : V → D → Prop
  | rp {v : V} {d : D} : Rp K F H v d → Bw K F H v d
  | lst {a : Addr} {xs : List V} {l : List D} : H a = some (.lst xs) → xs.length ≤ sizeLine → RpL K F H xs l → Bw K F H (.ref a) (.list l)
section
variable {K : PySem.W.Frag} {F F' : Addr → Prop} {H H' : Hp} {σ : L2.St} {env env' : Nv}
theorem RR.mono {r : Res} {v : V} (R : ER K F H σ env) (s : Stp (wd σ env F H) (wd σ env' F' H')) (h : RR K F H σ env r v) : RR K F' H' σ env' r v := by
  cases r with
  | val d => exact Rp.mono (a := wd σ env F H) (b := wd σ env' F' H') s R.ok h
  | fr l =>
    obtain ⟨a, xs, e, h1, z, r, n1, n2, n3⟩ := h
    have nn : ¬ (H a = none) := by rw [h1]; exact fun z => nomatch z
    refine ⟨a, xs, e, s.k a _ h1 n2 nt_lst, z, RpL.mono (a := wd σ env F H) (b := wd σ env' F' H') s R.ok r, fun q => ?_, fun q => ?_, fun q => ?_⟩
    · rcases s.g a q with q | q | q
      · exact n1 q
      · exact n2 q
      · exact nn q
    · rcases s.o a q with q | q
      · exact n2 q
      · exact nn q
    · rcases s.l a q with q | q | q
      · exact n3 q
      · exact n2 q
      · exact nn q
  | pl i => exact h
theorem Prov.mono {a b : Wd} {r : Res} {v : V} (s : Stp a b) (h : Prov b r v) : Prov a r v := by
  cases r with
  | fr l => exact fun x e => s.on (h x e)
  | val _ => trivial
  | pl _ => trivial
theorem RR.bw {r : Res} {v : V} {d : D} (R : ER K F H σ env) (h : RR K F H σ env r v) (e : rd env r = some d) : Bw K F H v d := by
  cases r with
  | val c =>
    cases e
    exact .rp h
  | fr l =>
    cases e
    obtain ⟨a, xs, rfl, h1, z, r, _⟩ := h
    exact .lst h1 z r
  | pl i =>
    have h : σ[i]? = some (some v) := h
    have e : (sAt env i).get = some d := e
    cases q : sAt env i with
    | un => rw [q] at e; cases e
    | val c =>
      rw [q] at e; cases e
      obtain ⟨v', e1, r⟩ := R.val q
      rw [h] at e1; cases e1
      exact .rp r
    | own l =>
      rw [q] at e; cases e
      obtain ⟨a, xs, e1, h1, z, r, _⟩ := R.own q
      rw [h] at e1; cases e1
      exact .lst h1 z r
    | lent l =>
      rw [q] at e; cases e
      obtain ⟨a, xs, e1, h1, z, r, _⟩ := R.lent q
      rw [h] at e1; cases e1
      exact .lst h1 z r
theorem RR.bwS {r : Res} {v : V} {d : D} (R : ER K F H σ env) (h : RR K F H σ env r v) (e : rdS env r = some d) : Bw K F H v d ∧ ∀ l, d = .list l → ∃ a xs, v = .ref a ∧ H a = some (.lst xs) ∧ xs.length ≤ sizeLine ∧ RpL K F H xs l := by
  have nl : ∀ {c : D}, rdS env (.val c) = some d → c = d ∧ ∀ l, d ≠ .list l := fun {c} e => by
    cases c <;> simp only [rdS, reduceCtorEq, Option.some.injEq] at e
    all_goals (subst e; exact ⟨rfl, fun _ z => nomatch z⟩)
  cases r with
  | val c =>
    obtain ⟨rfl, n⟩ := nl e
    exact ⟨.rp h, fun l q => absurd q (n l)⟩
  | fr l =>
    cases e
    obtain ⟨a, xs, rfl, h1, z, r, _⟩ := h
    exact ⟨.lst h1 z r, fun m q => by cases q; exact ⟨a, xs, rfl, h1, z, r⟩⟩
  | pl i =>
    have h : σ[i]? = some (some v) := h
    have e : (match sAt env i with | .own l => some (PyData.list l) | _ => none) = some d := e
    cases q : sAt env i with
    | un => rw [q] at e; cases e
    | val c => rw [q] at e; cases e
    | own l =>
      rw [q] at e; cases e
      obtain ⟨a, xs, e1, h1, z, r, _⟩ := R.own q
      rw [h] at e1; cases e1
      exact ⟨.lst h1 z r, fun m q => by cases q; exact ⟨a, xs, rfl, h1, z, r⟩⟩
    | lent l => rw [q] at e; cases e
theorem Bw.int {v : V} {i : Int} (h : Bw K F H v (.int i)) : v = .int i := by
  cases h with
  | rp h => cases h; rfl
theorem Bw.bl {v : V} {b : Bool} (h : Bw K F H v (.bool b)) : v = .bl b := by
  cases h with
  | rp h => cases h; rfl
theorem Bw.str {v : V} {b : Str} (h : Bw K F H v (.str b)) : v = .str b := by
  cases h with
  | rp h => cases h; rfl
theorem Bw.non {v : V} (h : Bw K F H v .none) : v = .non := by
  cases h with
  | rp h => cases h; rfl
theorem Bw.tup {v : V} {ds : List D} (h : Bw K F H v (.tuple ds)) : ∃ a xs, v = .ref a ∧ SqT K H a xs ∧ xs.length ≤ sizeLine ∧ RpL K F H xs ds := by
  cases h with
  | rp h => cases h with | tup h z r => exact ⟨_, _, rfl, h, z, r⟩
theorem CstL.sq {a : Addr} {xs : List V} (h : CstL K H a xs) : SqL K H a xs := by
  rcases h with ⟨o, h⟩ | h
  · exact .inl (.inr ⟨o, h⟩)
  · exact .inr h
theorem Bw.list {v : V} {ds : List D} (h : Bw K F H v (.list ds)) : ∃ a xs, v = .ref a ∧ SqL K H a xs ∧ xs.length ≤ sizeLine ∧ RpL K F H xs ds := by
  cases h with
  | rp h => cases h with
    | lst f h z r => exact ⟨_, _, rfl, .of h, z, r⟩
    | cst h z r => exact ⟨_, _, rfl, h.sq, z, r⟩
  | lst h z r => exact ⟨_, _, rfl, .of h, z, r⟩
mutual
theorem Rp.dp : ∀ {v : V} {d : D}, Rp K F H v d → d.canLay0 = true → Dp K H v d
  | _, _, .non, _ => .non
  | _, _, .bl b, _ => .bl b
  | _, _, .int b, _ => .int b
  | _, _, .str b, _ => .str b
  | _, _, .tup h _ r, c => .tup h (RpL.dp r (by simpa [PyData.canLay0] using c))
  | _, _, .lst _ h _ r, c => .lst (.of h) (RpL.dp r (by simpa [PyData.canLay0] using c))
  | _, _, .dct .., c => by simp [PyData.canLay0] at c
  | _, _, .kd .., c => by simp [kdD, PyData.canLay0] at c
  | _, _, .err _ _, c => by simp [errD, PyData.canLay0] at c
  | _, _, .errF .., c => by simp [errF, PyData.canLay0] at c
  | _, _, .fn, c => by simp [fnD, PyData.canLay0] at c
  | _, _, .dl .., c => by simp [dlD, PyData.canLay0] at c
  | _, _, .cst h _ r, c => .lst h.sq (RpL.dp r (by simpa [PyData.canLay0] using c))
theorem RpL.dp : ∀ {vs : List V} {ds : List D}, RpL K F H vs ds → PyData.canLayAll0 ds = true → DpAll K H vs ds
  | _, _, .nil, _ => .nil
  | _, _, .cons h r, c => by
    simp only [PyData.canLayAll0, Bool.and_eq_true] at c
    exact .cons (Rp.dp h c.1) (RpL.dp r c.2)
end
theorem Bw.dp {v : V} {d : D} (h : Bw K F H v d) (c : SeqAt.shaped d = true) : Dp K H v d := by
  have c := SeqAt.canLay_of_shaped c
  cases h with
  | rp h => exact h.dp c
  | lst h _ r => exact .lst (.of h) (r.dp (by simpa [PyData.canLay0] using c))

/-! ### the heap grows -/
theorem Same.stp (s : Same H H') : Stp (wd σ env F H) (wd σ env F H') :=
  ⟨fun x o h _ _ => s x o h, fun x o h => ⟨o, s x o h⟩, fun _ h => .inl h, fun _ h => .inl h, fun _ h => h, fun _ h => .inl h⟩
theorem ER.stp (R : ER K F H σ env) (s : Stp (wd σ env F H) (wd σ env F' H')) (h : ∀ (i : Nat) (l : List D), env[i]? = some (Slot.own l) → ∀ a, σ[i]? = some (some (.ref a)) → H' a = H a ∧ ¬ F' a) (t : ∀ a, F' a → ∃ o, H' a = some o) (tb : LamX.Tabs (tabsK K) H') : ER K F' H' σ env := by
  have ok := R.ok
  refine ⟨R.len, fun i sl e => ?_, R.inj, t, tb⟩
  obtain ⟨ov, e1, r⟩ := R.sl i sl e
  refine ⟨ov, e1, ?_⟩
  cases r with
  | un => exact .un
  | val r => exact .val (Rp.mono (a := wd σ env F H) (b := wd σ env F' H') s ok r)
  | own h1 z r n =>
    obtain ⟨q1, q2⟩ := h i _ e _ e1
    exact .own (q1.trans h1) z (RpL.mono (a := wd σ env F H) (b := wd σ env F' H') s ok r) q2
  | @lent a xs l h1 z r n =>
    have nO : ¬ OwnA σ env a := fun q => ok.lo _ ⟨i, _, e, e1⟩ q
    refine .lent (s.k _ _ h1 nO nt_lst) z (RpL.mono (a := wd σ env F H) (b := wd σ env F' H') s ok r) fun q => ?_
    rcases s.g _ q with q | q | q
    · exact n q
    · exact nO q
    · have q : H a = none := q
      rw [h1] at q; cases q
theorem ER.same (R : ER K F H σ env) (s : Same H H') : ER K F H' σ env :=
  R.stp (Same.stp s) (fun i l e a e1 => by
    obtain ⟨ov, e2, r⟩ := R.sl i _ e
    rw [e1] at e2; cases e2
    cases r with
    | own h1 _ _ n => exact ⟨(s _ _ h1).trans h1.symm, n⟩) (fun a f => let ⟨o, h⟩ := R.tr a f; ⟨o, s a o h⟩) (R.tb.ext s)
structure SameN (H H' : Hp) : Prop where
  k : ∀ b o, H b = some o → NT o → H' b = some o
  t : ∀ b o, H b = some o → ∃ o', H' b = some o'
theorem SameN.stp (s : SameN H H') : Stp (wd σ env F H) (wd σ env F H') :=
  ⟨fun x o h _ nt => s.k x o h nt, s.t, fun _ h => .inl h, fun _ h => .inl h, fun _ h => h, fun _ h => .inl h⟩
theorem ER.sameN (R : ER K F H σ env) (s : SameN H H') (tb : LamX.Tabs (tabsK K) H') : ER K F H' σ env :=
  R.stp s.stp (fun i l e a e1 => by
    obtain ⟨ov, e2, r⟩ := R.sl i _ e
    rw [e1] at e2; cases e2
    cases r with
    | own h1 _ _ n => exact ⟨(s.k _ _ h1 nt_lst).trans h1.symm, n⟩) (fun a f => let ⟨o, h⟩ := R.tr a f; s.t a o h) tb
theorem sameN_of {a b : Wd} (s : Stp a b) (n : ∀ x, ¬ a.O x) : SameN a.H b.H := ⟨fun x o h nt => s.k x o h (n x) nt, s.t⟩
theorem same_upd {p : Addr} {o : HO} (h : H p = none) : Same H (upd H p o) := fun b u e => by
  rw [upd_ne (ne_of_none e h)]; exact e
end
end Ev

/-! a dict != a number. -/
namespace Ev
open PySem PySem.Spec PyProof.Rows L2
open AutoSeq1 (wpAny_loadPart')
open MeetsSeq MeetsSeq2 MeetsSeq3
theorem dict_ne_declines_int (l : Addr) (es : Array DictEntry) (ep : Nat) (dd : Option Addr) (sl : Array (Option Value)) (b : Int) (u : Tok) :
    Meets (Builtin.«dict.__ne__» ⟨[.ref l, .int b u], []⟩) (fun _ R s => s.heap.get? l = some { cls := .type "dict", dict := dd, data := .dict es ep, slots := sl } ∧ R (.ok (.ret .notImplemented)) s) :=
  .of_wp fun prog w A R s h => by obtain ⟨hp, g, d, tk, os⟩ := s; obtain ⟨hl, h⟩ := h; have f1 := F.sub_int_dict; wp_walk using wpAny_loadPart' hl; exact ⟨_, rfl, h⟩
theorem int_ne_declines_dict (b : Int) (u : Tok) (l : Addr) (c : Value) (es : Array DictEntry) (ep : Nat) (dd : Option Addr) (sl : Array (Option Value)) :
    Meets (Builtin.«int.__ne__» ⟨[.int b u, .ref l], []⟩) (fun _ R s => s.heap.get? l = some { cls := c, dict := dd, data := .dict es ep, slots := sl } ∧ R (.ok (.ret .notImplemented)) s) :=
  .of_wp fun prog w A R s h => by obtain ⟨hp, g, d, tk, os⟩ := s; obtain ⟨hl, h⟩ := h; wp_walk using wpAny_loadPart' hl, wpAny_load hl; exact ⟨_, rfl, h⟩
theorem dict_ne_declines_str (l : Addr) (es : Array DictEntry) (ep : Nat) (dd : Option Addr) (sl : Array (Option Value)) (b : Str) (u : Tok) :
    Meets (Builtin.«dict.__ne__» ⟨[.ref l, .str b u], []⟩) (fun _ R s => s.heap.get? l = some { cls := .type "dict", dict := dd, data := .dict es ep, slots := sl } ∧ R (.ok (.ret .notImplemented)) s) :=
  .of_wp fun prog w A R s h => by obtain ⟨hp, g, d, tk, os⟩ := s; obtain ⟨hl, h⟩ := h; have f1 := F.sub_str_dict; wp_walk using wpAny_loadPart' hl; exact ⟨_, rfl, h⟩
theorem str_ne_declines_dict (b : Str) (u : Tok) (l : Addr) (c : Value) (es : Array DictEntry) (ep : Nat) (dd : Option Addr) (sl : Array (Option Value)) :
    Meets (Builtin.«str.__ne__» ⟨[.str b u, .ref l], []⟩) (fun _ R s => s.heap.get? l = some { cls := c, dict := dd, data := .dict es ep, slots := sl } ∧ R (.ok (.ret .notImplemented)) s) :=
  .of_wp fun prog w A R s h => by obtain ⟨hp, g, d, tk, os⟩ := s; obtain ⟨hl, h⟩ := h; wp_walk using wpAny_loadPart' hl, wpAny_load hl; exact ⟨_, rfl, h⟩
theorem dict_eq_declines_str (l : Addr) (es : Array DictEntry) (ep : Nat) (dd : Option Addr) (sl : Array (Option Value)) (b : Str) (u : Tok) :
    Meets (Builtin.«dict.__eq__» ⟨[.ref l, .str b u], []⟩) (fun _ R s => s.heap.get? l = some { cls := .type "dict", dict := dd, data := .dict es ep, slots := sl } ∧ R (.ok (.ret .notImplemented)) s) :=
  .of_wp fun prog w A R s h => by obtain ⟨hp, g, d, tk, os⟩ := s; obtain ⟨hl, h⟩ := h; have f1 := F.sub_str_dict; wp_walk using wpAny_loadPart' hl; exact ⟨_, rfl, h⟩
theorem str_eq_declines_dict (b : Str) (u : Tok) (l : Addr) (c : Value) (es : Array DictEntry) (ep : Nat) (dd : Option Addr) (sl : Array (Option Value)) :
    Meets (Builtin.«str.__eq__» ⟨[.str b u, .ref l], []⟩) (fun _ R s => s.heap.get? l = some { cls := c, dict := dd, data := .dict es ep, slots := sl } ∧ R (.ok (.ret .notImplemented)) s) :=
  .of_wp fun prog w A R s h => by obtain ⟨hp, g, d, tk, os⟩ := s; obtain ⟨hl, h⟩ := h; wp_walk using wpAny_loadPart' hl, wpAny_load hl; exact ⟨_, rfl, h⟩
section
variable {X : Cx}
def rNeDi : R2 := fun x y H Q => ∃ (a : Addr) (i : Int) (kvs : List (Key × V)), x = .ref a ∧ y = .int i ∧ H a = some (.dK kvs) ∧ Q (.bl true) H
theorem op_neDi (hu : X.A.units < cLine) : OpR X (compareOp .NotEq) rNeDi := by
  intro pins s σ H x y v u Q I rx ry h
  obtain ⟨a, i, kvs, rfl, rfl, ha, q⟩ := h
  obtain rfl : v = Value.ref a := rx
  obtain ⟨t, rfl⟩ := (show ∃ t, u = Value.int i t from ry)
  obtain ⟨_, _, _, _, ⟨⟨cls, dd, data, sl⟩, es, ep, ho, ⟨hc, h1, h2⟩, hd, _⟩⟩ := dk_of I.hok ha
  simp only at hc h1 h2 hd
  subst hc h1 h2 hd
  show wpAny _ _ (richCompare .NotEq _ _) _ _ _
  exact PySem.SeqAt.rc_ne_decline_or (k := false) ⟨_, ho, rfl⟩ (typeIs_int s i t) (by decide) F.sub_int_dict F.slot_dict_ne F.slot_int_ne_refl
    (fun _ hq => call_meets F.slot_dict_ne ⟨_, ho, rfl⟩ F.entry_dict_ne (F.args_dict_ne_2 _ _) (dict_ne_declines_int a es ep none #[] i t) ⟨ho, hq⟩)
    (fun _ hq => call_meets F.slot_int_ne_refl (typeIs_int s i t) F.entry_int_ne (F.args_int_ne_2 _ _) (int_ne_declines_dict i t a (.type "dict") es ep none #[]) ⟨ho, hq⟩)
    (fun _ hq => wpAny_of_eq (rfl : isSame (.ref a) (.int i t) = pure false) hq) (.inr hu) ⟨.bl true, H, I, rfl, q⟩
def rNeDs : R2 := fun x y H Q => ∃ (a : Addr) (z : Str) (kvs : List (Key × V)), x = .ref a ∧ y = .str z ∧ H a = some (.dK kvs) ∧ Q (.bl true) H
theorem op_neDs (hu : X.A.units < cLine) : OpR X (compareOp .NotEq) rNeDs := by
  intro pins s σ H x y v u Q I rx ry h
  obtain ⟨a, i, kvs, rfl, rfl, ha, q⟩ := h
  obtain rfl : v = Value.ref a := rx
  obtain ⟨t, rfl⟩ := (show ∃ t, u = Value.str i t from ry)
  obtain ⟨_, _, _, _, ⟨⟨cls, dd, data, sl⟩, es, ep, ho, ⟨hc, h1, h2⟩, hd, _⟩⟩ := dk_of I.hok ha
  simp only at hc h1 h2 hd
  subst hc h1 h2 hd
  show wpAny _ _ (richCompare .NotEq _ _) _ _ _
  exact PySem.SeqAt.rc_ne_decline_or (k := false) ⟨_, ho, rfl⟩ (typeIs_str s i t) (by decide) F.sub_str_dict F.slot_dict_ne F.slot_str_ne_refl
    (fun _ hq => call_meets F.slot_dict_ne ⟨_, ho, rfl⟩ F.entry_dict_ne (F.args_dict_ne_2 _ _) (dict_ne_declines_str a es ep none #[] i t) ⟨ho, hq⟩)
    (fun _ hq => call_meets F.slot_str_ne_refl (typeIs_str s i t) F.entry_str_ne (F.args_str_ne_2 _ _) (str_ne_declines_dict i t a (.type "dict") es ep none #[]) ⟨ho, hq⟩)
    (fun _ hq => wpAny_of_eq (rfl : isSame (.ref a) (.str i t) = pure false) hq) (.inr hu) ⟨.bl true, H, I, rfl, q⟩
def rEqDs : R2 := fun x y H Q => ∃ (a : Addr) (z : Str) (kvs : List (Key × V)), x = .ref a ∧ y = .str z ∧ H a = some (.dK kvs) ∧ Q (.bl false) H
theorem op_eqDs (hu : X.A.units < cLine) : OpR X (compareOp .Eq) rEqDs := by
  intro pins s σ H x y v u Q I rx ry h
  obtain ⟨a, i, kvs, rfl, rfl, ha, q⟩ := h
  obtain rfl : v = Value.ref a := rx
  obtain ⟨t, rfl⟩ := (show ∃ t, u = Value.str i t from ry)
  obtain ⟨_, _, _, _, ⟨⟨cls, dd, data, sl⟩, es, ep, ho, ⟨hc, h1, h2⟩, hd, _⟩⟩ := dk_of I.hok ha
  simp only at hc h1 h2 hd
  subst hc h1 h2 hd
  show wpAny _ _ (richCompare .Eq _ _) _ _ _
  exact PySem.SeqAt.rc_eq_decline_or (k := false) ⟨_, ho, rfl⟩ (typeIs_str s i t) (by decide) F.sub_str_dict F.slot_dict_eq F.slot_str_eq_refl
    (fun _ hq => call_meets F.slot_dict_eq ⟨_, ho, rfl⟩ F.entry_dict_eq (F.args_dict_eq_2 _ _) (dict_eq_declines_str a es ep none #[] i t) ⟨ho, hq⟩)
    (fun _ hq => call_meets F.slot_str_eq_refl (typeIs_str s i t) F.entry_str_eq (F.args_str_eq_2 _ _) (str_eq_declines_dict i t a (.type "dict") es ep none #[]) ⟨ho, hq⟩)
    (fun _ hq => wpAny_of_eq (rfl : isSame (.ref a) (.str i t) = pure false) hq) (.inr hu) ⟨.bl false, H, I, rfl, q⟩
end
end Ev

/-! sorted(a tuple of ints). -/
namespace Ev
open PySem PySem.Spec PyProof.Rows L2 SrtO
section
variable {prog : Program} {w : World} {A : Around} {E : Value → Shared → Prop} {s : Shared}
theorem sorted_tup_ord {l : Addr} {o : Obj} {vs : List Value} {n : Nat} {ltv : Value → Value → Bool} {Q : Value → Shared → Prop} (O : Swo ltv) (ho : s.heap.get? l = some o) (hc : o.cls = .type "tuple") (hd : o.data = .seq vs.toArray n) (hz : vs.length ≤ sizeLine)
    (hS : 2 ≤ vs.length → ∀ (h₁ : Heap) (a : Addr), h₁.get? a = some (seqObj "list" vs.toArray 0) → (∀ b o, s.heap.get? b = some o → b ≠ a ∧ h₁.get? b = some o) → SortableO prog w A.in1.in1 { s with heap := h₁ } a vs ltv)
    (h : ∀ (out : List Value) (g h' : Heap), Srtd ltv out → Stb ltv out vs → (∀ b o, s.heap.get? b = some o → g.get? b = some o) → (∀ b o, g.get? b = some o → h'.get? b = some o) → (∃ e, h'.get? g.objs.size = some (seqObj "list" out.toArray e)) → Q (.ref g.objs.size) { s with heap := h' }) :
    wpAny (model prog w) A (call (.builtin "sorted") [.ref l]) Q E s := by
  refine Calls.call_function_entry kind_sorted plain_sorted entry_sorted (args_sorted1 _) ?_
  unfold Builtin.«sorted»
  refine wpAny_bind (m := checkCount "sorted" 1 1 _) (wpAny_pure ?_)
  refine wpAny_bind (wpAny_collect_seq l (.inr rfl) ho hc hd (fun g hg => ?_) (by rw [List.size_toArray]; exact hz))
  have e0 : vs.toArray.toList = vs := by simp
  rw [e0]
  refine wpAny_bind (wpAny_newList ?_ hz)
  have hoL : (g.push (seqObj "list" vs.toArray 0)).get? g.objs.size = some (seqObj "list" vs.toArray 0) := Heap.get?_push_size _ rfl
  have keep : ∀ b o, s.heap.get? b = some o → b ≠ g.objs.size ∧ (g.push (seqObj "list" vs.toArray 0)).get? b = some o := fun b o q => ⟨Nat.ne_of_lt (Heap.lt_size (hg b o q)), Heap.get?_push_of_some _ (hg b o q)⟩
  show wpAny _ _ _ _ _ { s with heap := g.push (seqObj "list" vs.toArray 0) }
  refine wpAny_bind (wpAny_holding (wpAny_call_entry slot_list_sort ⟨_, hoL, rfl⟩ entry_list_sort (list_sort_ord O hoL hz (fun h2 => hS h2 _ _ hoL keep) fun out hs hb => ⟨_, rfl, ?_⟩) (args_list_sort _)))
  refine wpAny_pure ⟨_, rfl, h out g _ hs hb hg (fun b o q => ?_) (sortedHeap_at hoL)⟩
  have k2 := Heap.get?_push_of_some (seqObj "list" vs.toArray 0) q
  exact (sortedHeap_old (Nat.ne_of_lt (Heap.lt_size q)) (Heap.lt_size k2)).trans k2
end
section
variable {X : Cx}
def rSortedT1 (K : PySem.W.Frag) : List V → Hp → VK → Prop := fun vs H Q => ∃ (a : Addr) (ns : List Int), vs = [V.ref a] ∧ SqT K H a (ns.map V.int) ∧
  ∀ (ns' : List Int) (p : Addr), ns'.Perm ns → ns'.Pairwise (· ≤ ·) → H p = none → Q (.ref p) (upd H p (.lst (ns'.map V.int)))
theorem cr_sortedT1 : CallR X (.builtin "sorted") (rSortedT1 X.K) := by
  intro pins s σ H vs us Q I r h
  obtain ⟨a, ns, rfl, hs, q⟩ := h
  obtain ⟨its, rv, ⟨o, ho, hc, n, hd⟩, hz⟩ := I.tuple hs
  rw [Vals.ref1 r]
  have hi := rv.ints
  refine sorted_tup_ord swo_int ho hc hd (by rw [← rv.length]; exact hz) (fun h2 h₁ a' _ _ => ints_sortable hi h2) fun out g h' h1 h2 hg hk he => ?_
  obtain ⟨k1, k2, k3⟩ := ints_out hi h1 h2
  obtain ⟨ep, he⟩ := he
  have hlen : ((out.map iv).map V.int).length ≤ sizeLine := by rw [List.length_map, k2.length_eq]; rw [List.length_map] at hz; exact hz
  have I2 : Inv X pins σ H { s with heap := g } := I.kept (t' := s.toks) hg
  exact ⟨.ref g.objs.size, upd H g.objs.size (.lst ((out.map iv).map V.int)), I2.laid (t' := s.toks) hk (Nat.le_refl _) ⟨hlen, out, ep, vals_of_ints k1, he⟩, rfl, q _ _ k2 k3 (I2.hok.fresh (Nat.le_refl _))⟩
def rSortedPT (K : PySem.W.Frag) : List V → Hp → VK → Prop := fun vs H Q => ∃ (a : Addr) (xs : List V) (ps : List (Int × Int)), vs = [V.ref a] ∧ SqL K H a xs ∧ PrL K H xs ps ∧
  ∀ (ys : List V) (qs : List (Int × Int)) (p : Addr), PrL K H ys qs → qs.Perm ps → qs.Pairwise (fun a b => lexB b a = false) → H p = none → Q (.ref p) (upd H p (.lst ys))
open Classical in
noncomputable def kOf (K : PySem.W.Frag) (H : Hp) : V → Int × Int
  | .ref t => if h : ∃ p : Int × Int, SqT K H t [.int p.1, .int p.2] then choose h else (0, 0)
  | _ => (0, 0)
open Classical in
theorem kOf_ok {K : PySem.W.Frag} {H : Hp} {t : Addr} {i j : Int} (h : SqT K H t [.int i, .int j]) : SqT K H t [.int (kOf K H (.ref t)).1, .int (kOf K H (.ref t)).2] := by
  have h' : ∃ p : Int × Int, SqT K H t [.int p.1, .int p.2] := ⟨(i, j), h⟩
  have e : kOf K H (.ref t) = Classical.choose h' := by
    show (if h : ∃ p : Int × Int, SqT K H t [.int p.1, .int p.2] then Classical.choose h else (0, 0)) = _
    rw [dif_pos h']
  rw [e]
  exact Classical.choose_spec h'
theorem PrL.mem_ {K : PySem.W.Frag} {H : Hp} : ∀ {vs : List V} {ps : List (Int × Int)}, PrL K H vs ps → ∀ x ∈ vs, ∃ t, x = V.ref t ∧ SqT K H t [.int (kOf K H x).1, .int (kOf K H x).2]
  | _, _, .nil, _, h => by cases h
  | _, _, .cons h r, x, hx => by
    rcases List.mem_cons.mp hx with rfl | hx
    · exact ⟨_, rfl, kOf_ok h⟩
    · exact r.mem_ x hx
theorem PrL.of_mem {K : PySem.W.Frag} {H : Hp} : ∀ {vs : List V}, (∀ x ∈ vs, ∃ t, x = V.ref t ∧ SqT K H t [.int (kOf K H x).1, .int (kOf K H x).2]) → PrL K H vs (vs.map (kOf K H))
  | [], _ => .nil
  | x :: vs, h => by
    obtain ⟨t, rfl, q⟩ := h x List.mem_cons_self
    exact .cons q (PrL.of_mem fun y hy => h y (List.mem_cons_of_mem _ hy))
theorem PrL.map_ {pins : List (Addr × Obj)} {σ : List (Option V)} {H : Hp} {s : Shared} (I : L2.Inv X pins σ H s) : ∀ {vs : List V} {ps : List (Int × Int)}, PrL X.K H vs ps → ps = vs.map (kOf X.K H)
  | _, _, .nil => rfl
  | _, _, .cons (i := i) (j := j) h r => by
    have e := I.tuple_inj h (kOf_ok h)
    injection e with e1 e2
    injection e2 with e2 _
    injection e1 with e1
    injection e2 with e2
    rw [List.map_cons, ← r.map_ I]
    congr 1
    exact Prod.ext e1 e2
theorem cr_sortedPT : CallR X (.builtin "sorted") (rSortedPT X.K) := by
  intro pins s σ H vs us Q I r h
  obtain ⟨a, xs, ps, rfl, hs, hx, q⟩ := h
  have hm := hx.mem_
  have hp := hx.map_ I
  obtain ⟨its, rv, hl, hz⟩ := I.list hs
  obtain ⟨u, rfl, ru⟩ := vals1 r
  obtain rfl : u = Value.ref a := ru
  obtain ⟨e1, e2⟩ := refs_back rv fun x m => by
    obtain ⟨t, e, _⟩ := hm x m
    exact ⟨t, e⟩
  refine SrtO.sorted_pairsO (k := fun u => kOf X.K H (backV u)) hl.isList (by rw [← rv.length]; exact hz) (fun v hv => ?_) fun h' d out h1 h2 kp hd hn => ?_
  · obtain ⟨t, rfl⟩ := e2 v hv
    have hm' : V.ref t ∈ xs := by rw [e1]; exact List.mem_map.mpr ⟨_, hv, rfl⟩
    obtain ⟨t', e, ht⟩ := hm _ hm'
    cases e
    obtain ⟨its2, r2, ⟨o, ho, hc, n, hd⟩, _⟩ := I.tuple ht
    obtain ⟨u1, u2, rfl, ri, rj⟩ := vals2 r2
    obtain ⟨t1, rfl⟩ := ri
    obtain ⟨t2, rfl⟩ := rj
    exact ⟨t, o, t1, t2, n, rfl, ho, hc, hd⟩
  · have h3 : ∀ u ∈ out, ∃ a, u = Value.ref a := fun u hu => e2 u (h2.perm.mem_iff.mp hu)
    obtain ⟨n, hn⟩ := hn
    have hb : SrtO.Stb (ltP (kOf X.K H)) (out.map backV) xs := by
      rw [e1]
      exact SrtO.Stb.map (ltP_swo _) backV h2
    have hs2 : SrtO.Srtd (ltP (kOf X.K H)) (out.map backV) := SrtO.srtd_map h1
    refine ⟨.ref d, upd H d (.lst (out.map backV)), I.laid (t' := s.toks) kp hd ⟨?_, out, n, vals_back h3, hn⟩, rfl, q _ ((out.map backV).map (kOf X.K H)) d (PrL.of_mem fun x hx => hm x (hb.perm.mem_iff.mp hx)) ?_ ?_ (I.hok.fresh hd)⟩
    · rw [hb.len]
      exact hz
    · rw [hp]
      exact hb.perm.map _
    · exact List.pairwise_map.mpr hs2
theorem sortP_is {ns ms : List (Int × Int)} (hp : ms.Perm ns) (hs : ms.Pairwise (fun a b => lexB b a = false)) : ms = sortP ns := by
  have key : ∀ a b : Int × Int, lexLe a b = true ↔ (a.1 < b.1 ∨ (a.1 = b.1 ∧ a.2 ≤ b.2)) := fun a b => decide_eq_true_iff
  have h1 : (ns.mergeSort lexLe).Perm ns := List.mergeSort_perm _ _
  have h2 : (ns.mergeSort lexLe).Pairwise (fun a b => lexLe a b = true) := List.pairwise_mergeSort (fun a b c h1 h2 => by rw [key] at *; omega) (fun a b => by
    have : lexLe a b = true ∨ lexLe b a = true := by rw [key, key]; omega
    simpa using this) _
  have h3 : ms.Pairwise (fun a b => lexLe a b = true) := hs.imp fun {a b} h => by
    have := lexB_no.mp h
    rw [key]
    omega
  exact (hp.trans h1.symm).eq_of_pairwise (fun x y _ _ h1 h2 => by
    rw [key] at h1 h2
    exact Prod.ext (by omega) (by omega)) h3 h2
end
end Ev

/-! Largest and least of tuples, of three; in; sorted downward. -/
namespace Ev
open PySem PySem.Spec PyProof.Rows L2 PySem.W
theorem alikeAll_ints (ns : List Int) : AlikeAll (ns.map PyData.int) := by
  refine ⟨fun x hx y hy => ?_, fun x hx => ?_⟩
  · obtain ⟨a, _, rfl⟩ := List.mem_map.mp hx
    obtain ⟨b, _, rfl⟩ := List.mem_map.mp hy
    rfl
  · obtain ⟨a, _, rfl⟩ := List.mem_map.mp hx
    exact fun z => nomatch z
theorem depthAll_ints : ∀ ns : List Int, PyData.depthAll (ns.map PyData.int) = 0
  | [] => rfl
  | n :: ns => by rw [List.map_cons, PyData.depthAll, depthAll_ints ns]; rfl
theorem reads_ints {h : Heap} : ∀ {vs : List Value} {ns : List Int}, IntsAre vs ns → ReadsAll h vs (ns.map .int) []
  | _, _, .nil => .nil
  | _, _, .cons n t r => ReadsAll.cons (as := []) (bs := []) (Reads.int n t) (reads_ints r)
theorem tuple_mulW1 (l : Addr) (items : Array Value) (n : Nat) (dd : Option Addr) (sl : Array (Option Value)) (u : Tok) :
    Meets (Builtin.«tuple.__mul__» ⟨[.ref l, .int 1 u], []⟩) (fun _ R s => s.heap.get? l = some { cls := .type "tuple", dict := dd, data := .seq items n, slots := sl } ∧ R (.ok (.ret (Value.ref l))) s) :=
  .of_wp fun prog w A R s h => by
    obtain ⟨hp, g, d, tk, os⟩ := s
    obtain ⟨hl, h⟩ := h
    have f1 := AutoSeq1.idx_int
    have c1 : (items.isEmpty || (1 : Int) == 1) = true := by simp
    wp_walk using wpAny_loadPart' hl
    exact ⟨_, rfl, h⟩
section
variable {X : Cx}
def rRepT1 (K : PySem.W.Frag) : R2 := fun x y H Q => ∃ l xs, x = .ref l ∧ y = .int 1 ∧ SqT K H l xs ∧ Q (.ref l) H
theorem op_repT1 : OpR X (binaryOp .Mult) (rRepT1 X.K) := by
  intro pins s σ H x y v u Q I rx ry h
  obtain ⟨l, xs, rfl, rfl, hT, q⟩ := h
  cases rx
  obtain ⟨t, rfl⟩ := ry
  obtain ⟨its, r, ⟨⟨cls, dd, data, sl⟩, ho, hc, n, hd⟩, hs⟩ := I.tuple hT
  simp only at hc hd
  subst hc hd
  refine wpAny_binaryOp_repeat_ref (T := "tuple") (U := "int") (by decide) ⟨_, ho, rfl⟩ (fun s' => typeIs_int s' 1 t) noFill_tuple_mul F.fills_int_mul F.slot_int_rmul repeat_tuple F.slot_int_index.lookup
    (call_meets F.slot_int_rmul (typeIs_int s 1 t) F.entry_int_rmul (F.args_int_rmul_2 _ _) (int_rmul_tuple 1 t l its.toArray n dd sl)
      ⟨ho, rfl, ⟨_, ho, rfl⟩, call_meets F.slot_tuple_mul ⟨_, ho, rfl⟩ F.entry_tuple_mul (F.args_tuple_mul_2 _ _) (tuple_mulW1 l its.toArray n dd sl t) ⟨ho, ?_⟩⟩)
  exact ⟨.ref l, H, I, rfl, q⟩
def rMaxT (K : PySem.W.Frag) : List V → Hp → VK → Prop := fun vs H Q => ∃ (a : Addr) (n : Int) (ns : List Int), vs = [V.ref a] ∧ SqT K H a ((n :: ns).map V.int) ∧ Q (.int (ns.foldl max n)) H
def rMinT (K : PySem.W.Frag) : List V → Hp → VK → Prop := fun vs H Q => ∃ (a : Addr) (n : Int) (ns : List Int), vs = [V.ref a] ∧ SqT K H a ((n :: ns).map V.int) ∧ Q (.int (ns.foldl min n)) H
theorem cr_maxT (hc : X.calm = true) (hu : X.A.units + 64 < cLine) : CallR X (.builtin "max") (rMaxT X.K) := by
  intro pins s σ H vs us Q I r h
  obtain ⟨a, n, ns, rfl, hs, q⟩ := h
  obtain ⟨its, rv, hl, hz⟩ := I.tuple hs
  rw [Vals.ref1 r]
  refine max_tuple_data (x := .int n) (xs := ns.map .int) (I.ok.hd hc) hl (by have := reads_ints (h := s.heap) rv.ints; simpa using this) (alikeAll_ints (n :: ns)) (by have := depthAll_ints (n :: ns); rw [List.map_cons] at this; rw [this]; omega) fun i v h' tk bs _ hr hk => ?_
  rw [maxD_ints] at hr
  cases hr with
  | int _ t => exact ⟨.int _, H, I.kept hk, ⟨t, rfl⟩, q⟩
theorem cr_minT (hc : X.calm = true) (hu : X.A.units + 64 < cLine) : CallR X (.builtin "min") (rMinT X.K) := by
  intro pins s σ H vs us Q I r h
  obtain ⟨a, n, ns, rfl, hs, q⟩ := h
  obtain ⟨its, rv, hl, hz⟩ := I.tuple hs
  rw [Vals.ref1 r]
  refine min_tuple_data (x := .int n) (xs := ns.map .int) (I.ok.hd hc) hl (by have := reads_ints (h := s.heap) rv.ints; simpa using this) (alikeAll_ints (n :: ns)) (by have := depthAll_ints (n :: ns); rw [List.map_cons] at this; rw [this]; omega) fun i v h' tk bs _ hr hk => ?_
  rw [minD_ints] at hr
  cases hr with
  | int _ t => exact ⟨.int _, H, I.kept hk, ⟨t, rfl⟩, q⟩
theorem sum_intTuple {prog : Program} {w : World} {A : Around} {E : Value → Shared → Prop} {s : Shared} {l : Addr} {xs : Array (Int × Tok)} {Q : Value → Shared → Prop} (hh : A.handled = none) (hl : s.heap.IsTuple l (intItems xs))
    (h : ∀ h' tk t', (∀ b o, s.heap.get? b = some o → h'.get? b = some o) → Q (.int (preSum (numAt xs) xs.size) t') { s with heap := h', toks := tk }) :
    wpAny (model prog w) A (call (.builtin "sum") [.ref l]) Q E s := by
  have hlt : l < s.heap.objs.size := by obtain ⟨_, e, _⟩ := hl; exact Heap.lt_size e
  refine call_sum_walkG (wpAny_pyIter_tuple hl ?_)
  refine ⟨_, _, _, _, _, _, numAt xs, rfl, Walks.tuple (A := A.in1) hh _ l (Nat.ne_of_lt hlt) (intItems xs), ⟨⟨_, Heap.get?_push_size _ rfl, rfl, rfl⟩, hl.at fun o e => Heap.get?_push_of_some _ e⟩, fun b hb => ?_, (fun _ _ => intItems_at), fun h' tk t' hk => ?_⟩
  · show b < (s.heap.push _).objs.size
    rw [Heap.size_push]
    rcases List.mem_cons.mp hb with rfl | hb
    · exact Nat.lt_succ_self _
    · rcases List.mem_cons.mp hb with rfl | hb
      · exact Nat.lt_succ_of_lt hlt
      · cases hb
  · have hk2 : ∀ b o, s.heap.get? b = some o → h'.get? b = some o := fun b o e => by
      refine hk b o (fun hm => ?_) (Heap.get?_push_of_some _ e)
      rcases List.mem_cons.mp hm with e1 | hm
      · exact absurd (e1 ▸ Heap.lt_size e) (Nat.lt_irrefl _)
      · cases hm
    have := h h' tk t' hk2
    simpa [intItems] using this
def rSumT (K : PySem.W.Frag) : List V → Hp → VK → Prop := fun vs H Q => ∃ (a : Addr) (ns : List Int), vs = [V.ref a] ∧ SqT K H a (ns.map V.int) ∧ Q (.int ns.sum) H
theorem cr_sumT (hc : X.calm = true) : CallR X (.builtin "sum") (rSumT X.K) := by
  intro pins s σ H vs us Q I r h
  obtain ⟨a, ns, rfl, hs, q⟩ := h
  obtain ⟨its, rv, hl, hz⟩ := I.tuple hs
  rw [Vals.ref1 r]
  have hi := rv.ints
  obtain ⟨xs, e⟩ := hi.allInts.items
  have hn : numsOf (intItems xs).toList = ns := by rw [← e]; exact hi.numsOf
  rw [nums_intItems] at hn
  rw [e] at hl
  refine sum_intTuple (I.ok.hd hc) hl fun h' tk t' hk => ⟨.int ns.sum, H, I.kept hk, ⟨t', ?_⟩, q⟩
  rw [preSum_eq, List.take_of_length_le (by simp), hn]
def rMax3 : List V → Hp → VK → Prop := fun vs H Q => ∃ a b c : Int, vs = [.int a, .int b, .int c] ∧ Q (.int (max3 a b c)) H
theorem cr_max3 (hc : X.calm = true) : CallR X (.builtin "max") rMax3 := by
  intro pins s σ H vs us Q I r h
  obtain ⟨a, b, c, rfl, q⟩ := h
  obtain ⟨t, u, x, rfl⟩ : ∃ t u x, us = [Value.int a t, .int b u, .int c x] := by
    cases r with
    | cons r1 r =>
      cases r with
      | cons r2 r =>
        cases r with
        | cons r3 r =>
          cases r
          obtain ⟨t, rfl⟩ := r1
          obtain ⟨u, rfl⟩ := r2
          obtain ⟨x, rfl⟩ := r3
          exact ⟨t, u, x, rfl⟩
  refine max_three_ints (I.ok.hd hc) fun h' tk hk => ⟨.int (max3 a b c), H, I.kept hk, ?_, q⟩
  unfold max3
  split <;> split <;> exact ⟨_, rfl⟩
def rInT (K : PySem.W.Frag) : R2 := fun x y H Q => ∃ d ds, Dp K H x d ∧ Dp K H y (.tuple ds) ∧ SeqAt.shaped d = true ∧ SeqAt.shaped (.tuple ds) = true ∧ Q (.bl (ds.any fun z => PyData.eqv z d)) H
def rNotInT (K : PySem.W.Frag) : R2 := fun x y H Q => ∃ d ds, Dp K H x d ∧ Dp K H y (.tuple ds) ∧ SeqAt.shaped d = true ∧ SeqAt.shaped (.tuple ds) = true ∧ Q (.bl (!ds.any fun z => PyData.eqv z d)) H
theorem op_inT (hu : X.A.units + 65 < cLine) : OpR X (compareOp .In) (rInT X.K) := by
  intro pins s σ H x y v u Q I rx ry h
  obtain ⟨d, ds, hd, he, sd, se, q⟩ := h
  obtain ⟨as, r1⟩ := Dp.reads I d x v hd rx
  obtain ⟨bs, r2⟩ := Dp.reads I (.tuple ds) y u he ry
  exact SeqAt.in_tuple_reads r2 r1 (SeqAt.canLay_of_shaped se) (SeqAt.canLay_of_shaped sd) (room_in_shaped sd hu) ⟨.bl _, H, I, rfl, q⟩
theorem op_notInT (hu : X.A.units + 65 < cLine) : OpR X (compareOp .NotIn) (rNotInT X.K) := by
  intro pins s σ H x y v u Q I rx ry h
  obtain ⟨d, ds, hd, he, sd, se, q⟩ := h
  obtain ⟨as, r1⟩ := Dp.reads I d x v hd rx
  obtain ⟨bs, r2⟩ := Dp.reads I (.tuple ds) y u he ry
  exact SeqAt.notIn_tuple_reads r2 r1 (SeqAt.canLay_of_shaped se) (SeqAt.canLay_of_shaped sd) (room_in_shaped sd hu) ⟨.bl _, H, I, rfl, q⟩
end
end Ev

/-! zip and enumerate over lists and tuples alike, mixed too. -/
namespace Ev
open PySem PySem.Spec PyProof.Rows L2
inductive Kd where
  | l | t
def Kd.cl : Kd → String
  | .l => "list_iterator" | .t => "tuple_iterator"
def Kd.nm : Kd → String
  | .l => "list" | .t => "tuple"
def Kd.it (k : Kd) (h : Heap) (a b : Addr) (i : Nat) : Prop := ∃ o, h.get? a = some o ∧ o.cls = .type k.cl ∧ o.data = .fields #[.ref b, .int i 0]
def Kd.ct (k : Kd) (h : Heap) (a : Addr) (items : Array Value) : Prop := ∃ o, h.get? a = some o ∧ o.cls = .type k.nm ∧ ∃ n, o.data = .seq items n
def Kd.ob (k : Kd) (a : Addr) : Obj := { cls := .type k.cl, data := .fields #[.ref a, .int 0 0] }
theorem Kd.it.at {k : Kd} {h h' : Heap} {a b : Addr} {i : Nat} (x : k.it h a b i) (e : ∀ o, h.get? a = some o → h'.get? a = some o) : k.it h' a b i := let ⟨o, ho, r⟩ := x; ⟨o, e o ho, r⟩
theorem Kd.ct.at {k : Kd} {h h' : Heap} {a : Addr} {xs : Array Value} (x : k.ct h a xs) (e : ∀ o, h.get? a = some o → h'.get? a = some o) : k.ct h' a xs := let ⟨o, ho, r⟩ := x; ⟨o, e o ho, r⟩
theorem Kd.it.ext {k : Kd} {h h' : Heap} {a b c : Addr} {i : Nat} (x : k.it h a b i) (e : Heap.ExtBut c h h') (n : a ≠ c) : k.it h' a b i := x.at fun o ho => e a o n ho
theorem Kd.ct.ext {k : Kd} {h h' : Heap} {a c : Addr} {xs : Array Value} (x : k.ct h a xs) (e : Heap.ExtBut c h h') (n : a ≠ c) : k.ct h' a xs := x.at fun o ho => e a o n ho
section
variable {prog : Program} {w : World} {A : Around} {E : Value → Shared → Prop} {s : Shared} {u v : Kd}
theorem nextK_item {it l : Addr} {i : Nat} {items : Array Value} {x : Value} {Q : Value → Shared → Prop} (hit : u.it s.heap it l i) (hl : u.ct s.heap l items) (hx : items[i]? = some x)
    (hQ : ∀ h', u.it h' it l (i + 1) → Heap.SameBut it s.heap h' → Q x { s with heap := h' }) : wpAny (model prog w) A (Builtin.SmallTypes.nextOf (.ref it)) Q E s := by
  cases u with
  | l => exact wpAny_nextOf_list_item hit hl hx hQ
  | t => exact RZ.nextOf_tuple_item hit hl hx hQ
theorem nextK_end {it l : Addr} {i : Nat} {items : Array Value} {Q : Value → Shared → Prop} (hh : A.handled = none) (hit : u.it s.heap it l i) (hl : u.ct s.heap l items) (hx : items[i]? = none)
    (hE : ∀ h' e, Heap.ExtBut it s.heap h' → (∃ o, h'.get? e = some o ∧ o.cls = .type "StopIteration") → E (.ref e) { s with heap := h' }) : wpAny (model prog w) A (Builtin.SmallTypes.nextOf (.ref it)) Q E s := by
  cases u with
  | l => exact wpAny_nextOf_list_end hh hit hl hx hE
  | t => exact RZ.nextOf_tuple_end hh hit hl hx hE
theorem zipK_item {z TI TO i1 i2 l1 l2 : Addr} {k1 k2 : Nat} {xs ys : Array Value} {x y a b : Value} {Q : Value → Shared → Prop} (D : ZipApart z TI TO i1 i2 l1 l2)
    (hz : IsZip s.heap z TI TO .none) (hTI : IsPair s.heap TI (.ref i1) (.ref i2)) (hTO : IsPair s.heap TO a b)
    (h1 : u.it s.heap i1 l1 k1) (h2 : v.it s.heap i2 l2 k2) (hl1 : u.ct s.heap l1 xs) (hl2 : v.ct s.heap l2 ys) (hx : xs[k1]? = some x) (hy : ys[k2]? = some y)
    (hQ : ∀ h', IsZip h' z TI TO (rawInt s.heap.objs.size) → IsPair h' TO x y → u.it h' i1 l1 (k1 + 1) → v.it h' i2 l2 (k2 + 1) → IsPair h' s.heap.objs.size x y → h'.objs.size = s.heap.objs.size + 1 →
      (∀ c o, c ≠ z → c ≠ TO → c ≠ i1 → c ≠ i2 → s.heap.get? c = some o → h'.get? c = some o) → Q (.ref s.heap.objs.size) { s with heap := h' }) :
    wpAny (model prog w) A (Builtin.«zip.__next__» ⟨[.ref z], []⟩) (fun fin s' => ∃ v, fin = .done (.ret v) ∧ Q v s') E s := by
  show wpAny _ _ (field (.ref z) 2 >>= _) _ _ _
  refine wpAny_bind (wpAny_field hz rfl (x := .bool false) rfl ?_)
  show wpAny _ _ (field (.ref z) 3 >>= _) _ _ _
  refine wpAny_bind (wpAny_field hz rfl (x := .ref TI) rfl ?_)
  refine wpAny_bind (wpAny_seqItems hTI rfl ?_)
  show wpAny _ _ (Builtin.SmallTypes.ownedTupleIsFree (.ref z) >>= _) _ _ _
  refine wpAny_bind ?_
  unfold Builtin.SmallTypes.ownedTupleIsFree
  refine wpAny_bind (wpAny_field hz rfl (x := .none) rfl (wpAny_pure ?_))
  simp only [if_true]
  refine wpAny_bind (wpAny_rule ?_)
  refine wpAny_bind (wpAny_field hz rfl (x := .ref TO) rfl ?_)
  refine wpAny_bind (wpAny_setField_rec hz (by simp) fun g₁ hz₁ hs₁ => ?_)
  replace hz₁ : IsZip g₁ z TI TO .ellipsis := hz₁
  refine wpAny_bind ?_
  simp only [List.zipIdx_cons, List.zipIdx_nil, List.forIn_cons, List.forIn_nil]
  refine wpAny_bind (wpAny_bind (wpAny_onRaise ?_))
  show wpAny _ _ (Builtin.SmallTypes.nextOf (.ref i1) >>= _) _ _ _
  refine wpAny_bind (nextK_item (h1.ext hs₁.extBut D.i1z) (hl1.ext hs₁.extBut D.l1z) hx fun g₂ p₁ hs₂ => wpAny_pure ?_)
  have hTO₂ : IsPair g₂ TO a b := hs₂.extBut _ _ D.TOi1 (hs₁.extBut _ _ D.TOz hTO)
  refine wpAny_bind (wpAny_seqItems hTO₂ rfl ?_)
  refine wpAny_bind (wpAny_updateSeq_pair hTO₂ fun g₃ hTO₃ hs₃ => ?_)
  replace hTO₃ : IsPair g₃ TO x b := hTO₃
  refine wpAny_bind (wpAny_letGo (wpAny_pure ?_))
  refine wpAny_bind (wpAny_bind (wpAny_onRaise ?_))
  show wpAny _ _ (Builtin.SmallTypes.nextOf (.ref i2) >>= _) _ _ _
  refine wpAny_bind (nextK_item (((h2.ext hs₁.extBut D.i2z).ext hs₂.extBut D.i12.symm).ext hs₃.extBut D.TOi2.symm)
    (((hl2.ext hs₁.extBut D.l2z).ext hs₂.extBut D.l2i1).ext hs₃.extBut D.l2TO) hy fun g₄ p₂ hs₄ => wpAny_pure ?_)
  have hTO₄ : IsPair g₄ TO x b := hs₄.extBut _ _ D.TOi2 hTO₃
  refine wpAny_bind (wpAny_seqItems hTO₄ rfl ?_)
  refine wpAny_bind (wpAny_updateSeq_pair hTO₄ fun g₅ hTO₅ hs₅ => ?_)
  replace hTO₅ : IsPair g₅ TO x y := hTO₅
  refine wpAny_bind (wpAny_letGo (wpAny_pure (wpAny_pure ?_)))
  refine wpAny_bind (wpAny_seqItems hTO₅ rfl ?_)
  refine wpAny_bind (wpAny_newTuple ?_)
  have hsz : g₅.objs.size = s.heap.objs.size := by rw [hs₅.1, hs₄.1, hs₃.1, hs₂.1, hs₁.1]
  have hz₅ : IsZip g₅ z TI TO .ellipsis := hs₅.extBut _ _ D.TOz.symm (hs₄.extBut _ _ D.i2z.symm (hs₃.extBut _ _ D.TOz.symm (hs₂.extBut _ _ D.i1z.symm hz₁)))
  have hk₅ : ∀ c o, c ≠ z → c ≠ TO → c ≠ i1 → c ≠ i2 → s.heap.get? c = some o → g₅.get? c = some o := fun c o c1 c2 c3 c4 e =>
    hs₅.extBut _ _ c2 (hs₄.extBut _ _ c4 (hs₃.extBut _ _ c2 (hs₂.extBut _ _ c3 (hs₁.extBut _ _ c1 e))))
  have q₁ : u.it g₅ i1 l1 (k1 + 1) := ((p₁.ext hs₃.extBut D.TOi1.symm).ext hs₄.extBut D.i12).ext hs₅.extBut D.TOi1.symm
  have q₂ : v.it g₅ i2 l2 (k2 + 1) := p₂.ext hs₅.extBut D.TOi2.symm
  have hzlt : z < g₅.objs.size := Heap.lt_size hz₅
  show wpAny _ _ (Builtin.SmallTypes.ownedTupleHandOut (.ref z) (.ref g₅.objs.size) >>= _) _ _ _
  refine wpAny_bind ?_
  unfold Builtin.SmallTypes.ownedTupleHandOut
  have hz₆ : IsZip (g₅.push { cls := .type "tuple", data := .seq #[x, y] }) z TI TO .ellipsis := Heap.get?_push_of_some _ hz₅
  refine wpAny_bind (wpAny_setField_rec hz₆ (by simp) fun g₇ hz₇ hs₇ => ?_)
  replace hz₇ : IsZip g₇ z TI TO (rawInt g₅.objs.size) := hz₇
  refine wpAny_setField_rec hz₇ (by simp) fun g₈ hz₈ hs₈ => ?_
  replace hz₈ : IsZip g₈ z TI TO (rawInt g₅.objs.size) := hz₈
  have up : ∀ c o, c ≠ z → g₅.get? c = some o → g₈.get? c = some o := fun c o c1 e => hs₈.extBut _ _ c1 (hs₇.extBut _ _ c1 (Heap.get?_push_of_some _ e))
  have hT₈ : IsPair g₈ g₅.objs.size x y := hs₈.extBut _ _ (Nat.ne_of_gt hzlt) (hs₇.extBut _ _ (Nat.ne_of_gt hzlt) (Heap.get?_push_size _ rfl))
  have hz8 : g₈.objs.size = g₅.objs.size + 1 := by rw [hs₈.1, hs₇.1, Heap.size_push]
  rw [hsz] at hz₈ hT₈ hz8
  refine wpAny_pure ⟨_, rfl, ?_⟩
  show Q (.ref g₅.objs.size) _
  rw [hsz]
  exact hQ g₈ hz₈ (up _ _ D.TOz hTO₅) (q₁.at fun o e => up _ o D.i1z e) (q₂.at fun o e => up _ o D.i2z e) hT₈ hz8 fun c o c1 c2 c3 c4 e => up c o c1 (hk₅ c o c1 c2 c3 c4 e)
theorem zipK_end {z TI TO i1 i2 l1 l2 : Addr} {k1 k2 : Nat} {xs ys : Array Value} {a b : Value} {Q : Fin → Shared → Prop} (hh : A.handled = none) (D : ZipApart z TI TO i1 i2 l1 l2)
    (hz : IsZip s.heap z TI TO .none) (hTI : IsPair s.heap TI (.ref i1) (.ref i2)) (hTO : IsPair s.heap TO a b)
    (h1 : u.it s.heap i1 l1 k1) (h2 : v.it s.heap i2 l2 k2) (hl1 : u.ct s.heap l1 xs) (hl2 : v.ct s.heap l2 ys) (hend : xs[k1]? = none ∨ ys[k2]? = none)
    (hE : ∀ h' e, (∀ c o, c ≠ z → c ≠ TO → c ≠ i1 → c ≠ i2 → s.heap.get? c = some o → h'.get? c = some o) → (∃ o, h'.get? e = some o ∧ o.cls = .type "StopIteration") → E (.ref e) { s with heap := h' }) :
    wpAny (model prog w) A (Builtin.«zip.__next__» ⟨[.ref z], []⟩) Q E s := by
  show wpAny _ _ (field (.ref z) 2 >>= _) _ _ _
  refine wpAny_bind (wpAny_field hz rfl (x := .bool false) rfl ?_)
  show wpAny _ _ (field (.ref z) 3 >>= _) _ _ _
  refine wpAny_bind (wpAny_field hz rfl (x := .ref TI) rfl ?_)
  refine wpAny_bind (wpAny_seqItems hTI rfl ?_)
  show wpAny _ _ (Builtin.SmallTypes.ownedTupleIsFree (.ref z) >>= _) _ _ _
  refine wpAny_bind ?_
  unfold Builtin.SmallTypes.ownedTupleIsFree
  refine wpAny_bind (wpAny_field hz rfl (x := .none) rfl (wpAny_pure ?_))
  simp only [if_true]
  refine wpAny_bind (wpAny_rule ?_)
  refine wpAny_bind (wpAny_field hz rfl (x := .ref TO) rfl ?_)
  refine wpAny_bind (wpAny_setField_rec hz (by simp) fun g₁ hz₁ hs₁ => ?_)
  replace hz₁ : IsZip g₁ z TI TO .ellipsis := hz₁
  refine wpAny_bind ?_
  simp only [List.zipIdx_cons, List.zipIdx_nil, List.forIn_cons, List.forIn_nil]
  refine wpAny_bind (wpAny_bind (wpAny_onRaise ?_))
  show wpAny _ _ (Builtin.SmallTypes.nextOf (.ref i1) >>= _) _ _ _
  cases hx : xs[k1]? with
  | none =>
    refine wpAny_bind (nextK_end hh (h1.ext hs₁.extBut D.i1z) (hl1.ext hs₁.extBut D.l1z) hx fun g₂ e hs₂ he => ?_)
    obtain ⟨oe, hoe, hce⟩ := he
    have hz₂ : IsZip g₂ z TI TO .ellipsis := hs₂ _ _ D.i1z.symm hz₁
    have hez : e ≠ z := fun x => by subst x; rw [hz₂] at hoe; cases hoe; simp at hce
    refine wpAny_setField_rec hz₂ (by simp) fun g₃ _ hs₃ => hE g₃ e (fun c o c1 _ c3 _ x => hs₃.extBut _ _ c1 (hs₂ _ _ c3 (hs₁.extBut _ _ c1 x))) ⟨oe, hs₃.extBut _ _ hez hoe, hce⟩
  | some x =>
    have hy : ys[k2]? = none := by rcases hend with h | h; rw [hx] at h; cases h; exact h
    refine wpAny_bind (nextK_item (h1.ext hs₁.extBut D.i1z) (hl1.ext hs₁.extBut D.l1z) hx fun g₂ p₁ hs₂ => wpAny_pure ?_)
    have hTO₂ : IsPair g₂ TO a b := hs₂.extBut _ _ D.TOi1 (hs₁.extBut _ _ D.TOz hTO)
    refine wpAny_bind (wpAny_seqItems hTO₂ rfl ?_)
    refine wpAny_bind (wpAny_updateSeq_pair hTO₂ fun g₃ hTO₃ hs₃ => ?_)
    refine wpAny_bind (wpAny_letGo (wpAny_pure ?_))
    refine wpAny_bind (wpAny_bind (wpAny_onRaise ?_))
    show wpAny _ _ (Builtin.SmallTypes.nextOf (.ref i2) >>= _) _ _ _
    refine wpAny_bind (nextK_end hh (((h2.ext hs₁.extBut D.i2z).ext hs₂.extBut D.i12.symm).ext hs₃.extBut D.TOi2.symm)
      (((hl2.ext hs₁.extBut D.l2z).ext hs₂.extBut D.l2i1).ext hs₃.extBut D.l2TO) hy fun g₄ e hs₄ he => ?_)
    obtain ⟨oe, hoe, hce⟩ := he
    have hz₄ : IsZip g₄ z TI TO .ellipsis := hs₄ _ _ D.i2z.symm (hs₃.extBut _ _ D.TOz.symm (hs₂.extBut _ _ D.i1z.symm hz₁))
    have hez : e ≠ z := fun x => by subst x; rw [hz₄] at hoe; cases hoe; simp at hce
    refine wpAny_setField_rec hz₄ (by simp) fun g₅ _ hs₅ => hE g₅ e (fun c o c1 c2 c3 c4 x => hs₅.extBut _ _ c1 (hs₄ _ _ c4 (hs₃.extBut _ _ c2 (hs₂.extBut _ _ c3 (hs₁.extBut _ _ c1 x))))) ⟨oe, hs₅.extBut _ _ hez hoe, hce⟩
theorem pyNext_zipK_item {z TI TO i1 i2 l1 l2 : Addr} {k1 k2 : Nat} {xs ys : Array Value} {x y a b : Value} {Q : Option Value → Shared → Prop} (D : ZipApart z TI TO i1 i2 l1 l2)
    (hz : IsZip s.heap z TI TO .none) (hTI : IsPair s.heap TI (.ref i1) (.ref i2)) (hTO : IsPair s.heap TO a b)
    (h1 : u.it s.heap i1 l1 k1) (h2 : v.it s.heap i2 l2 k2) (hl1 : u.ct s.heap l1 xs) (hl2 : v.ct s.heap l2 ys) (hx : xs[k1]? = some x) (hy : ys[k2]? = some y)
    (hQ : ∀ h', IsZip h' z TI TO (rawInt s.heap.objs.size) → IsPair h' TO x y → u.it h' i1 l1 (k1 + 1) → v.it h' i2 l2 (k2 + 1) → IsPair h' s.heap.objs.size x y → h'.objs.size = s.heap.objs.size + 1 →
      (∀ c o, c ≠ z → c ≠ TO → c ≠ i1 → c ≠ i2 → s.heap.get? c = some o → h'.get? c = some o) → Q (some (.ref s.heap.objs.size)) { s with heap := h' }) :
    wpAny (model prog w) A (pyNext (.ref z)) Q E s := by
  have hT : s.TypeIs (.ref z) "zip" := ⟨_, hz, rfl⟩
  unfold pyNext
  exact wpAny_bind (wpAny_attempt (wpAny_callSpecial?_slot (name := Str.ofString "__next__") hT F.slot_zip_next
    (wpAny_call_entry F.slot_zip_next hT F.entry_zip_next
      (zipK_item D hz hTI hTO h1 h2 hl1 hl2 hx hy fun h' a1 a2 a3 a4 a5 a6 a7 => wpAny_pure (hQ h' a1 a2 a3 a4 a5 a6 a7)) (F.args_zip_next_1 _))))
theorem pyNext_zipK_end {z TI TO i1 i2 l1 l2 : Addr} {k1 k2 : Nat} {xs ys : Array Value} {a b : Value} {Q : Option Value → Shared → Prop} (hh : A.handled = none) (D : ZipApart z TI TO i1 i2 l1 l2)
    (hz : IsZip s.heap z TI TO .none) (hTI : IsPair s.heap TI (.ref i1) (.ref i2)) (hTO : IsPair s.heap TO a b)
    (h1 : u.it s.heap i1 l1 k1) (h2 : v.it s.heap i2 l2 k2) (hl1 : u.ct s.heap l1 xs) (hl2 : v.ct s.heap l2 ys) (hend : xs[k1]? = none ∨ ys[k2]? = none)
    (hQ : ∀ h', (∀ c o, c ≠ z → c ≠ TO → c ≠ i1 → c ≠ i2 → s.heap.get? c = some o → h'.get? c = some o) → Q none { s with heap := h' }) : wpAny (model prog w) A (pyNext (.ref z)) Q E s := by
  have hT : s.TypeIs (.ref z) "zip" := ⟨_, hz, rfl⟩
  unfold pyNext
  refine wpAny_bind (wpAny_attempt (wpAny_callSpecial?_slot (name := Str.ofString "__next__") hT F.slot_zip_next
    (wpAny_call_entry F.slot_zip_next hT F.entry_zip_next (zipK_end hh D hz hTI hTO h1 h2 hl1 hl2 hend fun h' e hk he => ?_) (F.args_zip_next_1 _))))
  obtain ⟨o, ho, hc⟩ := he
  refine wpAny_bind (wpAny_isInstance (T := "StopIteration") (b := true) ⟨o, ho, hc⟩ isSubtype_stop ?_)
  exact wpAny_pure (hQ _ hk)
end
/-! making one -/
def zk1 (u : Kd) (h : Heap) (a : Addr) : Heap := h.push (u.ob a)
def zk2 (u v : Kd) (h : Heap) (a b : Addr) : Heap := (zk1 u h a).push (v.ob b)
def zk3 (u v : Kd) (h : Heap) (a b : Addr) : Heap := (zk2 u v h a b).push { cls := .type "tuple", data := .seq #[.ref h.objs.size, .ref (zk1 u h a).objs.size] }
def zk4 (u v : Kd) (h : Heap) (a b : Addr) : Heap := (zk3 u v h a b).push { cls := .type "tuple", data := .seq #[.none, .none] }
def zk5 (u v : Kd) (h : Heap) (a b : Addr) : Heap := (zk4 u v h a b).push { cls := .type "zip", data := .fields #[.none, .bool false, .bool false, .ref (zk2 u v h a b).objs.size, .ref (zk3 u v h a b).objs.size] }
theorem meets_zipK (u v : Kd) (l1 l2 : Addr) (xs ys : Array Value) :
    Meets (Builtin.«zip.__new__» ⟨[.type "zip", .ref l1, .ref l2], []⟩) (fun _ R s => u.ct s.heap l1 xs ∧ v.ct s.heap l2 ys ∧
      R (.ok (.ret (.ref (zk4 u v s.heap l1 l2).objs.size))) { s with heap := zk5 u v s.heap l1 l2 }) :=
  .of_wp fun prog w A R s h => by
    obtain ⟨hp, g, d, tk, os⟩ := s; obtain ⟨hl1, hl2, h⟩ := h
    have hsub := sub_zip
    cases u with
    | l =>
      have hL1 : Heap.IsList (Shared.heap ⟨hp, g, d, tk, os⟩) l1 xs := hl1
      cases v with
      | l =>
        have hL2 : Heap.IsList (Shared.heap ⟨hp.push { cls := .type "list_iterator", data := .fields #[.ref l1, .int 0 0] }, g, d, tk, os⟩) l2 ys := Heap.IsList.push hl2 _
        wp_walk using wpAny_pyIter_list hL1, wpAny_pyIter_list hL2
        exact ⟨_, rfl, h⟩
      | t =>
        have hL2 : Heap.IsTuple (Shared.heap ⟨hp.push { cls := .type "list_iterator", data := .fields #[.ref l1, .int 0 0] }, g, d, tk, os⟩) l2 ys := Heap.IsTuple.push hl2 _
        wp_walk using wpAny_pyIter_list hL1, wpAny_pyIter_tuple hL2
        exact ⟨_, rfl, h⟩
    | t =>
      have hL1 : Heap.IsTuple (Shared.heap ⟨hp, g, d, tk, os⟩) l1 xs := hl1
      cases v with
      | l =>
        have hL2 : Heap.IsList (Shared.heap ⟨hp.push { cls := .type "tuple_iterator", data := .fields #[.ref l1, .int 0 0] }, g, d, tk, os⟩) l2 ys := Heap.IsList.push hl2 _
        wp_walk using wpAny_pyIter_tuple hL1, wpAny_pyIter_list hL2
        exact ⟨_, rfl, h⟩
      | t =>
        have hL2 : Heap.IsTuple (Shared.heap ⟨hp.push { cls := .type "tuple_iterator", data := .fields #[.ref l1, .int 0 0] }, g, d, tk, os⟩) l2 ys := Heap.IsTuple.push hl2 _
        wp_walk using wpAny_pyIter_tuple hL1, wpAny_pyIter_tuple hL2
        exact ⟨_, rfl, h⟩
section
variable {prog : Program} {w : World} {A : Around} {E : Value → Shared → Prop} {s : Shared} {u v : Kd}
theorem call_zipK {l1 l2 : Addr} {xs ys : Array Value} {Q : Value → Shared → Prop} (hl1 : u.ct s.heap l1 xs) (hl2 : v.ct s.heap l2 ys)
    (h : ∀ h', IsZip h' (s.heap.objs.size + 4) (s.heap.objs.size + 2) (s.heap.objs.size + 3) .none → IsPair h' (s.heap.objs.size + 2) (.ref s.heap.objs.size) (.ref (s.heap.objs.size + 1)) →
      IsPair h' (s.heap.objs.size + 3) .none .none → u.it h' s.heap.objs.size l1 0 → v.it h' (s.heap.objs.size + 1) l2 0 → h'.objs.size = s.heap.objs.size + 5 →
      (∀ c o, s.heap.get? c = some o → h'.get? c = some o) → Q (.ref (s.heap.objs.size + 4)) { s with heap := h' }) :
    wpAny (model prog w) A (call (.type "zip") [.ref l1, .ref l2]) Q E s := by
  refine callType_new F.called_zip (by decide) (F.typeCall_zip_2 _ _) (F.newCall_zip_2 _ _) (fun obj => F.args_object_init_3 obj _ _) F.entry_zip_new
    (meets_zipK u v l1 l2 xs ys) ⟨hl1, hl2, ?_⟩
  have z1 : (zk1 u s.heap l1).objs.size = s.heap.objs.size + 1 := Heap.size_push ..
  have z2 : (zk2 u v s.heap l1 l2).objs.size = s.heap.objs.size + 2 := (Heap.size_push ..).trans (by rw [z1])
  have z3 : (zk3 u v s.heap l1 l2).objs.size = s.heap.objs.size + 3 := (Heap.size_push ..).trans (by rw [z2])
  have z4 : (zk4 u v s.heap l1 l2).objs.size = s.heap.objs.size + 4 := (Heap.size_push ..).trans (by rw [z3])
  have z5 : (zk5 u v s.heap l1 l2).objs.size = s.heap.objs.size + 5 := (Heap.size_push ..).trans (by rw [z4])
  have g5 : (zk5 u v s.heap l1 l2).get? (zk4 u v s.heap l1 l2).objs.size = some _ := Heap.get?_push_size _ rfl
  have g4 : (zk5 u v s.heap l1 l2).get? (zk3 u v s.heap l1 l2).objs.size = some _ := Heap.get?_push_of_some _ (Heap.get?_push_size _ rfl)
  have g3 : (zk5 u v s.heap l1 l2).get? (zk2 u v s.heap l1 l2).objs.size = some _ := Heap.get?_push_of_some _ (Heap.get?_push_of_some _ (Heap.get?_push_size _ rfl))
  have g2 : (zk5 u v s.heap l1 l2).get? (zk1 u s.heap l1).objs.size = some _ := Heap.get?_push_of_some _ (Heap.get?_push_of_some _ (Heap.get?_push_of_some _ (Heap.get?_push_size _ rfl)))
  have g1 : (zk5 u v s.heap l1 l2).get? s.heap.objs.size = some _ := Heap.get?_push_of_some _ (Heap.get?_push_of_some _ (Heap.get?_push_of_some _ (Heap.get?_push_of_some _ (Heap.get?_push_size _ rfl))))
  show _ ∧ _
  rw [z2, z3, z4] at g5
  rw [z1, z2] at g3
  rw [z3] at g4
  rw [z1] at g2
  rw [z4]
  exact ⟨⟨_, g5, rfl⟩, h _ g5 g3 g4 ⟨_, g1, rfl, rfl⟩ ⟨_, g2, rfl, rfl⟩ z5 fun c o x =>
    Heap.get?_push_of_some _ (Heap.get?_push_of_some _ (Heap.get?_push_of_some _ (Heap.get?_push_of_some _ (Heap.get?_push_of_some _ x))))⟩
end
end Ev

/-! zip over lists and tuples alike: walked by the hand layer. -/
namespace Ev
open PySem PySem.Spec PyProof.Rows L2
def SqK (K : PySem.W.Frag) : Kd → Hp → Addr → List V → Prop
  | .l => SqL K
  | .t => SqT K
section
variable {X : Cx} {pins : List (Addr × Obj)} {σ : L2.St} {H : Hp} {s : Shared} {a : Addr} {xs ys : List V} {u : Kd}
theorem sqK_ok (I : Inv X pins σ H s) (h : SqK X.K u H a xs) : ∃ its : List Value, Vals xs its ∧ u.ct s.heap a its.toArray := by
  cases u with
  | l =>
    obtain ⟨its, rv, p, _⟩ := I.list h
    exact ⟨its, rv, p.isList⟩
  | t =>
    obtain ⟨its, rv, p, _⟩ := I.tuple h
    exact ⟨its, rv, p⟩
theorem sqK_inj (I : Inv X pins σ H s) (h : SqK X.K u H a xs) (h' : SqK X.K u H a ys) : xs = ys := by
  cases u with
  | l => exact I.list_inj h h'
  | t => exact I.tuple_inj h h'
end
theorem Kd.ct.lt {u : Kd} {h : Heap} {a : Addr} {xs : Array Value} (x : u.ct h a xs) : a < h.objs.size := by obtain ⟨_, e, _⟩ := x; exact Heap.lt_size e
def ItzK (K : PySem.W.Frag) (u v : Kd) (a b : Addr) : It :=
  ⟨fun i H => ∃ (xs ys : List V) (x y : V), SqK K u H a xs ∧ SqK K v H b ys ∧ xs[i]? = some x ∧ ys[i]? = some y,
    fun i H z H' => ∃ T x y, z = .ref T ∧ H T = none ∧ H' = upd H T (.tup [x, y]) ∧ (∀ xs, SqK K u H a xs → xs[i]? = some x) ∧ ∀ ys, SqK K v H b ys → ys[i]? = some y,
    fun i H => ∃ xs ys : List V, SqK K u H a xs ∧ SqK K v H b ys ∧ (xs.length ≤ i ∨ ys.length ≤ i)⟩
theorem turn_zipK {P : Program} {w : World} {K : PySem.W.Frag} {elts : List Expr} {kk : Nat} {tpos : Pos} {u v : Kd} {a b z TI TO i1 i2 : Addr} (D : ZipApart z TI TO i1 i2 a b) :
    Turn P w K (.Tuple elts kk tpos) (ItzK K u v a b) [z, TI, TO, i1, i2] z (fun i h => IsZip h z TI TO .none ∧ IsPair h TI (.ref i1) (.ref i2) ∧ (∃ x y, IsPair h TO x y) ∧ u.it h i1 a i ∧ v.it h i2 b i) where
  mem := by simp
  obj := fun i h st c hc => by
    obtain ⟨hz, hTI, ⟨x, y, hTO⟩, ⟨o1, e1, _, d1⟩, ⟨o2, e2, _, d2⟩⟩ := st
    have e' : c = z ∨ c = TI ∨ c = TO ∨ c = i1 ∨ c = i2 := by simpa using hc
    rcases e' with q | q | q | q | q
    · rw [q]; exact ⟨_, hz, fun v q => nomatch q⟩
    · rw [q]; exact ⟨_, hTI, fun v q => nomatch q⟩
    · rw [q]; exact ⟨_, hTO, fun v q => nomatch q⟩
    · rw [q]; exact ⟨o1, e1, fun v q => by rw [d1] at q; cases q⟩
    · rw [q]; exact ⟨o2, e2, fun v q => by rw [d2] at q; cases q⟩
  keep := fun i h h' st k => by
    obtain ⟨hz, hTI, ⟨x, y, hTO⟩, h1, h2⟩ := st
    exact ⟨k z (by simp) _ hz, k TI (by simp) _ hTI, ⟨x, y, k TO (by simp) _ hTO⟩, h1.at fun o q => k i1 (by simp) o q, h2.at fun o q => k i2 (by simp) o q⟩
  item := by
    intro X hP hw hK hc i pins s σ H E I hf st hg
    subst hP hw hK
    obtain ⟨hz, hTI, ⟨x0, y0, hTO⟩, h1, h2⟩ := st
    obtain ⟨xs, ys, x, y, hqx, hqy, hx, hy⟩ := hg
    obtain ⟨its, rv, p⟩ := sqK_ok I hqx
    obtain ⟨its2, rv2, p2⟩ := sqK_ok I hqy
    obtain ⟨m, hu, ru⟩ := rv.get hx
    obtain ⟨m2, hu2, ru2⟩ := rv2.get hy
    have hzl : z < s.heap.objs.size := Heap.lt_size hz
    refine pyNext_zipK_item D hz hTI hTO h1 h2 p p2 (x := m) (y := m2) (by simpa using hu) (by simpa using hu2) fun h' z' TO' h1' h2' hT hsz hk => ?_
    refine ⟨_, rfl, wpAny_letOwnedTupleGo_zip (s := { s with heap := h' }) z' fun h'' z'' sb => ?_⟩
    have hT2 : h''.get? s.heap.objs.size = some { cls := .type "tuple", data := .seq #[m, m2] } := (sb.2 _ (Nat.ne_of_gt hzl)).trans hT
    have new : ObjOk X.prog X.w (upd H s.heap.objs.size (.tup [x, y])) h'' s.heap.objs.size (.tup [x, y]) :=
      ⟨by show 2 ≤ sizeLine; decide, [m, m2], .cons ru (.cons ru2 .nil), ⟨_, hT2, rfl, _, rfl⟩⟩
    have I1 : Inv X pins σ (upd H s.heap.objs.size (.tup [x, y])) { s with heap := h'' } :=
      I.turnedNew (t' := s.toks) (ch := [z, TI, TO, i1, i2]) (fun c o hb q => (sb.2 c (fun q' => hb (by simp [q']))).trans (hk c o (fun q' => hb (by simp [q'])) (fun q' => hb (by simp [q'])) (fun q' => hb (by simp [q'])) (fun q' => hb (by simp [q'])) q)) hf (Nat.le_refl _) new
    refine ⟨.ref s.heap.objs.size, _, I1, rfl, ⟨_, x, y, rfl, I.hok.fresh (Nat.le_refl _), rfl, fun l hl => by rw [sqK_inj I hl hqx]; exact hx, fun l hl => by rw [sqK_inj I hl hqy]; exact hy⟩, ⟨z'', ?_, ⟨m, m2, ?_⟩, ?_, ?_⟩, fun c hcm => ?_⟩
    · exact (sb.2 _ D.TIz).trans (hk _ _ D.TIz D.TITO D.TIi1 D.TIi2 hTI)
    · exact (sb.2 _ D.TOz).trans TO'
    · exact h1'.at fun o q => (sb.2 _ D.i1z).trans q
    · exact h2'.at fun o q => (sb.2 _ D.i2z).trans q
    · have hlt : c < s.heap.objs.size := by
        have e' : c = z ∨ c = TI ∨ c = TO ∨ c = i1 ∨ c = i2 := by simpa using hcm
        rcases e' with q | q | q | q | q
        · rw [q]; exact hzl
        · rw [q]; exact Heap.lt_size hTI
        · rw [q]; exact Heap.lt_size hTO
        · rw [q]; obtain ⟨_, e1, _⟩ := h1; exact Heap.lt_size e1
        · rw [q]; obtain ⟨_, e2, _⟩ := h2; exact Heap.lt_size e2
      rw [upd_ne (Nat.ne_of_lt hlt)]
      exact (hf c hcm).1
  done := by
    intro X hP hw hK hc i pins s σ H E I hf st hg
    subst hP hw hK
    obtain ⟨hz, hTI, ⟨x0, y0, hTO⟩, h1, h2⟩ := st
    obtain ⟨xs, ys, hqx, hqy, hend⟩ := hg
    obtain ⟨its, rv, p⟩ := sqK_ok I hqx
    obtain ⟨its2, rv2, p2⟩ := sqK_ok I hqy
    have l1 := rv.length
    have l2 := rv2.length
    have he : its.toArray[i]? = none ∨ its2.toArray[i]? = none := by
      rcases hend with q | q
      · exact .inl (by simp; omega)
      · exact .inr (by simp; omega)
    exact pyNext_zipK_end (I.ok.hd hc) D hz hTI hTO h1 h2 p p2 he fun h' hk => ⟨rfl, I.turnedL (t' := s.toks) (ch := [z, TI, TO, i1, i2]) (fun c o hb q =>
      hk c o (fun q' => hb (by simp [q'])) (fun q' => hb (by simp [q'])) (fun q' => hb (by simp [q'])) (fun q' => hb (by simp [q'])) q) hf⟩
  self := fun A i s Q E st h => wpAny_pyIter_zip st.1 h
def iZipK (K : PySem.W.Frag) (ta : TA) : TI := fun σ H R => ta σ H fun vs H1 => ∃ (u v : Kd) (a b : Addr) (xs ys : List V), vs = [.ref a, .ref b] ∧ SqK K u H1 a xs ∧ SqK K v H1 b ys ∧ R (ItzK K u v a b) H1
theorem pi_zipK {X : Cx} {e e2 : Expr} {ta : TA} {p pos tpos : Pos} {elts : List Expr} {kk : Nat} (hg : Gl X "zip") (hm : X.mg "zip" = none) (ha : PA X [e, e2] ta)
    (hs : starEach [e, e2] X.env = (false, eval e X.env) :: starEach [e2] X.env := by rfl) (hpl : (backTo pos (starEach [e2] X.env)).any (·.1) = false := by rfl) :
    PI X (.Tuple elts kk tpos) (.Call (.Name "zip" p) [e, e2] [] pos) (iZipK X.K ta) := by
  refine ⟨fun pins s σ H R I h => ?_⟩
  refine Call_ (ld_blt I hg hm PyProof.Rows.boot_zip (PyProof.Rows.callWith_type1 (thn (ha.run pos pins s σ H _ I h) fun us s1 ⟨vs, H1, I1, r1, q1⟩ => ?_) hs hpl))
  obtain ⟨u, v, a, b, xs, ys, ex, hqx, hqy, q⟩ := q1
  subst ex
  cases r1 with
  | cons r rr =>
    cases rr with
    | cons r' rr =>
      cases rr
      cases r
      cases r'
      have fresh5 : ∀ c, c ∈ [s1.heap.objs.size + 4, s1.heap.objs.size + 2, s1.heap.objs.size + 3, s1.heap.objs.size, s1.heap.objs.size + 1] → FpOk X pins H1 c := fun c hcm => by
        have hle : s1.heap.objs.size ≤ c := by
          simp at hcm
          omega
        exact I1.fpOk hle (I1.hok.fresh hle)
      obtain ⟨its, rv, p1⟩ := sqK_ok I1 hqx
      obtain ⟨its2, rv2, p2⟩ := sqK_ok I1 hqy
      refine call_zipK p1 p2 fun h' hz hTI hTO h1 h2 hsz hk => wpAny_pyIter_zip hz ?_
      have I2 : Inv X pins σ H1 { s1 with heap := h' } := I1.kept (t' := s1.toks) hk
      exact ⟨s1.heap.objs.size + 4, [s1.heap.objs.size + 4, s1.heap.objs.size + 2, s1.heap.objs.size + 3, s1.heap.objs.size, s1.heap.objs.size + 1], _, _, H1, rfl, I2, turn_zipK (PySem.W.ktu_apart s1.heap.objs.size a b p1.lt p2.lt), ⟨hz, hTI, ⟨_, _, hTO⟩, h1, h2⟩, fresh5, q⟩
end Ev

/-! zip of three, over lists and tuples alike: walked by the hand layer. -/
namespace Ev
open PySem PySem.Spec PyProof.Rows L2
theorem drawK {prog : Program} {w : World} {A : Around} (hh : A.handled = none) (u : Kd) (it l : Addr) (hne : l ≠ it) (items : Array Value) :
    Draws prog w A.in1 it [it, l] items.size (fun i v => items[i]? = some v) (fun i h => u.it h it l i ∧ u.ct h l items) := by
  cases u with
  | l => exact Draws.list (A := A.in1) hh it l hne items
  | t => exact Draws.tuple (A := A.in1) hh it l hne items
theorem beginK (u : Kd) (l : Addr) (items : Array Value) : Begins (.ref l) (u.ob l) (fun h => u.ct h l items) := by
  cases u with
  | l => exact begins_list l items
  | t => exact begins_tuple l items
def Itz3 (K : PySem.W.Frag) (u v t : Kd) (a b c : Addr) : It :=
  ⟨fun i H => ∃ (xs ys zs : List V) (x y z : V), SqK K u H a xs ∧ SqK K v H b ys ∧ SqK K t H c zs ∧ xs[i]? = some x ∧ ys[i]? = some y ∧ zs[i]? = some z,
    fun i H r H' => ∃ T x y z, r = .ref T ∧ H T = none ∧ H' = upd H T (.tup [x, y, z]) ∧ (∀ xs, SqK K u H a xs → xs[i]? = some x) ∧ (∀ ys, SqK K v H b ys → ys[i]? = some y) ∧ ∀ zs, SqK K t H c zs → zs[i]? = some z,
    fun i H => ∃ xs ys zs : List V, SqK K u H a xs ∧ SqK K v H b ys ∧ SqK K t H c zs ∧ i ≤ xs.length ∧ i ≤ ys.length ∧ i ≤ zs.length ∧ (i = xs.length ∨ i = ys.length ∨ i = zs.length)⟩
theorem turn_zip3 {P : Program} {w : World} {K : PySem.W.Frag} {elts : List Expr} {kk : Nat} {tpos : Pos} {u v t : Kd} {a b c z TI TO i1 i2 i3 : Addr} (D : ZipSep3 z TI TO i1 i2 i3 [i1, a] [i2, b] [i3, c]) (n1 : a ≠ i1) (n2 : b ≠ i2) (n3 : c ≠ i3) :
    Turn P w K (.Tuple elts kk tpos) (Itz3 K u v t a b c) [z, TI, TO, i1, i2, i3] z (fun i h => IsZip h z TI TO .none ∧ IsTupOf3 h TI (.ref i1) (.ref i2) (.ref i3) ∧ (∃ x y q, IsTupOf3 h TO x y q) ∧ u.it h i1 a i ∧ v.it h i2 b i ∧ t.it h i3 c i) where
  mem := by simp
  obj := fun i h st e hc => by
    obtain ⟨hz, hTI, ⟨x, y, q, hTO⟩, ⟨o1, e1, _, d1⟩, ⟨o2, e2, _, d2⟩, ⟨o3, e3, _, d3⟩⟩ := st
    have e' : e = z ∨ e = TI ∨ e = TO ∨ e = i1 ∨ e = i2 ∨ e = i3 := by simpa using hc
    rcases e' with q | q | q | q | q | q
    · rw [q]; exact ⟨_, hz, fun v q => nomatch q⟩
    · rw [q]; exact ⟨_, hTI, fun v q => nomatch q⟩
    · rw [q]; exact ⟨_, hTO, fun v q => nomatch q⟩
    · rw [q]; exact ⟨o1, e1, fun v q => by rw [d1] at q; cases q⟩
    · rw [q]; exact ⟨o2, e2, fun v q => by rw [d2] at q; cases q⟩
    · rw [q]; exact ⟨o3, e3, fun v q => by rw [d3] at q; cases q⟩
  keep := fun i h h' st k => by
    obtain ⟨hz, hTI, ⟨x, y, q, hTO⟩, h1, h2, h3⟩ := st
    exact ⟨k z (by simp) _ hz, k TI (by simp) _ hTI, ⟨x, y, q, k TO (by simp) _ hTO⟩, h1.at fun o q => k i1 (by simp) o q, h2.at fun o q => k i2 (by simp) o q, h3.at fun o q => k i3 (by simp) o q⟩
  item := by
    intro X hP hw hK hc i pins s σ H E I hf st hg
    subst hP hw hK
    obtain ⟨hz, hTI, ⟨x0, y0, q0, hTO⟩, h1, h2, h3⟩ := st
    obtain ⟨xs, ys, zs, x, y, q, hqx, hqy, hqz, hx, hy, hzz⟩ := hg
    obtain ⟨its, rv, p⟩ := sqK_ok I hqx
    obtain ⟨its2, rv2, p2⟩ := sqK_ok I hqy
    obtain ⟨its3, rv3, p3⟩ := sqK_ok I hqz
    obtain ⟨m, hu, ru⟩ := rv.get hx
    obtain ⟨m2, hu2, ru2⟩ := rv2.get hy
    obtain ⟨m3, hu3, ru3⟩ := rv3.get hzz
    have hzl : z < s.heap.objs.size := Heap.lt_size hz
    have hh := I.ok.hd hc
    have lt1 : i < its.toArray.size := by have := (List.getElem?_eq_some_iff.mp hu).1; simpa using this
    have lt2 : i < its2.toArray.size := by have := (List.getElem?_eq_some_iff.mp hu2).1; simpa using this
    have lt3 : i < its3.toArray.size := by have := (List.getElem?_eq_some_iff.mp hu3).1; simpa using this
    refine wpAny_pyNext_zipD3_item D (drawK hh u i1 a n1 its.toArray) (drawK hh v i2 b n2 its2.toArray) (drawK hh t i3 c n3 its3.toArray) hz hTI hTO ⟨h1, p⟩ ⟨h2, p2⟩ ⟨h3, p3⟩ lt1 lt2 lt3 fun g1 g2 g3 h' tk y1 y2 y3 z' TO' s1' s2' s3' hT hsz hk => ?_
    have q1 : g1 = m := by
      have : its.toArray[i]? = some m := by simpa using hu
      exact Option.some.inj (y1.symm.trans this)
    have q2 : g2 = m2 := by
      have : its2.toArray[i]? = some m2 := by simpa using hu2
      exact Option.some.inj (y2.symm.trans this)
    have q3 : g3 = m3 := by
      have : its3.toArray[i]? = some m3 := by simpa using hu3
      exact Option.some.inj (y3.symm.trans this)
    subst q1 q2 q3
    refine ⟨_, rfl, wpAny_letOwnedTupleGo_zip (s := { s with heap := h', toks := tk }) z' fun h'' z'' sb => ?_⟩
    have hT2 : h''.get? s.heap.objs.size = some { cls := .type "tuple", data := .seq #[g1, g2, g3] } := (sb.2 _ (Nat.ne_of_gt hzl)).trans hT
    have new : ObjOk X.prog X.w (upd H s.heap.objs.size (.tup [x, y, q])) h'' s.heap.objs.size (.tup [x, y, q]) :=
      ⟨by show 3 ≤ sizeLine; decide, [g1, g2, g3], .cons ru (.cons ru2 (.cons ru3 .nil)), ⟨_, hT2, rfl, _, rfl⟩⟩
    have I1 : Inv X pins σ (upd H s.heap.objs.size (.tup [x, y, q])) { s with heap := h'', toks := tk } :=
      I.turnedNew (t' := tk) (ch := [z, TI, TO, i1, i2, i3]) (fun c o hb q => (sb.2 c (fun q' => hb (by simp [q']))).trans (hk c o (fun q' => hb (by simp [q'])) (fun q' => hb (by simp [q'])) (fun q' => hb (by simp [q'])) (fun q' => hb (by simp [q'])) (fun q' => hb (by simp [q'])) q)) hf (Nat.le_refl _) new
    refine ⟨.ref s.heap.objs.size, _, I1, rfl, ⟨_, x, y, q, rfl, I.hok.fresh (Nat.le_refl _), rfl, fun l hl => by rw [sqK_inj I hl hqx]; exact hx, fun l hl => by rw [sqK_inj I hl hqy]; exact hy, fun l hl => by rw [sqK_inj I hl hqz]; exact hzz⟩, ⟨z'', ?_, ⟨g1, g2, g3, ?_⟩, ?_, ?_, ?_⟩, fun e hcm => ?_⟩
    · exact (sb.2 _ D.TIz).trans (hk _ _ D.TIz D.TITO D.TIi1 D.TIi2 D.TIi3 hTI)
    · exact (sb.2 _ D.TOz).trans TO'
    · exact s1'.1.at fun o r => (sb.2 _ (fun e => D.zf1 (by simp [e]))).trans r
    · exact s2'.1.at fun o r => (sb.2 _ (fun e => D.zf2 (by simp [e]))).trans r
    · exact s3'.1.at fun o r => (sb.2 _ (fun e => D.zf3 (by simp [e]))).trans r
    · have hlt : e < s.heap.objs.size := by
        have e' : e = z ∨ e = TI ∨ e = TO ∨ e = i1 ∨ e = i2 ∨ e = i3 := by simpa using hcm
        rcases e' with q | q | q | q | q | q
        · rw [q]; exact hzl
        · rw [q]; exact Heap.lt_size hTI
        · rw [q]; exact Heap.lt_size hTO
        · rw [q]; obtain ⟨_, e1, _⟩ := h1; exact Heap.lt_size e1
        · rw [q]; obtain ⟨_, e2, _⟩ := h2; exact Heap.lt_size e2
        · rw [q]; obtain ⟨_, e3, _⟩ := h3; exact Heap.lt_size e3
      rw [upd_ne (Nat.ne_of_lt hlt)]
      exact (hf e hcm).1
  done := by
    intro X hP hw hK hc i pins s σ H E I hf st hg
    subst hP hw hK
    obtain ⟨hz, hTI, ⟨x0, y0, q0, hTO⟩, h1, h2, h3⟩ := st
    obtain ⟨xs, ys, zs, hqx, hqy, hqz, e1, e2, e3, hend⟩ := hg
    obtain ⟨its, rv, p⟩ := sqK_ok I hqx
    obtain ⟨its2, rv2, p2⟩ := sqK_ok I hqy
    obtain ⟨its3, rv3, p3⟩ := sqK_ok I hqz
    have l1 := rv.length
    have l2 := rv2.length
    have l3 := rv3.length
    have hh := I.ok.hd hc
    exact wpAny_pyNext_zipD3_end D (drawK hh u i1 a n1 its.toArray) (drawK hh v i2 b n2 its2.toArray) (drawK hh t i3 c n3 its3.toArray) hz hTI hTO ⟨h1, p⟩ ⟨h2, p2⟩ ⟨h3, p3⟩ (by simp; omega) (by simp; omega) (by simp; omega) (by simp; omega) fun h' tk hk => ⟨rfl, I.turnedL (t' := tk) (ch := [z, TI, TO, i1, i2, i3]) (fun c o hb q =>
      hk c o (fun q' => hb (by simp [q'])) (fun q' => hb (by simp [q'])) (fun q' => hb (by simp [q'])) (fun q' => hb (by simp [q'])) (fun q' => hb (by simp [q'])) q) hf⟩
  self := fun A i s Q E st h => wpAny_pyIter_zip st.1 h
def iZip3 (K : PySem.W.Frag) (ta : TA) : TI := fun σ H R => ta σ H fun vs H1 => ∃ (u v t : Kd) (a b c : Addr) (xs ys zs : List V), vs = [.ref a, .ref b, .ref c] ∧ SqK K u H1 a xs ∧ SqK K v H1 b ys ∧ SqK K t H1 c zs ∧ R (Itz3 K u v t a b c) H1
theorem pi_zip3 {X : Cx} {e e2 e3 : Expr} {ta : TA} {p pos tpos : Pos} {elts : List Expr} {kk : Nat} (hg : Gl X "zip") (hm : X.mg "zip" = none) (ha : PA X [e, e2, e3] ta)
    (hs : starEach [e, e2, e3] X.env = (false, eval e X.env) :: starEach [e2, e3] X.env := by rfl) (hpl : (backTo pos (starEach [e2, e3] X.env)).any (·.1) = false := by rfl) :
    PI X (.Tuple elts kk tpos) (.Call (.Name "zip" p) [e, e2, e3] [] pos) (iZip3 X.K ta) := by
  refine ⟨fun pins s σ H R I h => ?_⟩
  refine Call_ (ld_blt I hg hm PyProof.Rows.boot_zip (PyProof.Rows.callWith_type1 (thn (ha.run pos pins s σ H _ I h) fun us s1 ⟨vs, H1, I1, r1, q1⟩ => ?_) hs hpl))
  obtain ⟨u, v, t, a, b, c, xs, ys, zs, ex, hqx, hqy, hqz, q⟩ := q1
  subst ex
  cases r1 with
  | cons r rr =>
    cases rr with
    | cons r' rr =>
      cases rr with
      | cons r'' rr =>
        cases rr
        cases r
        cases r'
        cases r''
        have fresh6 : ∀ c, c ∈ [s1.heap.objs.size + 5, s1.heap.objs.size + 3, s1.heap.objs.size + 4, s1.heap.objs.size, s1.heap.objs.size + 1, s1.heap.objs.size + 2] → FpOk X pins H1 c := fun c hcm => by
          have hle : s1.heap.objs.size ≤ c := by
            simp at hcm
            omega
          exact I1.fpOk hle (I1.hok.fresh hle)
        obtain ⟨its, rv, p1⟩ := sqK_ok I1 hqx
        obtain ⟨its2, rv2, p2⟩ := sqK_ok I1 hqy
        obtain ⟨its3, rv3, p3⟩ := sqK_ok I1 hqz
        have la := p1.lt
        have lb := p2.lt
        have lc := p3.lt
        refine zip_begins3 (beginK u a its.toArray) (beginK v b its2.toArray) (beginK t c its3.toArray) p1 p2 p3 fun h' hz hTI hTO g1 g2 g3 hsz hk => wpAny_pyIter_zip hz ?_
        have I2 : Inv X pins σ H1 { s1 with heap := h' } := I1.kept (t' := s1.toks) hk
        have S : ZipSep3 (s1.heap.objs.size + 5) (s1.heap.objs.size + 3) (s1.heap.objs.size + 4) s1.heap.objs.size (s1.heap.objs.size + 1) (s1.heap.objs.size + 2) [s1.heap.objs.size, a] [s1.heap.objs.size + 1, b] [s1.heap.objs.size + 2, c] :=
          zip_sep3 (fp1 := [a]) (fp2 := [b]) (fp3 := [c]) (fun e he => by rw [List.mem_singleton.mp he]; exact la) (fun e he => by rw [List.mem_singleton.mp he]; exact lb) (fun e he => by rw [List.mem_singleton.mp he]; exact lc)
        refine ⟨s1.heap.objs.size + 5, [s1.heap.objs.size + 5, s1.heap.objs.size + 3, s1.heap.objs.size + 4, s1.heap.objs.size, s1.heap.objs.size + 1, s1.heap.objs.size + 2], _, _, H1, rfl, I2, turn_zip3 S (Nat.ne_of_lt la) (Nat.ne_of_lt (Nat.lt_succ_of_lt lb)) (Nat.ne_of_lt (Nat.lt_succ_of_lt (Nat.lt_succ_of_lt lc))), ⟨hz, hTI, ⟨_, _, _, hTO⟩, ⟨_, g1, ?_, ?_⟩, ⟨_, g2, ?_, ?_⟩, ⟨_, g3, ?_, ?_⟩⟩, fresh6, q⟩ <;> rfl
end Ev

/-! enumerate over a list or a tuple. -/
namespace Ev
open PySem PySem.Spec PyProof.Rows L2
open AutoSeq1 (wpAny_loadPart')
theorem meets_enumT (l : Addr) (items : Array Value) (n : Nat) (dct : Option Addr) (sl : Array (Option Value)) :
    Meets (Builtin.«enumerate.__new__» ⟨[.type "enumerate", .ref l], []⟩) (fun _ R s => s.heap.get? l = some { cls := .type "tuple", dict := dct, data := .seq items n, slots := sl } ∧
      R (.ok (.ret (.ref (s.heap.push { cls := .type "tuple_iterator", data := .fields #[.ref l, .int 0 0] }).objs.size)))
        { s with heap := (s.heap.push { cls := .type "tuple_iterator", data := .fields #[.ref l, .int 0 0] }).push { cls := .type "enumerate", data := .fields #[.none, .bool false, .ref s.heap.objs.size, rawInt 0, .none, .none] } }) :=
  .of_wp fun prog w A R s h => by
    obtain ⟨hp, g, d, tk, os⟩ := s; obtain ⟨hl, h⟩ := h
    have hsub := sub_enumerate
    have hL : Heap.IsTuple (Shared.heap ⟨hp, g, d, tk, os⟩) l items := ⟨_, hl, rfl, n, rfl⟩
    wp_walk using wpAny_loadPart' hl
    refine wpAny_stack_any fun st => wpAny_pure ?_
    split
    · rename_i c _ _ _ _ _
      cases (c == Value.type "enumerate")
      · wp_walk using wpAny_loadPart' hl, wpAny_pyIter_tuple hL
        exact ⟨_, rfl, h⟩
      · wp_walk using wpAny_loadPart' hl, wpAny_pyIter_tuple hL
        exact ⟨_, rfl, h⟩
    · wp_walk using wpAny_loadPart' hl, wpAny_pyIter_tuple hL
      exact ⟨_, rfl, h⟩
section
variable {prog : Program} {w : World} {A : Around} {E : Value → Shared → Prop} {s : Shared} {u : Kd}
theorem call_enumK {l : Addr} {items : Array Value} {Q : Value → Shared → Prop} (hL : u.ct s.heap l items)
    (h : ∀ h', IsEnum h' (s.heap.objs.size + 1) s.heap.objs.size 0 .none → u.it h' s.heap.objs.size l 0 → h'.objs.size = s.heap.objs.size + 2 →
      (∀ b o, s.heap.get? b = some o → h'.get? b = some o) → Q (.ref (s.heap.objs.size + 1)) { s with heap := h' }) :
    wpAny (model prog w) A (call (.type "enumerate") [.ref l]) Q E s := by
  cases u with
  | l => exact call_enumerate_list hL h
  | t =>
    obtain ⟨⟨c, dct, dt, sl⟩, hl, hc, n, hd⟩ := hL
    simp only at hc hd
    subst hc hd
    refine callType_new F.called_enumerate (by decide) (F.typeCall_enumerate_1 _) (F.newCall_enumerate_1 _) (fun obj => F.args_object_init_2 obj _) F.entry_enumerate_new
      (meets_enumT l items n dct sl) ⟨hl, ?_⟩
    have hz : (s.heap.push { cls := .type "tuple_iterator", data := .fields #[.ref l, .int 0 0] }).objs.size = s.heap.objs.size + 1 := Heap.size_push ..
    have g2 := Heap.get?_push_size (s.heap.push { cls := .type "tuple_iterator", data := .fields #[.ref l, .int 0 0] })
      (o := { cls := .type "enumerate", data := .fields #[.none, .bool false, .ref s.heap.objs.size, rawInt 0, .none, .none] }) rfl
    show _ ∧ _
    rw [hz] at g2 ⊢
    exact ⟨⟨_, g2, rfl⟩, h _ g2 ⟨_, Heap.get?_push_of_some _ (Heap.get?_push_size _ rfl), rfl, rfl⟩ ((Heap.size_push ..).trans (by rw [hz])) fun b o x => Heap.get?_push_of_some _ (Heap.get?_push_of_some _ x)⟩
theorem enumK_item {e it l : Addr} {i : Nat} {items : Array Value} {x old : Value} {Q : Value → Shared → Prop}
    (he : IsEnum s.heap e it i old) (hit : u.it s.heap it l i) (hl : u.ct s.heap l items) (hx : items[i]? = some x) (hne : e ≠ it)
    (hQ : ∀ h', IsEnumOut h' e it ((i : Int) + 1) x s.heap.objs.size → u.it h' it l (i + 1) →
      h'.get? s.heap.objs.size = some { cls := .type "tuple", data := .seq #[.int i s.toks, x] } → h'.objs.size = s.heap.objs.size + 1 →
      (∀ b o, b ≠ e → b ≠ it → s.heap.get? b = some o → h'.get? b = some o) → Q (.ref s.heap.objs.size) { s with heap := h', toks := s.toks + 1 }) :
    wpAny (model prog w) A (Builtin.«enumerate.__next__» ⟨[.ref e], []⟩) (fun fin s' => ∃ v, fin = .done (.ret v) ∧ Q v s') E s := by
  obtain ⟨hp, g, d, tk, os⟩ := s
  show wpAny _ _ (field (.ref e) 2 >>= _) _ _ _
  refine wpAny_bind (wpAny_field he rfl (x := .ref it) rfl ?_)
  refine wpAny_bind (nextK_item hit hl hx fun g₁ p₁ hs₁ => ?_)
  replace hs₁ : Heap.SameBut it hp g₁ := hs₁
  have he₁ : IsEnum g₁ e it i old := (hs₁.2 e hne).trans he
  show wpAny _ _ (field (.ref e) 3 >>= _) _ _ ⟨g₁, g, d, tk, os⟩
  refine wpAny_bind (wpAny_field he₁ rfl (x := rawInt i) rfl ?_)
  show wpAny _ _ (field (.ref e) 4 >>= _) _ _ ⟨g₁, g, d, tk, os⟩
  refine wpAny_bind (wpAny_field he₁ rfl (x := .none) rfl ?_)
  show wpAny _ _ (mkInt i >>= _) _ _ ⟨g₁, g, d, tk, os⟩
  refine wpAny_bind (wpAny_mkInt ?_)
  show wpAny _ _ (setField (.ref e) 3 (rawInt ((i : Int) + 1)) >>= _) _ _ ⟨g₁, g, d, tk + 1, os⟩
  refine wpAny_bind (wpAny_setField_rec he₁ (by simp) fun g₂ he₂ hs₂ => ?_)
  replace hs₂ : Heap.SameBut e g₁ g₂ := hs₂
  replace he₂ : IsEnum g₂ e it ((i : Int) + 1) old := he₂
  show wpAny _ _ (setField (.ref e) 4 .none >>= _) _ _ ⟨g₂, g, d, tk + 1, os⟩
  refine wpAny_bind (wpAny_setField_rec he₂ (by simp) fun g₃ he₃ hs₃ => ?_)
  replace hs₃ : Heap.SameBut e g₂ g₃ := hs₃
  replace he₃ : IsEnum g₃ e it ((i : Int) + 1) old := he₃
  show wpAny _ _ (newTuple [.int i tk, x] >>= _) _ _ ⟨g₃, g, d, tk + 1, os⟩
  refine wpAny_bind (wpAny_newTuple ?_)
  have he₄ : IsEnum (g₃.push { cls := .type "tuple", data := .seq #[.int i tk, x] }) e it ((i : Int) + 1) old := Heap.get?_push_of_some _ he₃
  generalize hh₄ : g₃.push { cls := .type "tuple", data := .seq #[.int i tk, x] } = g₄ at he₄
  have hsz : g₃.objs.size = hp.objs.size := by rw [hs₃.1, hs₂.1, hs₁.1]
  have hel : e < hp.objs.size := Heap.lt_size he
  have ht₄ : g₄.get? hp.objs.size = some { cls := .type "tuple", data := .seq #[.int i tk, x] } := by rw [← hh₄, ← hsz]; exact Heap.get?_push_size _ rfl
  have hz₄ : g₄.objs.size = hp.objs.size + 1 := by rw [← hh₄, Heap.size_push, hsz]
  have hk₄ : ∀ b o, b ≠ e → b ≠ it → hp.get? b = some o → g₄.get? b = some o := fun b o hbe hbi hb => by
    rw [← hh₄]; exact Heap.get?_push_of_some _ (hs₃.extBut b o hbe (hs₂.extBut b o hbe (hs₁.extBut b o hbi hb)))
  have p₄ : u.it g₄ it l (i + 1) := by
    rw [← hh₄]
    exact ((p₁.ext hs₂.extBut (Ne.symm hne)).ext hs₃.extBut (Ne.symm hne)).at fun o ho => Heap.get?_push_of_some _ ho
  show wpAny _ _ (Builtin.SmallTypes.ownedTupleIsFree (.ref e) >>= _) _ _ ⟨g₄, g, d, tk + 1, os⟩
  rw [hsz]
  clear hh₄ he₃ hs₃ he₂ hs₂ he₁ hs₁ p₁ hsz g₃ g₂ g₁
  refine wpAny_bind ?_
  · unfold Builtin.SmallTypes.ownedTupleIsFree
    refine wpAny_bind (wpAny_field he₄ rfl (x := .none) rfl (wpAny_pure ?_))
    simp only [if_true]
    refine wpAny_bind (wpAny_rule ?_)
    refine wpAny_bind (wpAny_field he₄ rfl (x := old) rfl ?_)
    refine wpAny_bind (wpAny_setField_rec he₄ (by simp) fun g₅ he₅ hs₅ => ?_)
    replace hs₅ : Heap.SameBut e g₄ g₅ := hs₅
    replace he₅ : IsEnum g₅ e it ((i : Int) + 1) x := he₅
    show wpAny _ _ (Builtin.SmallTypes.ownedTupleHandOut (.ref e) (.ref hp.objs.size) >>= _) _ _ ⟨g₅, g, d, tk + 1, os⟩
    refine wpAny_bind ?_
    · unfold Builtin.SmallTypes.ownedTupleHandOut
      refine wpAny_bind (wpAny_setField_rec he₅ (by simp) fun g₆ he₆ hs₆ => ?_)
      replace hs₆ : Heap.SameBut e g₅ g₆ := hs₆
      replace he₆ : IsEnumOut g₆ e it ((i : Int) + 1) x hp.objs.size := he₆
      refine wpAny_setField_rec he₆ (by simp) fun g₇ he₇ hs₇ => ?_
      replace hs₇ : Heap.SameBut e g₆ g₇ := hs₇
      replace he₇ : IsEnumOut g₇ e it ((i : Int) + 1) x hp.objs.size := he₇
      refine wpAny_bind (wpAny_letGo (wpAny_pure ⟨_, rfl, hQ g₇ he₇ ?_ ?_ ?_ ?_⟩))
      · exact ((p₄.ext hs₅.extBut (Ne.symm hne)).ext hs₆.extBut (Ne.symm hne)).ext hs₇.extBut (Ne.symm hne)
      · exact hs₇.extBut _ _ (Nat.ne_of_gt hel) (hs₆.extBut _ _ (Nat.ne_of_gt hel) (hs₅.extBut _ _ (Nat.ne_of_gt hel) ht₄))
      · rw [hs₇.1, hs₆.1, hs₅.1, hz₄]
      · exact fun b o hbe hbi hb => hs₇.extBut b o hbe (hs₆.extBut b o hbe (hs₅.extBut b o hbe (hk₄ b o hbe hbi hb)))
theorem pyNext_enumK_item {e it l : Addr} {i : Nat} {items : Array Value} {x old : Value} {Q : Option Value → Shared → Prop}
    (he : IsEnum s.heap e it i old) (hit : u.it s.heap it l i) (hl : u.ct s.heap l items) (hx : items[i]? = some x) (hne : e ≠ it)
    (hQ : ∀ h', IsEnumOut h' e it ((i : Int) + 1) x s.heap.objs.size → u.it h' it l (i + 1) →
      h'.get? s.heap.objs.size = some { cls := .type "tuple", data := .seq #[.int i s.toks, x] } → h'.objs.size = s.heap.objs.size + 1 →
      (∀ b o, b ≠ e → b ≠ it → s.heap.get? b = some o → h'.get? b = some o) → Q (some (.ref s.heap.objs.size)) { s with heap := h', toks := s.toks + 1 }) :
    wpAny (model prog w) A (pyNext (.ref e)) Q E s := by
  have hT : s.TypeIs (.ref e) "enumerate" := ⟨_, he, rfl⟩
  unfold pyNext
  exact wpAny_bind (wpAny_attempt (wpAny_callSpecial?_slot (name := Str.ofString "__next__") hT F.slot_enumerate_next
    (wpAny_call_entry F.slot_enumerate_next hT F.entry_enumerate_next
      (enumK_item he hit hl hx hne fun h' a b c d k => wpAny_pure (hQ h' a b c d k)) (F.args_enumerate_next_1 _))))
theorem pyNext_enumK_end {e it l : Addr} {i : Nat} {items : Array Value} {old : Value} {Q : Option Value → Shared → Prop} (hh : A.handled = none)
    (he : IsEnum s.heap e it i old) (hit : u.it s.heap it l i) (hl : u.ct s.heap l items) (hx : items[i]? = none)
    (hQ : ∀ h', Heap.ExtBut it s.heap h' → Q none { s with heap := h' }) : wpAny (model prog w) A (pyNext (.ref e)) Q E s := by
  have hT : s.TypeIs (.ref e) "enumerate" := ⟨_, he, rfl⟩
  unfold pyNext
  refine wpAny_bind (wpAny_attempt (wpAny_callSpecial?_slot (name := Str.ofString "__next__") hT F.slot_enumerate_next
    (wpAny_call_entry F.slot_enumerate_next hT F.entry_enumerate_next ?_ (F.args_enumerate_next_1 _))))
  show wpAny _ _ (field (.ref e) 2 >>= _) _ _ _
  refine wpAny_bind (wpAny_field he rfl (x := .ref it) rfl ?_)
  refine wpAny_bind (nextK_end hh hit hl hx fun h' x he' hx' => ?_)
  obtain ⟨o, ho, hc⟩ := hx'
  refine wpAny_bind (wpAny_isInstance (T := "StopIteration") (b := true) ⟨o, ho, hc⟩ isSubtype_stop ?_)
  exact wpAny_pure (hQ _ he')
end
def IteK (K : PySem.W.Frag) (u : Kd) (a : Addr) : It :=
  ⟨fun i H => ∃ (xs : List V) (x : V), SqK K u H a xs ∧ xs[i]? = some x, fun i H v H' => ∃ T x, v = .ref T ∧ H T = none ∧ H' = upd H T (.tup [.int (i : Nat), x]) ∧ ∀ xs, SqK K u H a xs → xs[i]? = some x, fun i H => ∃ xs : List V, SqK K u H a xs ∧ xs.length ≤ i⟩
theorem turn_enumK {P : Program} {w : World} {K : PySem.W.Frag} {elts : List Expr} {kk : Nat} {tpos : Pos} (u : Kd) (a e it : Addr) :
    Turn P w K (.Tuple elts kk tpos) (IteK K u a) [e, it] e (fun i h => (∃ old, IsEnum h e it ((i : Nat) : Int) old) ∧ u.it h it a i ∧ e ≠ it) where
  mem := by simp
  obj := fun i h st b hb => by
    obtain ⟨⟨old, he⟩, ⟨o, ho, hc, hd⟩, _⟩ := st
    have e' : b = e ∨ b = it := by simpa using hb
    rcases e' with z | z
    · rw [z]; exact ⟨_, he, fun v q => nomatch q⟩
    · rw [z]; exact ⟨o, ho, fun v q => by rw [hd] at q; cases q⟩
  keep := fun i h h' st k => let ⟨⟨old, he⟩, hi, hne⟩ := st; ⟨⟨old, k e (by simp) _ he⟩, hi.at fun o q => k it (by simp) o q, hne⟩
  item := by
    intro X hP hw hK hc i pins s σ H E I hf st hg
    subst hP hw hK
    obtain ⟨⟨old, he⟩, hit, hne⟩ := st
    obtain ⟨xs, x, hq, hx⟩ := hg
    obtain ⟨its, rv, p⟩ := sqK_ok I hq
    obtain ⟨m, hu, ru⟩ := rv.get hx
    have hel : e < s.heap.objs.size := Heap.lt_size he
    have hil : it < s.heap.objs.size := by obtain ⟨_, q, _⟩ := hit; exact Heap.lt_size q
    refine pyNext_enumK_item he hit p (x := m) (by simpa using hu) hne fun h' ho hit' hT hsz hk => ?_
    refine ⟨_, rfl, wpAny_letOwnedTupleGo_enum (s := { s with heap := h', toks := s.toks + 1 }) ho fun h'' he' sb => ?_⟩
    have hT2 : h''.get? s.heap.objs.size = some { cls := .type "tuple", data := .seq #[.int i s.toks, m] } := (sb.2 _ (Nat.ne_of_gt hel)).trans hT
    have new : ObjOk X.prog X.w (upd H s.heap.objs.size (.tup [.int (i : Nat), x])) h'' s.heap.objs.size (.tup [.int (i : Nat), x]) :=
      ⟨by show 2 ≤ sizeLine; decide, [.int i s.toks, m], .cons ⟨_, rfl⟩ (.cons ru .nil), ⟨_, hT2, rfl, _, rfl⟩⟩
    have I1 : Inv X pins σ (upd H s.heap.objs.size (.tup [.int (i : Nat), x])) { s with heap := h'', toks := s.toks + 1 } :=
      I.turnedNew (ch := [e, it]) (fun b ob hb q => (sb.2 b (fun z => hb (by simp [z]))).trans (hk b ob (fun z => hb (by simp [z])) (fun z => hb (by simp [z])) q)) hf (Nat.le_refl _) new
    refine ⟨.ref s.heap.objs.size, _, I1, rfl, ⟨_, x, rfl, I.hok.fresh (Nat.le_refl _), rfl, fun ys hy => by rw [sqK_inj I hy hq]; exact hx⟩, ⟨⟨m, ?_⟩, hit'.at fun o q => (sb.2 it (Ne.symm hne)).trans q, hne⟩, fun b hb => ?_⟩
    · have e1 : ((i + 1 : Nat) : Int) = (i : Int) + 1 := by omega
      rw [e1]; exact he'
    · have hb' : b < s.heap.objs.size := by
        have e' : b = e ∨ b = it := by simpa using hb
        rcases e' with z | z
        · rw [z]; exact hel
        · rw [z]; exact hil
      rw [upd_ne (Nat.ne_of_lt hb')]
      exact (hf b hb).1
  done := by
    intro X hP hw hK hc i pins s σ H E I hf st hg
    subst hP hw hK
    obtain ⟨⟨old, he⟩, hit, hne⟩ := st
    obtain ⟨xs, hq, hx⟩ := hg
    obtain ⟨its, rv, p⟩ := sqK_ok I hq
    obtain ⟨f0, f1, f2, f3, f4, f5⟩ := hf it (by simp)
    have hl := rv.length
    exact pyNext_enumK_end (I.ok.hd hc) he hit p (by simp; omega) fun h' eb => ⟨rfl, I.turned (t' := s.toks) (fun b o hb q => eb b o hb q) f0 f1 f3 f4 f5⟩
  self := fun A i s Q E st h => let ⟨⟨_, he⟩, _⟩ := st; wpAny_pyIter_enum he h
def iEnumK (K : PySem.W.Frag) (ta : TA) : TI := fun σ H R => ta σ H fun vs H1 => ∃ (u : Kd) (a : Addr) (xs : List V), vs = [.ref a] ∧ SqK K u H1 a xs ∧ R (IteK K u a) H1
theorem pi_enumK {X : Cx} {e : Expr} {ta : TA} {p pos tpos : Pos} {elts : List Expr} {kk : Nat} (hg : Gl X "enumerate") (hm : X.mg "enumerate" = none) (ha : PA X [e] ta) (hs : starEach [e] X.env = [(false, eval e X.env)] := by rfl) :
    PI X (.Tuple elts kk tpos) (.Call (.Name "enumerate" p) [e] [] pos) (iEnumK X.K ta) := by
  refine ⟨fun pins s σ H R I h => ?_⟩
  refine Call_ (ld_blt I hg hm boot_enumerate (PyProof.Rows.callWith_type1 (thn (ha.run pos pins s σ H _ I h) fun us s1 ⟨vs, H1, I1, r1, q1⟩ => ?_) hs rfl))
  obtain ⟨u, a, xs, ex, hq, q⟩ := q1
  subst ex
  cases r1 with
  | cons r rr =>
    cases rr
    cases r
    obtain ⟨its, rv, p'⟩ := sqK_ok I1 hq
    refine call_enumK p' fun h' he hit hsz hk => wpAny_pyIter_enum he ?_
    have I2 : Inv X pins σ H1 { s1 with heap := h' } := I1.kept (t' := s1.toks) hk
    refine ⟨s1.heap.objs.size + 1, [s1.heap.objs.size + 1, s1.heap.objs.size], _, _, H1, rfl, I2, turn_enumK u a (s1.heap.objs.size + 1) s1.heap.objs.size, ⟨⟨.none, he⟩, hit, Nat.succ_ne_self _⟩, fun b hb => ?_, q⟩
    have hle : s1.heap.objs.size ≤ b := by
      have e' : b = s1.heap.objs.size + 1 ∨ b = s1.heap.objs.size := by simpa using hb
      rcases e' with z | z
      · rw [z]; exact Nat.le_add_right _ _
      · rw [z]; exact Nat.le_refl _
    exact I1.fpOk hle (I1.hok.fresh hle)
end Ev

/-! A verified evaluator over the hand layer: a tuple so many times, to two thousand. -/
namespace Ev
open PySem PySem.Spec PyProof.Rows L2
def rTm (K : PySem.W.Frag) : R2 := fun x y H Q => ∃ l k xs, x = .ref l ∧ y = .int k ∧ SqT K H l xs ∧ xs ≠ [] ∧ 2 ≤ k ∧ k ≤ 2000 ∧ xs.length ≤ 1000 ∧ ∀ p, H p = none → Q (.ref p) (upd H p (.tup (List.replicate k.toNat xs).flatten))
theorem op_tm {X : Cx} : OpR X (binaryOp .Mult) (rTm X.K) := by
  rintro pins s σ H x y v u Q I rx ry ⟨l, k, xs, rfl, rfl, hT, hne, h1, h2, hz, q⟩
  cases rx
  obtain ⟨t, rfl⟩ := ry
  obtain ⟨its, r, ⟨⟨cls, dd, data, sl⟩, ho, hc, n, hd⟩, hs⟩ := I.tuple hT
  simp only at hc hd
  subst hc hd
  have hle : its.length = xs.length := r.length.symm
  have hpos : 0 < its.length := by
    rw [hle]
    exact List.length_pos_iff.mpr hne
  have hsz : its.toArray.size = its.length := List.size_toArray ..
  have hi : its.toArray.isEmpty = false := by
    rw [Bool.eq_false_iff]
    intro e
    have e := Array.isEmpty_iff_size_eq_zero.mp e
    omega
  have a2 : its.length * k.toNat ≤ 1000 * 2000 := Nat.mul_le_mul (by omega) (by omega)
  have a3 : ((its.toArray.size : Nat) : Int) * k ≤ 2000000 := by
    rw [hsz, show k = (k.toNat : Int) by omega, ← Int.natCast_mul]
    omega
  have len : (List.replicate k.toNat its).flatten.length ≤ 2000000 := by
    rw [PyProof.Rows.lm_len_rep_flat, Nat.mul_comm]
    exact a2
  have len2 : (List.replicate k.toNat xs).flatten.length ≤ 2000000 := by
    rw [PyProof.Rows.lm_len_rep_flat, Nat.mul_comm, ← hle]
    exact a2
  have c0 : (decide (k < -(2 ^ 63)) || decide (k ≥ 2 ^ 63)) = false := by
    rw [Bool.or_eq_false_iff]
    exact ⟨decide_eq_false (by omega), decide_eq_false (by omega)⟩
  have c1 : (its.toArray.isEmpty || k == 1) = false := by
    rw [hi, Bool.false_or]
    exact beq_eq_false_iff_ne.mpr (by omega)
  have c2 : (decide (k ≤ 0) || its.toArray.isEmpty) = false := by
    rw [hi, Bool.or_false]
    exact decide_eq_false (by omega)
  have c4 : Builtin.Tuple.tupleTooMany (((its.toArray.size : Nat) : Int) * k) = false := by
    unfold Builtin.Tuple.tupleTooMany
    rw [sizeLine_eq]
    exact decide_eq_false (by omega)
  have c5 : (List.foldl (fun x1 x2 => x1 ++ x2) #[] (List.replicate k.toNat its.toArray)).size ≤ sizeLine := by
    rw [size_rep, List.size_toArray, sizeLine_eq]
    omega
  refine wpAny_binaryOp_repeat_ref (T := "tuple") (U := "int") (by decide) ⟨_, ho, rfl⟩ (fun s' => typeIs_int s' k t) noFill_tuple_mul F.fills_int_mul F.slot_int_rmul repeat_tuple F.slot_int_index.lookup
    (call_meets F.slot_int_rmul (typeIs_int s k t) F.entry_int_rmul (F.args_int_rmul_2 _ _) (int_rmul_tuple k t l its.toArray n dd sl)
      ⟨ho, rfl, ⟨_, ho, rfl⟩, call_meets F.slot_tuple_mul ⟨_, ho, rfl⟩ F.entry_tuple_mul (F.args_tuple_mul_2 _ _) (tuple_mulW l its.toArray n dd sl k t c0 c1 c2 (by omega) c4 c5) ⟨ho, ?_⟩⟩)
  rw [size_rep]
  refine ⟨.ref s.heap.objs.size, _, I.laid (t' := s.toks) (o := .tup (List.replicate k.toNat xs).flatten) (fun b ob q => Heap.get?_push_of_some _ q) (Nat.le_refl _) ⟨by rw [sizeLine_eq]; omega, _, r.rep k.toNat, IsTup.new _ _⟩, rfl, q _ (I.hok.fresh (Nat.le_refl _))⟩
theorem meets_tm0 (l : Addr) (items : Array Value) (n : Nat) (dd : Option Addr) (sl : Array (Option Value)) (u : Tok) (c1 : (items.isEmpty || (0 : Int) == 1) = false) :
    Meets (Builtin.«tuple.__mul__» ⟨[.ref l, .int 0 u], []⟩) (fun _ R s => s.heap.get? l = some { cls := .type "tuple", dict := dd, data := .seq items n, slots := sl } ∧
      R (.ok (.ret (Value.ref s.heap.objs.size))) { s with heap := s.heap.push { cls := Value.type "tuple", data := Data.seq #[] }, toks := s.toks }) :=
  .of_wp fun prog w A R s h => by
    obtain ⟨hp, g, d, tk, os⟩ := s
    obtain ⟨hl, h⟩ := h
    have f1 := AutoSeq1.idx_int
    have c2 : (decide ((0 : Int) ≤ 0) || items.isEmpty) = true := rfl
    have c0 : (decide ((0 : Int) < -(2 ^ 63)) || decide ((0 : Int) ≥ 2 ^ 63)) = false := by decide
    wp_walk using wpAny_loadPart' hl
    repeat (first
      | (refine wpAny_ite_false (decide_eq_false (by rw [c0]; exact Bool.false_ne_true)) ?_; wp_walk using wpAny_loadPart' hl)
      | (refine wpAny_ite_false (decide_eq_false (by rw [c1]; exact Bool.false_ne_true)) ?_; wp_walk using wpAny_loadPart' hl)
      | (refine wpAny_ite_true (decide_eq_true (by rw [c2])) ?_; wp_walk using wpAny_loadPart' hl))
    exact ⟨_, rfl, h⟩
def rTm0 (K : PySem.W.Frag) : R2 := fun x y H Q => ∃ l xs, x = .ref l ∧ y = .int 0 ∧ SqT K H l xs ∧ xs ≠ [] ∧ ∀ p, H p = none → Q (.ref p) (upd H p (.tup []))
theorem op_tm0 {X : Cx} : OpR X (binaryOp .Mult) (rTm0 X.K) := by
  rintro pins s σ H x y v u Q I rx ry ⟨l, xs, rfl, rfl, hT, hne, q⟩
  cases rx
  obtain ⟨t, rfl⟩ := ry
  obtain ⟨its, r, ⟨⟨cls, dd, data, sl⟩, ho, hc, n, hd⟩, hs⟩ := I.tuple hT
  simp only at hc hd
  subst hc hd
  have hpos : 0 < its.length := by
    rw [← r.length]
    exact List.length_pos_iff.mpr hne
  have hsz : its.toArray.size = its.length := List.size_toArray ..
  have hi : its.toArray.isEmpty = false := by
    rw [Bool.eq_false_iff]
    intro e
    have e := Array.isEmpty_iff_size_eq_zero.mp e
    omega
  have c1 : (its.toArray.isEmpty || (0 : Int) == 1) = false := by rw [hi]; rfl
  refine wpAny_binaryOp_repeat_ref (T := "tuple") (U := "int") (by decide) ⟨_, ho, rfl⟩ (fun s' => typeIs_int s' 0 t) noFill_tuple_mul F.fills_int_mul F.slot_int_rmul repeat_tuple F.slot_int_index.lookup
    (call_meets F.slot_int_rmul (typeIs_int s 0 t) F.entry_int_rmul (F.args_int_rmul_2 _ _) (int_rmul_tuple 0 t l its.toArray n dd sl)
      ⟨ho, rfl, ⟨_, ho, rfl⟩, call_meets F.slot_tuple_mul ⟨_, ho, rfl⟩ F.entry_tuple_mul (F.args_tuple_mul_2 _ _) (meets_tm0 l its.toArray n dd sl t c1) ⟨ho, ?_⟩⟩)
  refine ⟨.ref s.heap.objs.size, _, I.laid (t' := s.toks) (o := .tup []) (fun b ob q => Heap.get?_push_of_some _ q) (Nat.le_refl _) ⟨by rw [sizeLine_eq]; decide, [], .nil, IsTup.new _ _⟩, rfl, q _ (I.hok.fresh (Nat.le_refl _))⟩
end Ev

/-! A verified evaluator over the hand layer, part 4: operators and built-ins. -/
namespace Ev
open PySem L2

section
variable {K : PySem.W.Frag} {F F' : Addr → Prop} {H H' : Hp} {σ : L2.St} {env env' : Nv}
theorem Same.sqT (s : Same H H') {p : Addr} {xs : List V} (h : SqT K H p xs) : SqT K H' p xs := by
  rcases h with (h | ⟨o, h⟩) | h
  · exact .inl (.inl (s _ _ h))
  · exact .inl (.inr ⟨o, s _ _ h⟩)
  · exact .inr h
theorem Same.cst (s : Same H H') {p : Addr} {xs : List V} (h : CstL K H p xs) : CstL K H' p xs := by
  rcases h with ⟨o, h⟩ | h
  · exact .inl ⟨o, s _ _ h⟩
  · exact .inr h
mutual
theorem Rp.same (s : Same H H') : ∀ {v : V} {d : D}, Rp K F H v d → Rp K F H' v d
  | _, _, .non => .non
  | _, _, .bl b => .bl b
  | _, _, .int b => .int b
  | _, _, .str b => .str b
  | _, _, .tup h z r => .tup (Same.sqT s h) z (RpL.same s r)
  | _, _, .lst f h z r => .lst f (s _ _ h) z (RpL.same s r)
  | _, _, .dct f h r e hs => .dct f (s _ _ h) (RpL.same s r) e hs
  | _, _, .kd h hs hk => .kd (s _ _ h) hs hk
  | _, _, .err h g => .err (s _ _ h) g
  | _, _, .errF h1 h2 nd hl g xf no r => .errF (s _ _ h1) (s _ _ h2) nd hl g xf no (RpL.same s r)
  | _, _, .fn => .fn
  | _, _, .dl h1 h2 c n z r => .dl (Same.sqT s h1) (s _ _ h2) c n z (RpL.same s r)
  | _, _, .cst h z r => .cst (Same.cst s h) z (RpL.same s r)
theorem RpL.same (s : Same H H') : ∀ {vs : List V} {ds : List D}, RpL K F H vs ds → RpL K F H' vs ds
  | _, _, .nil => .nil
  | _, _, .cons h r => .cons (Rp.same s h) (RpL.same s r)
end
def R1 (K : PySem.W.Frag) (F : Addr → Prop) (H H' : Hp) : Res → V → Prop
  | .val d, v => Rp K F H' v d
  | .fr l, v => ∃ p xs, v = .ref p ∧ H p = none ∧ H' p = some (.lst xs) ∧ xs.length ≤ sizeLine ∧ RpL K F H' xs l
  | .pl _, _ => False
theorem fin1 {r : Res} {v : V} (R : ER K F H σ env) (s : Same H H') (h : R1 K F H H' r v) : ER K F H' σ env ∧ Stp (wd σ env F H) (wd σ env F H') ∧ RR K F H' σ env r v ∧ Prov (wd σ env F H) r v := by
  refine ⟨R.same s, Same.stp s, ?_, ?_⟩
  · cases r with
    | val d => exact h
    | pl _ => exact h.elim
    | fr l =>
      obtain ⟨p, xs, e, hn, h1, z, r⟩ := h
      refine ⟨p, xs, e, h1, z, r, fun q => ?_, fun q => ?_, fun q => ?_⟩
      · obtain ⟨o, q⟩ := R.tr p q
        rw [hn] at q; cases q
      · obtain ⟨ys, q⟩ := R.ok.ol p q
        have q : H p = some (.lst ys) := q
        rw [hn] at q; cases q
      · obtain ⟨ys, q⟩ := R.ok.ll p q
        have q : H p = some (.lst ys) := q
        rw [hn] at q; cases q
  · cases r with
    | val d => trivial
    | pl _ => trivial
    | fr l =>
      obtain ⟨p, xs, e, hn, h1, z, r⟩ := h
      intro a ea
      rw [e] at ea; cases ea
      exact .inr hn
theorem R1.pure {d : D} {v : V} (h : Rp K F H v d) : R1 K F H H (.val d) v := h
theorem R1.int (i : Int) : R1 K F H H (.val (.int i)) (.int i) := Rp.int i
theorem R1.bl (i : Bool) : R1 K F H H (.val (.bool i)) (.bl i) := Rp.bl i
theorem R1.newL {p : Addr} {xs : List V} {l : List D} (hn : H p = none) (z : xs.length ≤ sizeLine) (r : RpL K F H xs l) : R1 K F H (upd H p (.lst xs)) (.fr l) (.ref p) :=
  ⟨p, xs, rfl, hn, upd_same, z, RpL.same (same_upd hn) r⟩
theorem R1.newT {p : Addr} {xs : List V} {l : List D} (hn : H p = none) (z : xs.length ≤ sizeLine) (r : RpL K F H xs l) : R1 K F H (upd H p (.tup xs)) (.val (.tuple l)) (.ref p) :=
  Rp.tup (.of upd_same) z (RpL.same (same_upd hn) r)
theorem big_eq : big = sizeLine := by rw [sizeLine_eq]; rfl
end

def K1 (K : PySem.W.Frag) (F : Addr → Prop) (H : Hp) (r : Res) (Q : VK) : Prop := ∀ v H', Same H H' → R1 K F H H' r v → Q v H'
theorem K1.now {K : PySem.W.Frag} {F : Addr → Prop} {H : Hp} {r : Res} {Q : VK} {v : V} (h : K1 K F H r Q) (x : R1 K F H H r v) : Q v H := h v H (Same.refl H) x

section
variable {X : Cx}
def rCatL (K : PySem.W.Frag) : R2 := fun x y H Q => ∃ l b xs zs, x = .ref l ∧ y = .ref b ∧ SqL K H l xs ∧ SqL K H b zs ∧ xs.length + zs.length ≤ sizeLine ∧ ∀ p, H p = none → Q (.ref p) (upd H p (.lst (xs ++ zs)))
theorem op_catL : OpR X (binaryOp .Add) (rCatL X.K) := by
  intro pins s σ H x y v u Q I rx ry h
  obtain ⟨l, b, xs, zs, rfl, rfl, hH, hB, hz, q⟩ := h
  cases rx
  cases ry
  obtain ⟨its, r, ⟨o, n, e, ec, _, ed⟩, z⟩ := I.list hH
  obtain ⟨its2, r2, ⟨o2, n2, e2, ec2, _, ed2⟩, z2⟩ := I.list hB
  obtain ⟨cls, dd, data, sl⟩ := o
  obtain ⟨cls2, dd2, data2, sl2⟩ := o2
  simp only at ec ed ec2 ed2
  subst ec ed ec2 ed2
  have hl := r.length
  have hl2 := r2.length
  refine PySem.concat_meets ⟨_, e, rfl⟩ ⟨_, e2, rfl⟩ PySem.noFill_list_add PySem.seq_list_add PySem.F.slot_list_add PySem.F.entry_list_add (PySem.F.args_list_add_2 _ _) (PyProof.Rows.list_addW l b its.toArray its2.toArray n n2 dd dd2 sl sl2 (by simp only [List.size_toArray]; omega)) ⟨e, e2, ?_⟩
  have ea : its.toArray ++ its2.toArray = (its ++ its2).toArray := by simp
  rw [ea]
  exact ⟨.ref _, _, I.lnew (t' := s.toks) (r.append r2) (by rw [List.length_append]; omega), rfl, q _ I.fresh⟩
def CMulE (i j : Int) : Prop := mulOk i j = true
theorem CMulE.ok {i j : Int} (h : CMulE i j) : IntMulOk i j := by
  have h : mulOk i j = true := h
  unfold mulOk at h
  simp only [Bool.or_eq_true, decide_eq_true_eq] at h
  rcases h with (h | h) | h
  · exact CMul.ok (.inl ⟨by omega, by omega⟩)
  · exact CMul.ok (.inr ⟨by omega, by omega⟩)
  · exact CMulW.ok h
theorem op_mulE : OpR X (binaryOp .Mult) (rI CMulE fun i j => .int (i * j)) := opI fun _ _ _ _ _ _ _ hc q => PyProof.Rows.mul_int q hc.ok
def CDivE (_ j : Int) : Prop := j ≠ 0 ∧ j.natAbs.log2 < 9000
theorem op_divE : OpR X (binaryOp .FloorDiv) (rI CDivE fun i j => .int (i.fdiv j)) := opI fun _ _ _ _ _ _ _ hc q => PyProof.Rows.floordiv_int hc.1 q (.inl (PyProof.noPylong_of_log2 hc.2))

theorem binR (op : Operator) : ∃ r : R2, OpR X (binaryOp op) r ∧ ∀ (F : Addr → Prop) (H : Hp) (x y : V) (da db : D) (res : Res), Bw X.K F H x da → Bw X.K F H y db →
    (op = .Mult → ∀ l, da = .list l → ∃ a xs, x = .ref a ∧ H a = some (.lst xs) ∧ xs.length ≤ sizeLine ∧ RpL X.K F H xs l) → opv op da db = some res → ∀ Q, K1 X.K F H res Q → r x y H Q := by
  have triv : ∀ op, (∀ da db, opv op da db = none) → ∃ r : R2, OpR X (binaryOp op) r ∧ ∀ (F : Addr → Prop) (H : Hp) (x y : V) (da db : D) (res : Res), Bw X.K F H x da → Bw X.K F H y db →
    (op = .Mult → ∀ l, da = .list l → ∃ a xs, x = .ref a ∧ H a = some (.lst xs) ∧ xs.length ≤ sizeLine ∧ RpL X.K F H xs l) → opv op da db = some res → ∀ Q, K1 X.K F H res Q → r x y H Q := fun op h =>
    ⟨fun _ _ _ _ => False, fun _ _ _ _ _ _ _ _ _ _ _ _ z => z.elim, fun F H x y da db res _ _ _ e => by rw [h] at e; cases e⟩
  cases op with
  | Add =>
    refine ⟨_, op_add.or (op_catL.or op_catA), fun F H x y da db res bx bY _ e Q k => ?_⟩
    cases da <;> cases db <;> simp only [opv, reduceCtorEq] at e
    · cases e
      exact .inl ⟨_, _, bx.int, bY.int, k.now (.int _)⟩
    · split at e
      · cases e
        obtain ⟨a, xs, rfl, h1, z1, r1⟩ := bx.list
        obtain ⟨b, ys, rfl, h2, z2, r2⟩ := bY.list
        have hl : xs.length + ys.length ≤ sizeLine := by rw [r1.length, r2.length, ← big_eq]; assumption
        exact .inr (.inl ⟨a, b, xs, ys, rfl, rfl, h1, h2, hl, fun p hp => k _ _ (same_upd hp) (.newL hp (by rw [List.length_append]; exact hl) (r1.append r2))⟩)
      · cases e
    · split at e
      · cases e
        obtain ⟨a, xs, rfl, h1, z1, r1⟩ := bx.tup
        obtain ⟨b, ys, rfl, h2, z2, r2⟩ := bY.tup
        have hl : xs.length + ys.length ≤ sizeLine := by rw [r1.length, r2.length, ← big_eq]; assumption
        refine .inr (.inr ⟨a, b, xs, ys, rfl, rfl, h1, h2, hl, fun q => ?_, fun q q2 => ?_, fun q q2 p hp => k _ _ (same_upd hp) (.newT hp (by rw [List.length_append]; exact hl) (r1.append r2))⟩)
        · subst q
          cases r1
          exact k.now (v := .ref b) (Rp.tup h2 z2 r2)
        · subst q2
          cases r2
          rw [List.append_nil] at k
          exact k.now (v := .ref a) (Rp.tup h1 z1 r1)
      · cases e
  | Sub =>
    refine ⟨_, op_sub, fun F H x y da db res bx bY _ e Q k => ?_⟩
    cases da <;> cases db <;> simp only [opv, reduceCtorEq] at e
    cases e
    exact ⟨_, _, bx.int, bY.int, k.now (.int _)⟩
  | Mult =>
    refine ⟨_, (op_mulE.or op_rep).or (op_repT1.or (op_tm.or op_tm0)), fun F H x y da db res bx bY st e Q k => ?_⟩
    cases da <;> cases db <;> simp only [opv, reduceCtorEq] at e
    · split at e
      · cases e
        exact .inl (.inl ⟨_, _, bx.int, bY.int, by assumption, k.now (.int _)⟩)
      · cases e
    · split at e
      · rename_i hc
        cases e
        obtain ⟨a, xs, rfl, h1, z1, r1⟩ := st rfl _ rfl
        have hl := r1.length
        have hb := big_eq
        exact .inl (.inr ⟨a, _, xs, rfl, bY.int, h1, by omega, by omega, by rw [hl, ← hb]; exact hc.2.2, fun p hp => k _ _ (same_upd hp) (.newL hp (by rw [PyProof.Rows.lm_len_rep_flat, Nat.mul_comm, hl, ← hb]; exact hc.2.2) (r1.rep _))⟩)
      · cases e
    · split at e
      · rename_i hc
        cases e
        obtain ⟨a, xs, rfl, h1, z1, r1⟩ := bx.tup
        have hl := r1.length
        rename_i kk
        refine .inr ?_
        by_cases h1k : kk = 1
        · subst h1k
          refine .inl ⟨a, xs, rfl, bY.int, h1, ?_⟩
          have k' := k.now (v := .ref a) (Rp.tup h1 z1 (by
            have e0 : (List.replicate (1 : Int).toNat ‹List D›).flatten = ‹List D› := by simp
            rw [e0]; exact r1))
          exact k'
        by_cases h0k : kk = 0
        · subst h0k
          refine .inr (.inr ⟨a, xs, rfl, bY.int, h1, fun e => hc.1 (List.eq_nil_of_length_eq_zero (by rw [← hl, e]; rfl)), fun p hp => k _ _ (same_upd hp) (.newT hp ?_ ?_)⟩)
          · exact Nat.zero_le _
          · exact .nil
        · refine .inr (.inl ⟨a, kk, xs, rfl, bY.int, h1, fun e => hc.1 (List.eq_nil_of_length_eq_zero (by rw [← hl, e]; rfl)), by omega, hc.2.2.1, by rw [hl]; exact hc.2.2.2, fun p hp => k _ _ (same_upd hp) (.newT hp ?_ (r1.rep _))⟩)
          rw [PyProof.Rows.lm_len_rep_flat, hl, ← big_eq]
          have : kk.toNat * ‹List D›.length ≤ 2000 * 1000 := Nat.mul_le_mul (by omega) hc.2.2.2
          exact Nat.le_trans this (by decide)
      · cases e
  | FloorDiv =>
    refine ⟨_, op_divE, fun F H x y da db res bx bY _ e Q k => ?_⟩
    cases da <;> cases db <;> simp only [opv, reduceCtorEq] at e
    split at e
    · cases e
      exact ⟨_, _, bx.int, bY.int, by assumption, k.now (.int _)⟩
    · cases e
  | Mod =>
    refine ⟨_, op_modN, fun F H x y da db res bx bY _ e Q k => ?_⟩
    cases da <;> cases db <;> simp only [opv, reduceCtorEq] at e
    split at e
    · cases e
      exact ⟨_, _, bx.int, bY.int, by assumption, k.now (.int _)⟩
    · cases e
  | Pow =>
    refine ⟨_, op_pow, fun F H x y da db res bx bY _ e Q k => ?_⟩
    cases da <;> cases db <;> simp only [opv, reduceCtorEq] at e
    split at e
    · cases e
      exact ⟨_, _, bx.int, bY.int, by assumption, k.now (.int _)⟩
    · cases e
  | LShift =>
    refine ⟨_, op_shl, fun F H x y da db res bx bY _ e Q k => ?_⟩
    cases da <;> cases db <;> simp only [opv, reduceCtorEq] at e
    split at e
    · cases e
      exact ⟨_, _, bx.int, bY.int, by assumption, k.now (.int _)⟩
    · cases e
  | RShift =>
    refine ⟨_, op_shr, fun F H x y da db res bx bY _ e Q k => ?_⟩
    cases da <;> cases db <;> simp only [opv, reduceCtorEq] at e
    split at e
    · cases e
      exact ⟨_, _, bx.int, bY.int, by assumption, k.now (.int _)⟩
    · cases e
  | BitAnd =>
    refine ⟨_, op_and, fun F H x y da db res bx bY _ e Q k => ?_⟩
    cases da <;> cases db <;> simp only [opv, reduceCtorEq] at e
    cases e
    exact ⟨_, _, bx.int, bY.int, k.now (.int _)⟩
  | BitOr =>
    refine ⟨_, op_or, fun F H x y da db res bx bY _ e Q k => ?_⟩
    cases da <;> cases db <;> simp only [opv, reduceCtorEq] at e
    cases e
    exact ⟨_, _, bx.int, bY.int, k.now (.int _)⟩
  | BitXor =>
    refine ⟨_, op_xor, fun F H x y da db res bx bY _ e Q k => ?_⟩
    cases da <;> cases db <;> simp only [opv, reduceCtorEq] at e
    cases e
    exact ⟨_, _, bx.int, bY.int, k.now (.int _)⟩
  | MatMult => exact triv _ fun da db => by cases da <;> cases db <;> rfl
  | Div => exact triv _ fun da db => by cases da <;> cases db <;> rfl

/-! ### comparisons -/
theorem eqv_ok {F : Addr → Prop} {H : Hp} {x y : V} {da db : D} {c : Bool} {K : PySem.W.Frag} (bx : Bw K F H x da) (bY : Bw K F H y db) (e : eqv da db = some c) {Q : VK} (q : Q (.bl c) H) : rEqD K x y H Q := by
  unfold eqv at e
  split at e
  · rename_i h
    cases e
    exact ⟨da, db, bx.dp h.1, bY.dp h.2, h.1, h.2, q⟩
  · cases e
theorem nev_ok {F : Addr → Prop} {H : Hp} {x y : V} {da db : D} {c : Bool} {K : PySem.W.Frag} (bx : Bw K F H x da) (bY : Bw K F H y db) (e : (eqv da db).map not = some c) {Q : VK} (q : Q (.bl c) H) : rNeD K x y H Q := by
  unfold eqv at e
  split at e
  · rename_i h
    cases e
    exact ⟨da, db, bx.dp h.1, bY.dp h.2, h.1, h.2, q⟩
  · cases e
theorem nonV {F : Addr → Prop} {H : Hp} {K : PySem.W.Frag} {x : V} {d : D} (b : Bw K F H x d) : decide (x = .non) = (match d with | .none => true | _ => false) := by
  cases b with
  | rp h => cases h <;> rfl
  | lst _ _ _ => rfl
theorem inv_ok {F : Addr → Prop} {H : Hp} {x y : V} {da dc : D} {l : List D} {c : Bool} {K : PySem.W.Frag} (bx : Bw K F H x da) (bY : Bw K F H y dc) (e : inv da dc l = some c) : Dp K H x da ∧ Dp K H y dc ∧ SeqAt.shaped da = true ∧ SeqAt.shaped dc = true ∧ c = l.any fun z => PyData.eqv z da := by
  unfold inv at e
  split at e
  · rename_i h
    cases e
    exact ⟨bx.dp h.1, bY.dp h.2, h.1, h.2, rfl⟩
  · cases e
def rEqLz : R2 := fun x y H Q => ∃ a b xs ys, x = .ref a ∧ y = .ref b ∧ H a = some (.lst xs) ∧ H b = some (.lst ys) ∧ xs.length ≠ ys.length ∧ Q (.bl false) H
theorem op_eqLz (hu : X.A.units < cLine) : OpR X (compareOp .Eq) rEqLz := by
  intro pins s σ H x y v u Q I rx ry h
  obtain ⟨a, b, xs, ys, rfl, rfl, ha, hb, hne, q⟩ := h
  obtain rfl : v = Value.ref a := rx
  obtain rfl : u = Value.ref b := ry
  obtain ⟨z1, ia, n, ra, l1, e1⟩ := I.lstM ha
  obtain ⟨z2, ib, m, rb, l2, e2⟩ := I.lstM hb
  have hs : (ia.toArray.size != ib.toArray.size) = true := by
    simp only [List.size_toArray, bne_iff_ne, ne_eq, ← ra.length, ← rb.length]
    exact hne
  exact PySem.P.eq_list_lengths e1 e2 hs hu ⟨.bl false, H, I, rfl, q⟩
def rEqT0 (K : PySem.W.Frag) : R2 := fun x y H Q => ∃ a b xs, x = .ref a ∧ y = .ref b ∧ SqT K H a xs ∧ SqT K H b [] ∧ xs ≠ [] ∧ Q (.bl false) H
theorem op_eqT0 (hu : X.A.units < cLine) : OpR X (compareOp .Eq) (rEqT0 X.K) := by
  intro pins s σ H x y v u Q I rx ry h
  obtain ⟨a, b, xs, rfl, rfl, ha, hb, hne, q⟩ := h
  obtain rfl : v = Value.ref a := rx
  obtain rfl : u = Value.ref b := ry
  obtain ⟨ia, ra, l1, _⟩ := I.tuple ha
  obtain ⟨ib, rb, l2, _⟩ := I.tuple hb
  cases rb
  have h0 : ia ≠ [] := fun e => by
    subst e
    cases ra
    exact hne rfl
  refine PySem.SeqAt.eq_tupleAt (e := fun _ => true) l1 l2 hu (fun j _ h2 => absurd h2 (Nat.not_lt_zero _)) ⟨.bl false, H, I, ?_, q⟩
  cases ia with
  | nil => exact absurd rfl h0
  | cons c r => rfl
theorem intsD_eq : ∀ {l : List D} {ns : List Int}, intsD l = some ns → l = ns.map PyData.int
  | [], ns, e => by cases e; rfl
  | .int i :: r, ns, e => by
    simp only [intsD, Option.map_eq_some_iff] at e
    obtain ⟨ms, e, rfl⟩ := e
    rw [intsD_eq e, List.map_cons]
  | .none :: r, ns, e => by cases e
  | .bool _ :: r, ns, e => by cases e
  | .str _ :: r, ns, e => by cases e
  | .list _ :: r, ns, e => by cases e
  | .tuple _ :: r, ns, e => by cases e
  | .dict _ :: r, ns, e => by cases e
theorem dnin_eq {d : D} {l : List (D × D)} {c : Bool} (e : dnin d l = some c) : ∃ (i : Int) (ns : List Int), d = .int i ∧ l = [(.bool false, .list (ns.map PyData.int))] ∧ c = !decide (i ∈ ns) := by
  unfold dnin at e
  split at e
  · rw [Option.map_eq_some_iff] at e
    obtain ⟨ns, e, rfl⟩ := e
    exact ⟨_, ns, rfl, by rw [intsD_eq e], rfl⟩
  · cases e
def rNotInK : R2 := fun x y H Q => ∃ (a : Addr) (i : Int) (o : Option V), x = .int i ∧ y = .ref a ∧ DGet H a (kV (.inl i)) o ∧ Q (.bl (!o.isSome)) H
theorem op_notInK {X : Cx} (hu : X.A.units + 1 < cLine) : OpR X (compareOp .NotIn) rNotInK := by
  intro pins s σ H x y v u Q I rx ry h
  obtain ⟨a, i, o, rfl, rfl, g, q⟩ := h
  cases ry
  exact d_notIn hu I g rx fun s' I' => ⟨.bl (!o.isSome), H, I', rfl, q⟩
theorem Bw.kdk {K : PySem.W.Frag} {F : Addr → Prop} {H : Hp} {v : V} {ns : List Int} (b : Bw K F H v (kdD ns)) : ∃ (a : Addr) (kvs : List (Key × V)), v = .ref a ∧ H a = some (.dK kvs) ∧ ∀ n : Int, (valV kvs (.inl n)).isSome = decide (n ∈ ns) := by
  generalize hd : kdD ns = d at b
  cases b with
  | rp h =>
    cases h with
    | dct _ h _ _ hs => cases hd; cases hs
    | kd h hs hk =>
      have e : ∀ {l m : List Int}, l.map PyData.int = m.map PyData.int → l = m := fun {l m} z => by
        have := congrArg intsD z
        induction l generalizing m with
        | nil => cases m with
          | nil => rfl
          | cons _ _ => cases z
        | cons p l ih => cases m with
          | nil => cases z
          | cons p' m =>
            rw [List.map_cons, List.map_cons] at z
            injection z with z1 z2
            injection z1 with z1
            rw [z1, ih z2 (congrArg intsD z2)]
      injection hd with hd
      injection hd with hd _
      injection hd with _ hd
      injection hd with hd
      rw [e hd]
      exact ⟨_, _, rfl, h, hk⟩
    | _ => cases hd
  | _ => cases hd
theorem cmpR (hu : X.A.units + 65 < cLine) (op : CmpOp) : ∃ r : R2, OpR X (compareOp op) r ∧ ∀ (F : Addr → Prop) (H : Hp) (x y : V) (da db : D) (c : Bool), Bw X.K F H x da → Bw X.K F H y db → cmpv op da db = some c → ∀ Q : VK, Q (.bl c) H → r x y H Q := by
  have triv : ∀ op, (∀ da db, cmpv op da db = none) → ∃ r : R2, OpR X (compareOp op) r ∧ ∀ (F : Addr → Prop) (H : Hp) (x y : V) (da db : D) (c : Bool), Bw X.K F H x da → Bw X.K F H y db → cmpv op da db = some c → ∀ Q : VK, Q (.bl c) H → r x y H Q := fun op h =>
    ⟨fun _ _ _ _ => False, fun _ _ _ _ _ _ _ _ _ _ _ _ z => z.elim, fun F H x y da db res _ _ e => by rw [h] at e; cases e⟩
  cases op with
  | Lt =>
    refine ⟨_, op_lt, fun F H x y da db c bx bY e Q k => ?_⟩
    cases da <;> cases db <;> simp only [cmpv, reduceCtorEq] at e
    cases e
    exact ⟨_, _, bx.int, bY.int, k⟩
  | LtE =>
    refine ⟨_, op_le, fun F H x y da db c bx bY e Q k => ?_⟩
    cases da <;> cases db <;> simp only [cmpv, reduceCtorEq] at e
    cases e
    exact ⟨_, _, bx.int, bY.int, k⟩
  | Gt =>
    refine ⟨_, op_gt, fun F H x y da db c bx bY e Q k => ?_⟩
    cases da <;> cases db <;> simp only [cmpv, reduceCtorEq] at e
    cases e
    exact ⟨_, _, bx.int, bY.int, k⟩
  | GtE =>
    refine ⟨_, op_ge, fun F H x y da db c bx bY e Q k => ?_⟩
    cases da <;> cases db <;> simp only [cmpv, reduceCtorEq] at e
    cases e
    exact ⟨_, _, bx.int, bY.int, k⟩
  | Eq =>
    refine ⟨_, op_eq.or ((op_eqD (by omega)).or ((op_eqDs (by omega)).or (op_eqT0 (by omega)))), fun F H x y da db c bx bY e Q k => ?_⟩
    have dt : ∀ (l m : List D), Bw X.K F H x (.tuple l) → Bw X.K F H y (.tuple m) → cmpv .Eq (.tuple l) (.tuple m) = some c → rEqD X.K x y H Q ∨ rEqDs x y H Q ∨ rEqT0 X.K x y H Q := fun l m b1 b2 e => by
      have e : (eqv (.tuple l) (.tuple m)).or (eqv0 l m) = some c := e
      cases e1 : eqv (.tuple l) (.tuple m) with
      | some c' =>
        rw [e1] at e
        cases e
        exact .inl (eqv_ok b1 b2 e1 k)
      | none =>
        rw [e1] at e
        have e : eqv0 l m = some c := e
        unfold eqv0 at e
        split at e
        · cases e
          obtain ⟨a1, xs, rfl, h1, z1, r1⟩ := b1.tup
          obtain ⟨a2, ys, rfl, h2, z2, r2⟩ := b2.tup
          cases r2
          refine .inr (.inr ⟨_, _, xs, rfl, rfl, h1, h2, fun z => ?_, k⟩)
          subst z
          cases r1
        · cases e
    have ds : ∀ (l : List (D × D)) (i : Str), Bw X.K F H x (.dict l) → y = .str i → cmpv .Eq (.dict l) (.str i) = some c → rEqDs x y H Q := fun l i b hy e => by
      have e : (if spcL l then none else some false) = some c := e
      split at e
      · cases e
      · rename_i hsp
        cases e
        cases b with
        | rp h =>
          cases h with
          | dct _ h _ _ hs => exact ⟨_, _, _, rfl, hy, h, k⟩
          | err h g => exact absurd rfl hsp
          | errF => exact absurd rfl hsp
          | fn => exact absurd rfl hsp
          | dl => exact absurd rfl hsp
          | kd => exact absurd rfl hsp
    cases da <;> cases db
    all_goals first
      | exact .inr (dt _ _ bx bY e)
      | exact .inr (.inr (.inl (ds _ _ bx bY.str e)))
      | (simp only [cmpv] at e
         first
          | exact .inr (.inl (eqv_ok bx bY e k))
          | (cases e
             first
              | (rw [bx.int, bY.int]
                 refine .inl ⟨rfl, ?_⟩
                 rw [dec_int, Bool.beq_eq_decide_eq]
                 exact k)
              | (rw [bx.str, bY.str]
                 refine .inl ⟨rfl, ?_⟩
                 rw [dec_str, Bool.beq_eq_decide_eq]
                 exact k)))
  | NotEq =>
    refine ⟨_, op_ne.or ((op_neD (by omega)).or ((op_neDi (by omega)).or (op_neDs (by omega)))), fun F H x y da db c bx bY e Q k => ?_⟩
    have di : ∀ (l : List (D × D)) (i : Int), Bw X.K F H x (.dict l) → y = .int i → cmpv .NotEq (.dict l) (.int i) = some c → rNeDi x y H Q := fun l i b hy e => by
      have e : (if spcL l then none else some true) = some c := e
      split at e
      · cases e
      · rename_i hsp
        cases e
        cases b with
        | rp h =>
          cases h with
          | dct _ h _ _ hs => exact ⟨_, _, _, rfl, hy, h, k⟩
          | err h g => exact absurd rfl hsp
          | errF => exact absurd rfl hsp
          | fn => exact absurd rfl hsp
          | dl => exact absurd rfl hsp
          | kd => exact absurd rfl hsp
    have ds : ∀ (l : List (D × D)) (i : Str), Bw X.K F H x (.dict l) → y = .str i → cmpv .NotEq (.dict l) (.str i) = some c → rNeDs x y H Q := fun l i b hy e => by
      have e : (if spcL l then none else some true) = some c := e
      split at e
      · cases e
      · rename_i hsp
        cases e
        cases b with
        | rp h =>
          cases h with
          | dct _ h _ _ hs => exact ⟨_, _, _, rfl, hy, h, k⟩
          | err h g => exact absurd rfl hsp
          | errF => exact absurd rfl hsp
          | fn => exact absurd rfl hsp
          | dl => exact absurd rfl hsp
          | kd => exact absurd rfl hsp
    cases da <;> cases db
    all_goals first
      | exact .inr (.inr (.inl (di _ _ bx bY.int e)))
      | exact .inr (.inr (.inr (ds _ _ bx bY.str e)))
      | (simp only [cmpv] at e
         first
          | exact .inr (.inl (nev_ok bx bY e k))
          | (cases e
             first
              | (rw [bx.int, bY.int]
                 refine .inl ⟨rfl, ?_⟩
                 rw [dec_int, Bool.beq_eq_decide_eq]
                 exact k)
              | (rw [bx.str, bY.str]
                 refine .inl ⟨rfl, ?_⟩
                 rw [dec_str, Bool.beq_eq_decide_eq]
                 exact k)))
  | Is =>
    refine ⟨_, op_isN.or op_isBl, fun F H x y da db c bx bY e Q k => ?_⟩
    cases db with
    | none =>
      cases da <;> simp only [cmpv] at e <;> cases e <;> (refine .inl ⟨bY.non, ?_⟩; rw [nonV bx]; exact k)
    | bool b =>
      cases da <;> simp only [cmpv, reduceCtorEq] at e
      cases e
      exact .inr ⟨_, _, bx.bl, bY.bl, k⟩
    | _ => cases da <;> simp only [cmpv, reduceCtorEq] at e
  | IsNot =>
    refine ⟨_, op_notN.or op_notBl, fun F H x y da db c bx bY e Q k => ?_⟩
    cases db with
    | none =>
      cases da <;> simp only [cmpv] at e <;> cases e <;> (refine .inl ⟨bY.non, ?_⟩; rw [nonV bx]; exact k)
    | bool b =>
      cases da <;> simp only [cmpv, reduceCtorEq] at e
      cases e
      exact .inr ⟨_, _, bx.bl, bY.bl, k⟩
    | _ => cases da <;> simp only [cmpv, reduceCtorEq] at e
  | In =>
    refine ⟨_, (op_inD hu).or (op_inT hu), fun F H x y da db c bx bY e Q k => ?_⟩
    cases db <;> simp only [cmpv, reduceCtorEq] at e
    · obtain ⟨h1, h2, h3, h4, rfl⟩ := inv_ok bx bY e
      exact .inl ⟨da, _, h1, h2, h3, h4, k⟩
    · obtain ⟨h1, h2, h3, h4, rfl⟩ := inv_ok bx bY e
      exact .inr ⟨da, _, h1, h2, h3, h4, k⟩
  | NotIn =>
    refine ⟨_, (op_notInD hu).or ((op_notInT hu).or (op_notInK (by omega))), fun F H x y da db c bx bY e Q k => ?_⟩
    cases db <;> simp only [cmpv, reduceCtorEq, Option.map_eq_some_iff] at e
    · obtain ⟨b, e, rfl⟩ := e
      obtain ⟨h1, h2, h3, h4, rfl⟩ := inv_ok bx bY e
      exact .inl ⟨da, _, h1, h2, h3, h4, k⟩
    · obtain ⟨b, e, rfl⟩ := e
      obtain ⟨h1, h2, h3, h4, rfl⟩ := inv_ok bx bY e
      exact .inr (.inl ⟨da, _, h1, h2, h3, h4, k⟩)
    · obtain ⟨i, ns, rfl, rfl, rfl⟩ := dnin_eq e
      obtain ⟨a, kvs, rfl, h1, h2⟩ := bY.kdk
      refine .inr (.inr ⟨a, _, _, bx.int, rfl, .k h1, ?_⟩)
      rw [h2]
      exact k
end
end Ev

/-! A verified evaluator over the hand layer, part 5: built-ins by their names, places, slices, lists' methods. -/
namespace Ev
open PySem L2

theorem lMax_spec : ∀ (l : List Int) (a : Int), a ≤ l.foldl Max.max a ∧ (∀ y ∈ l, y ≤ l.foldl Max.max a) ∧ (l.foldl Max.max a = a ∨ l.foldl Max.max a ∈ l)
  | [], a => ⟨Int.le_refl _, fun _ h => absurd h (by simp), .inl rfl⟩
  | b :: l, a => by
    obtain ⟨h1, h2, h3⟩ := lMax_spec l (Max.max a b)
    rw [List.foldl_cons]
    refine ⟨by omega, fun y hy => ?_, ?_⟩
    · rcases List.mem_cons.mp hy with e | hy
      · omega
      · exact h2 y hy
    · rcases h3 with h3 | h3
      · rw [h3]
        by_cases h : a ≤ b
        · exact .inr (by rw [Int.max_eq_right h]; exact List.mem_cons_self)
        · exact .inl (Int.max_eq_left (by omega))
      · exact .inr (List.mem_cons_of_mem _ h3)
theorem lMin_spec : ∀ (l : List Int) (a : Int), l.foldl Min.min a ≤ a ∧ (∀ y ∈ l, l.foldl Min.min a ≤ y) ∧ (l.foldl Min.min a = a ∨ l.foldl Min.min a ∈ l)
  | [], a => ⟨Int.le_refl _, fun _ h => absurd h (by simp), .inl rfl⟩
  | b :: l, a => by
    obtain ⟨h1, h2, h3⟩ := lMin_spec l (Min.min a b)
    rw [List.foldl_cons]
    refine ⟨by omega, fun y hy => ?_, ?_⟩
    · rcases List.mem_cons.mp hy with e | hy
      · omega
      · exact h2 y hy
    · rcases h3 with h3 | h3
      · rw [h3]
        by_cases h : a ≤ b
        · exact .inl (Int.min_eq_left h)
        · exact .inr (by rw [Int.min_eq_right (by omega)]; exact List.mem_cons_self)
      · exact .inr (List.mem_cons_of_mem _ h3)
theorem lMax_is {ns : List Int} (h : ns ≠ []) : lMax ns ∈ ns ∧ ∀ y ∈ ns, y ≤ lMax ns := by
  cases ns with
  | nil => exact absurd rfl h
  | cons a l =>
    obtain ⟨h1, h2, h3⟩ := lMax_spec l a
    refine ⟨?_, fun y hy => ?_⟩
    · rcases h3 with h3 | h3
      · show l.foldl Max.max a ∈ _
        rw [h3]; exact List.mem_cons_self
      · exact List.mem_cons_of_mem _ h3
    · rcases List.mem_cons.mp hy with e | hy
      · rw [e]; exact h1
      · exact h2 y hy
theorem lMin_is {ns : List Int} (h : ns ≠ []) : lMin ns ∈ ns ∧ ∀ y ∈ ns, lMin ns ≤ y := by
  cases ns with
  | nil => exact absurd rfl h
  | cons a l =>
    obtain ⟨h1, h2, h3⟩ := lMin_spec l a
    refine ⟨?_, fun y hy => ?_⟩
    · rcases h3 with h3 | h3
      · show l.foldl Min.min a ∈ _
        rw [h3]; exact List.mem_cons_self
      · exact List.mem_cons_of_mem _ h3
    · rcases List.mem_cons.mp hy with e | hy
      · rw [e]; exact h1
      · exact h2 y hy
theorem sortI_is {ns ms : List Int} (hp : ms.Perm ns) (hs : ms.Pairwise (· ≤ ·)) : ms = sortI ns := by
  unfold sortI
  have h1 : ((ns.mergeSort fun a b => decide (a ≤ b))).Perm ns := List.mergeSort_perm _ _
  have h2 : (ns.mergeSort fun a b => decide (a ≤ b)).Pairwise (fun a b => decide (a ≤ b) = true) := List.pairwise_mergeSort (fun a b c h1 h2 => by simp at *; omega) (fun a b => by simp; omega) _
  have h3 : (ns.mergeSort fun a b => decide (a ≤ b)).Pairwise (· ≤ ·) := h2.imp fun h => of_decide_eq_true h
  exact (hp.trans h1.symm).eq_of_pairwise (fun x y _ _ h1 h2 => Int.le_antisymm h1 h2) hs h3

theorem starE {env : Env} : ∀ {e : Expr} {es : List Expr}, noStar e = true → starEach (e :: es) env = (false, eval e env) :: starEach es env := by
  intro e es h
  cases e <;> first | rfl | cases h
theorem starAny {env : Env} {pos : Pos} : ∀ {es : List Expr}, es.all noStar = true → (backTo pos (starEach es env)).any (·.1) = false
  | [], _ => rfl
  | e :: es, h => by
    rw [List.all_cons, Bool.and_eq_true] at h
    rw [starE h.1]
    show (false || (backTo pos (starEach es env)).any (·.1)) = false
    rw [starAny h.2]
    rfl

section
variable {X : Cx}
def coolB : B1 → Bool
  | .len | .int => true
  | _ => false
theorem b1R0 (b : B1) (hb : coolB b = true) : ∃ r : List V → Hp → VK → Prop, ((∃ id, CallR X (.builtin id) r ∧ bootBuiltins b.nm = some (.builtin id)) ∨ ∃ T, CallR X (.type T) r ∧ bootBuiltins b.nm = some (.type T)) ∧
    ∀ (F : Addr → Prop) (H : Hp) (x : V) (d : D) (res : Res), Bw X.K F H x d → b1v b d = some res → ∀ Q, K1 X.K F H res Q → r [x] H Q := by
  cases b with
  | len =>
    refine ⟨_, .inl ⟨_, call_len, PySem.boot_len⟩, fun F H x d res bx e Q k => ?_⟩
    cases d <;> simp only [b1v, reduceCtorEq] at e
    · cases e
      obtain ⟨a, xs, rfl, h, z, r⟩ := bx.list
      exact ⟨_, xs.length, rfl, .inl ⟨xs, h, rfl⟩, by rw [r.length]; exact k.now (.int _)⟩
    · cases e
      obtain ⟨a, xs, rfl, h, z, r⟩ := bx.tup
      exact ⟨_, xs.length, rfl, .inr ⟨xs, h, rfl⟩, by rw [r.length]; exact k.now (.int _)⟩
  | int =>
    refine ⟨_, .inr ⟨_, call_int1, by decide +kernel⟩, fun F H x d res bx e Q k => ?_⟩
    cases d <;> simp only [b1v, reduceCtorEq] at e
    · cases e
      rw [bx.bl]
      exact .inr ⟨_, rfl, k.now (.int _)⟩
    · cases e
      rw [bx.int]
      exact .inl ⟨_, rfl, k.now (.int _)⟩
  | _ => cases hb
theorem b1R (hc : X.calm = true) (hu : X.A.units + 64 < cLine) (b : B1) : ∃ r : List V → Hp → VK → Prop, ((∃ id, CallR X (.builtin id) r ∧ bootBuiltins b.nm = some (.builtin id)) ∨ ∃ T, CallR X (.type T) r ∧ bootBuiltins b.nm = some (.type T)) ∧
    ∀ (F : Addr → Prop) (H : Hp) (x : V) (d : D) (res : Res), Bw X.K F H x d → b1v b d = some res → ∀ Q, K1 X.K F H res Q → r [x] H Q := by
  cases b with
  | len =>
    refine ⟨_, .inl ⟨_, call_len, PySem.boot_len⟩, fun F H x d res bx e Q k => ?_⟩
    cases d <;> simp only [b1v, reduceCtorEq] at e
    · cases e
      obtain ⟨a, xs, rfl, h, z, r⟩ := bx.list
      exact ⟨_, xs.length, rfl, .inl ⟨xs, h, rfl⟩, by rw [r.length]; exact k.now (.int _)⟩
    · cases e
      obtain ⟨a, xs, rfl, h, z, r⟩ := bx.tup
      exact ⟨_, xs.length, rfl, .inr ⟨xs, h, rfl⟩, by rw [r.length]; exact k.now (.int _)⟩
  | int =>
    refine ⟨_, .inr ⟨_, call_int1, by decide +kernel⟩, fun F H x d res bx e Q k => ?_⟩
    cases d <;> simp only [b1v, reduceCtorEq] at e
    · cases e
      rw [bx.bl]
      exact .inr ⟨_, rfl, k.now (.int _)⟩
    · cases e
      rw [bx.int]
      exact .inl ⟨_, rfl, k.now (.int _)⟩
  | sum =>
    refine ⟨_, .inl ⟨_, CallR.or (cr_sum hc) (cr_sumT hc), by decide +kernel⟩, fun F H x d res bx e Q k => ?_⟩
    cases d <;> simp only [b1v, reduceCtorEq, Option.map_eq_some_iff] at e
    · obtain ⟨ns, e1, rfl⟩ := e
      obtain ⟨a, xs, rfl, h, z, r⟩ := bx.list
      obtain ⟨e2, _⟩ := r.ints_ e1
      rw [e2] at h
      exact .inl ⟨a, ns, rfl, h, k.now (.int _)⟩
    · obtain ⟨ns, e1, rfl⟩ := e
      obtain ⟨a, xs, rfl, h, z, r⟩ := bx.tup
      obtain ⟨e2, _⟩ := r.ints_ e1
      rw [e2] at h
      exact .inr ⟨a, ns, rfl, h, k.now (.int _)⟩
  | max =>
    refine ⟨_, .inl ⟨_, CallR.or (cr_max hc) (cr_maxT hc hu), by decide +kernel⟩, fun F H x d res bx e Q k => ?_⟩
    cases d <;> simp only [b1v, reduceCtorEq, Option.bind_eq_some_iff] at e
    rotate_left
    · obtain ⟨ns, e1, e3⟩ := e
      split at e3
      · cases e3
      · rename_i hne
        cases e3
        obtain ⟨a, xs, rfl, h, z, r⟩ := bx.tup
        obtain ⟨e2, _⟩ := r.ints_ e1
        rw [e2] at h
        cases ns with
        | nil => exact absurd rfl hne
        | cons n ns => exact .inr ⟨a, n, ns, rfl, h, k.now (.int _)⟩
    obtain ⟨ns, e1, e3⟩ := e
    split at e3
    · cases e3
    · rename_i hne
      cases e3
      refine .inl ?_
      obtain ⟨a, xs, rfl, h, z, r⟩ := bx.list
      obtain ⟨e2, _⟩ := r.ints_ e1
      rw [e2] at h
      obtain ⟨m1, m2⟩ := lMax_is hne
      refine ⟨a, ns, rfl, h, List.length_pos_iff.mpr hne, fun m h1 h2 => ?_⟩
      have em : m = lMax ns := Int.le_antisymm (m2 m h1) (h2 _ m1)
      rw [em]
      exact k.now (.int _)
  | min =>
    refine ⟨_, .inl ⟨_, CallR.or (cr_min hc) (cr_minT hc hu), by decide +kernel⟩, fun F H x d res bx e Q k => ?_⟩
    cases d <;> simp only [b1v, reduceCtorEq, Option.bind_eq_some_iff] at e
    rotate_left
    · obtain ⟨ns, e1, e3⟩ := e
      split at e3
      · cases e3
      · rename_i hne
        cases e3
        obtain ⟨a, xs, rfl, h, z, r⟩ := bx.tup
        obtain ⟨e2, _⟩ := r.ints_ e1
        rw [e2] at h
        cases ns with
        | nil => exact absurd rfl hne
        | cons n ns => exact .inr ⟨a, n, ns, rfl, h, k.now (.int _)⟩
    obtain ⟨ns, e1, e3⟩ := e
    split at e3
    · cases e3
    · rename_i hne
      cases e3
      refine .inl ?_
      obtain ⟨a, xs, rfl, h, z, r⟩ := bx.list
      obtain ⟨e2, _⟩ := r.ints_ e1
      rw [e2] at h
      obtain ⟨m1, m2⟩ := lMin_is hne
      refine ⟨a, ns, rfl, h, List.length_pos_iff.mpr hne, fun m h1 h2 => ?_⟩
      have em : m = lMin ns := Int.le_antisymm (h2 _ m1) (m2 m h1)
      rw [em]
      exact k.now (.int _)
  | lst =>
    refine ⟨_, .inr ⟨_, call_list_of, by decide +kernel⟩, fun F H x d res bx e Q k => ?_⟩
    simp only [b1v, Option.map_eq_some_iff] at e
    obtain ⟨l, e1, rfl⟩ := e
    cases d <;> simp only [items, reduceCtorEq] at e1
    · cases e1
      obtain ⟨a, xs, rfl, h, z, r⟩ := bx.list
      exact ⟨a, xs, rfl, .inl h, fun p hp => k _ _ (same_upd hp) (.newL hp z r)⟩
    · cases e1
      obtain ⟨a, xs, rfl, h, z, r⟩ := bx.tup
      exact ⟨a, xs, rfl, .inr h, fun p hp => k _ _ (same_upd hp) (.newL hp z r)⟩
  | tup =>
    refine ⟨_, .inr ⟨_, call_tuple_of, by decide +kernel⟩, fun F H x d res bx e Q k => ?_⟩
    simp only [b1v, Option.map_eq_some_iff] at e
    obtain ⟨l, e1, rfl⟩ := e
    cases d <;> simp only [items, reduceCtorEq] at e1
    · cases e1
      obtain ⟨a, xs, rfl, h, z, r⟩ := bx.list
      exact ⟨a, xs, rfl, .inl ⟨h, fun p hp => k _ _ (same_upd hp) (.newT hp z r)⟩⟩
    · cases e1
      obtain ⟨a, xs, rfl, h, z, r⟩ := bx.tup
      exact ⟨a, xs, rfl, .inr ⟨h, k.now (v := .ref a) (Rp.tup h z r)⟩⟩
  | abs =>
    refine ⟨_, .inl ⟨_, call_abs, by decide +kernel⟩, fun F H x d res bx e Q k => ?_⟩
    cases d <;> simp only [b1v, reduceCtorEq] at e
    cases e
    rename_i i
    rw [bx.int]
    refine ⟨_, rfl, ?_⟩
    have ei : (if i < 0 then -i else i) = (i.natAbs : Int) := by split <;> omega
    rw [ei]
    exact k.now (.int _)
  | str =>
    refine ⟨_, .inr ⟨_, call_str_int, by decide +kernel⟩, fun F H x d res bx e Q k => ?_⟩
    cases d <;> simp only [b1v, reduceCtorEq] at e
    split at e
    · cases e
      rw [bx.int]
      exact ⟨_, rfl, by assumption, k.now (v := .str _) (Rp.str _)⟩
    · cases e
  | srt =>
    refine ⟨_, .inl ⟨_, CallR.or cr_sortedI (CallR.or cr_sortedT1 cr_sortedPT), by decide +kernel⟩, fun F H x d res bx e Q k => ?_⟩
    cases d <;> simp only [b1v, reduceCtorEq, Option.map_eq_some_iff] at e
    · obtain ⟨a, xs, rfl, h, z, r⟩ := bx.list
      split at e
      · rename_i ns e1
        cases e
        obtain ⟨e2, _⟩ := r.ints_ e1
        rw [e2] at h z
        refine .inl ⟨a, ns, rfl, h, fun ms p hp hs hn => ?_⟩
        have em := sortI_is hp hs
        subst em
        exact k _ _ (same_upd hn) (.newL hn (by rw [List.length_map, hp.length_eq]; rw [List.length_map] at z; exact z) (.of_ints _))
      · simp only [Option.map_eq_some_iff] at e
        obtain ⟨ps, e1, rfl⟩ := e
        have hp := r.pairs_ e1
        refine .inr (.inr ⟨a, xs, ps, rfl, h, hp, fun ys qs p h1 h2 h3 hn => ?_⟩)
        have em := sortP_is h2 h3
        subst em
        exact k _ _ (same_upd hn) (.newL hn (by rw [h1.length, h2.length_eq, ← hp.length]; exact z) (.of_pairs h1))
    · obtain ⟨ns, e1, rfl⟩ := e
      obtain ⟨a, xs, rfl, h, z, r⟩ := bx.tup
      obtain ⟨e2, _⟩ := r.ints_ e1
      rw [e2] at h z
      refine .inr (.inl ⟨a, ns, rfl, h, fun ms p hp hs hn => ?_⟩)
      have em := sortI_is hp hs
      subst em
      exact k _ _ (same_upd hn) (.newL hn (by rw [List.length_map, hp.length_eq]; rw [List.length_map] at z; exact z) (.of_ints _))
  | all =>
    refine ⟨_, .inl ⟨_, cr_all hc, by decide +kernel⟩, fun F H x d res bx e Q k => ?_⟩
    cases d <;> simp only [b1v, reduceCtorEq, Option.map_eq_some_iff] at e
    obtain ⟨ns, e1, rfl⟩ := e
    obtain ⟨a, xs, rfl, h, z, r⟩ := bx.list
    obtain ⟨e2, _⟩ := r.bools_ e1
    rw [e2] at h
    exact ⟨a, ns, rfl, h, k.now (.bl _)⟩
  | any =>
    refine ⟨_, .inl ⟨_, cr_any hc, by decide +kernel⟩, fun F H x d res bx e Q k => ?_⟩
    cases d <;> simp only [b1v, reduceCtorEq, Option.map_eq_some_iff] at e
    obtain ⟨ns, e1, rfl⟩ := e
    obtain ⟨a, xs, rfl, h, z, r⟩ := bx.list
    obtain ⟨e2, _⟩ := r.bools_ e1
    rw [e2] at h
    exact ⟨a, ns, rfl, h, k.now (.bl _)⟩
theorem b2R (hc : X.calm = true) (b : B2) : ∃ r : List V → Hp → VK → Prop, (∃ id, CallR X (.builtin id) r ∧ bootBuiltins b.nm = some (.builtin id)) ∧
    ∀ (F : Addr → Prop) (H : Hp) (x y : V) (d c : D) (res : Res), Bw X.K F H x d → Bw X.K F H y c → b2v b d c = some res → ∀ Q, K1 X.K F H res Q → r [x, y] H Q := by
  cases b with
  | min =>
    refine ⟨_, ⟨_, call_min2 hc, by decide +kernel⟩, fun F H x y d c res bx bY e Q k => ?_⟩
    cases d <;> cases c <;> simp only [b2v, reduceCtorEq] at e
    cases e
    rw [bx.int, bY.int]
    exact ⟨_, _, rfl, k.now (.int _)⟩
  | max =>
    refine ⟨_, ⟨_, call_max2 hc, by decide +kernel⟩, fun F H x y d c res bx bY e Q k => ?_⟩
    cases d <;> cases c <;> simp only [b2v, reduceCtorEq] at e
    cases e
    rw [bx.int, bY.int]
    exact ⟨_, _, rfl, k.now (.int _)⟩

/-! ### isinstance -/
theorem kit_all : (["NoneType", "bool", "int", "str", "list", "tuple", "dict"] : List String).all (fun a => (["int", "bool", "str", "tuple", "list", "dict"] : List String).all fun t => decide (kitB a t = some (a == t || (a == "bool" && t == "int")))) = true := by decide +kernel
theorem tyx {F : Addr → Prop} {H : Hp} {K : PySem.W.Frag} {x : V} {d : D} (b : Bw K F H x d) (hs : spc d = false) : TyX K H x (.type (tyN d)) := by
  cases b with
  | lst h z r => exact .base (.lst h)
  | rp h =>
    cases h with
    | non => exact .base .non
    | bl b => exact .base (.bl b)
    | int b => exact .base (.int b)
    | str b => exact .base (.str b)
    | tup h z r =>
      rcases h with (h | ⟨o, h⟩) | ⟨o, its, n, h, c, _⟩
      · exact .base (.tup h)
      · exact .fTuple h
      · exact .kTuple h c
    | lst f h z r => exact .base (.lst h)
    | dct _ h _ _ _ => exact .base (.dK h)
    | err h g => cases hs
    | errF => cases hs
    | fn => cases hs
    | dl => cases hs
    | kd => cases hs
    | cst h z r =>
      rcases h with ⟨o, h⟩ | ⟨o, its, n, h, c, _⟩
      · exact .base (.frz h)
      · exact .kList h c
theorem isi_ok {F : Addr → Prop} {H : Hp} {x : V} {d : D} {t : String} (b : Bw X.K F H x d) (hs : spc d = false) (ht : (["int", "bool", "str", "tuple", "list", "dict"] : List String).contains t = true) {Q : VK} (q : Q (.bl (isiv d t)) H) : rIsi X.K [x, .ty t] H Q := by
  have ha : tyN d ∈ (["NoneType", "bool", "int", "str", "list", "tuple", "dict"] : List String) := by
    have e : ∀ a : String, a ∈ ((["NoneType", "bool", "int", "str", "list", "tuple", "dict"] : List String)) ↔ ((["NoneType", "bool", "int", "str", "list", "tuple", "dict"] : List String)).contains a = true := fun a => List.contains_iff_mem.symm
    rw [e]
    cases d <;> rfl
  have h1 := List.all_eq_true.mp (List.all_eq_true.mp kit_all _ ha) t (List.contains_iff_mem.mp ht)
  have h2 := of_decide_eq_true h1
  exact ⟨x, .ty t, .type (tyN d), .type t, _, rfl, .ty t, tyx b hs, kit_ty h2, q⟩

/-! ### places and slices -/
theorem atI_rp {F : Addr → Prop} {H : Hp} {K : PySem.W.Frag} {xs : List V} {ds : List D} {i : Int} {d : D} (r : RpL K F H xs ds) (e : atI ds i = some d) : ∃ v, atI xs i = some v ∧ Rp K F H v d := by
  unfold atI at e ⊢
  rw [r.length]
  cases h : ixN ds.length i with
  | none => rw [h] at e; cases e
  | some j =>
    rw [h] at e
    obtain ⟨v, h1, h2⟩ := r.get (show ds[j]? = some d from e)
    exact ⟨v, h1, h2⟩
theorem ix_ok {F : Addr → Prop} {H : Hp} {K : PySem.W.Frag} {x y : V} {da di d : D} (bx : Bw K F H x da) (bY : Bw K F H y di) (e : ixv da di = some d) {Q : VK} (q : ∀ v, Rp K F H v d → Q v H) : rIxL K x y H Q ∨ rIxT K x y H Q := by
  cases da <;> cases di <;> simp only [ixv, reduceCtorEq] at e
  · obtain ⟨a, xs, rfl, h, z, r⟩ := bx.list
    obtain ⟨v, h1, h2⟩ := atI_rp r e
    exact .inl ⟨a, xs, _, v, rfl, bY.int, h, h1, q v h2⟩
  · obtain ⟨a, xs, rfl, h, z, r⟩ := bx.tup
    obtain ⟨v, h1, h2⟩ := atI_rp r e
    exact .inr ⟨a, xs, _, v, rfl, bY.int, h, h1, q v h2⟩
theorem cut_whole {α : Type} {xs : List α} {lo hi : Option Int} (h : HT.sIx xs.length 0 lo = 0 ∧ HT.sIx xs.length xs.length hi = xs.length) : (xs.drop (HT.sIx xs.length 0 lo)).take (HT.sIx xs.length xs.length hi - HT.sIx xs.length 0 lo) = xs := by
  rw [h.1, h.2]
  simp
theorem sl_ok {F : Addr → Prop} {H : Hp} {K : PySem.W.Frag} {x : V} {da : D} {lo hi : Option Int} {res : Res} (bx : Bw K F H x da) (e : slv da lo hi = some res) {Q : VK} (k : K1 K F H res Q) : rSlL K x lo hi H Q ∨ rSlA K x lo hi H Q := by
  cases da <;> simp only [slv, reduceCtorEq] at e
  · cases e
    obtain ⟨a, xs, rfl, h, z, r⟩ := bx.list
    exact .inl ⟨a, xs, rfl, h, fun p hp => k _ _ (same_upd hp) (.newL hp (Nat.le_trans (cutV_length _ _ _) z) (r.cut lo hi))⟩
  · cases e
    obtain ⟨a, xs, rfl, h, z, r⟩ := bx.tup
    refine .inr ⟨a, xs, rfl, h, fun w => ?_, fun _ p hp => k _ _ (same_upd hp) (.newT hp (Nat.le_trans (cutV_length _ _ _) z) (r.cut lo hi))⟩
    rename_i ds
    have e2 : cutD ds lo hi = ds := cut_whole (by rw [← r.length]; exact w)
    rw [e2] at k
    exact k.now (v := .ref a) (Rp.tup h z r)
end
end Ev

/-! list(reversed(a list)). -/
namespace Ev
open PySem PySem.Spec PyProof.Rows L2 RT
section
variable {prog : Program} {w : World} {A : Around} {E : Value → Shared → Prop} {s : Shared}
theorem revFill {R : Result → Shared → Prop} {it l : Addr} {xs : Array Value} (hh : A.handled = none) (hi : s.heap.IsRevIter it l ((xs.size : Int) - 1)) (hl : s.heap.IsList l xs) (hne : l ≠ it) (hn : xs.size ≤ sizeLine)
    (S : Addr) (nl : S ≠ l) (ni : S ≠ it) (c₀ : Nat) (hS : s.heap.get? S = some { cls := .type "list", data := .seq #[] c₀ })
    (k : ∀ h' tk ys c', (∀ b o, b ≠ S → b ≠ it → s.heap.get? b = some o → h'.get? b = some o) → h'.get? S = some { cls := .type "list", dict := none, data := .seq ys c', slots := #[] } →
      ItemsOf (fun i v => xs[xs.size - 1 - i]? = some v) ys xs.size → R (.ok (.ret .none)) { s with heap := h', toks := tk }) :
    wpAny (model prog w) A.in1 (Builtin.List.listExtendWith (.ref S) (.ref it) .none)
      (fun fin s' => match fin with | .done f => R (.ok f) s' | .again c' => c'.quiet = true ∧ codeAny (model prog w) A c' R s') (fun e s' => R (.error e) s') s := by
  have W := (Walks.listRev (prog := prog) (w := w) (A := A.in1) hh it l hne xs).toS
  have hf : S ∉ [it, l] := by
    simp only [List.mem_cons, List.not_mem_nil, or_false, not_or]
    exact ⟨ni, nl⟩
  have tyI : s.TypeIs (.ref it) "list_reverseiterator" := hi.typeIs
  have ns : Builtin.List.listSameRef (.ref S) (.ref it) = false := by
    simp [Builtin.List.listSameRef, ni]
  unfold Builtin.List.listExtendWith
  refine wpAny_bind (wpAny_typeOf tyI ?_)
  rw [if_neg (show ¬ _ from by rw [ns]; decide)]
  refine wpAny_bind (wpAny_pyIter_revIter hi (wpAny_bind (wpAny_holding ?_)))
  unfold Builtin.List.listLengthHint
  refine wpAny_bind (wpAny_specialOf tyI nolen_lri ?_)
  show wpAny _ A.in1 (specialOf (Value.ref it) (Str.ofString "__length_hint__") >>= _) _ _ s
  refine wpAny_bind (wpAny_specialOf tyI hint_lri ?_)
  generalize eid : ("list_reverseiterator.__length_hint__" : String) = id0
  wp_delta
  rw [show splitId id0 = some ("list_reverseiterator", "__length_hint__") from (by subst eid; decide +kernel)]
  subst eid
  refine wpAny_bind (wpAny_isInstance (b := true) tyI (show _ from by rw [isSubtype_type]; kernel_rfl) (wpAny_pure ?_))
  rw [if_neg (show ¬ _ from by decide)]
  have z0 : ((xs.size : Nat) : Int) - 1 - ((0 : Nat) : Int) = (xs.size : Int) - 1 := by omega
  refine wpAny_pure ⟨plainId_quiet F.plain_extend_loop _, codeAny_extend_loopS W hn S hf .none xs.size 0 _ _ c₀ rfl (Nat.zero_le _) ⟨Nat.zero_le _, by rw [z0]; exact hi, hl⟩ hS (ItemsOf.nil _) fun s' ys c' hm hS' hy => ?_⟩
  rw [Moved.eq_with hm]
  refine k s'.heap s'.toks ys c' (fun b o n1 n2 e => hm.heap b o (fun q => ?_) e) hS' hy
  rcases List.mem_cons.mp q with q | q
  · exact n1 q
  · exact n2 (List.mem_singleton.mp q)
theorem call_list_rev {it l : Addr} {xs : Array Value} {Q : Value → Shared → Prop} (hh : A.handled = none) (hi : s.heap.IsRevIter it l ((xs.size : Int) - 1)) (hl : s.heap.IsList l xs) (hne : l ≠ it) (hn : xs.size ≤ sizeLine)
    (k : ∀ h' tk ys c', (∀ b o, b ≠ it → s.heap.get? b = some o → h'.get? b = some o) → h'.get? s.heap.objs.size = some { cls := .type "list", dict := none, data := .seq ys c', slots := #[] } →
      ItemsOf (fun i v => xs[xs.size - 1 - i]? = some v) ys xs.size → Q (.ref s.heap.objs.size) { s with heap := h', toks := tk }) :
    wpAny (model prog w) A (call (.type "list") [.ref it]) Q E s := by
  refine callType_codes (Q₁ := fun o t => o = .ref s.heap.objs.size ∧ t = { s with heap := s.heap.push { cls := .type "list", data := .seq #[] } }) F.called_list (F.typeCall_list_1 _) F.entry_list_init
    (code_list_new _ ⟨rfl, rfl⟩) fun o t h => ?_
  obtain ⟨rfl, rfl⟩ := h
  obtain ⟨oi, hoi, _⟩ := id hi
  obtain ⟨ol, hol, _⟩ := id hl
  have n1 : s.heap.objs.size ≠ it := Nat.ne_of_gt (Heap.lt_size hoi)
  have n2 : s.heap.objs.size ≠ l := Nat.ne_of_gt (Heap.lt_size hol)
  have hS : (s.heap.push { cls := .type "list", data := .seq #[] }).get? s.heap.objs.size = some { cls := .type "list", data := .seq #[] } := Heap.get?_push_size _ rfl
  refine ⟨⟨_, hS, rfl⟩, F.args_list_init_2 _ _, ?_⟩
  show wpAny _ _ (do let old ← Builtin.List.listItems (.ref s.heap.objs.size); Builtin.List.listUpdate (.ref s.heap.objs.size) (fun _ => #[]); letGo old.toList.reverse; Builtin.List.listExtendWith (.ref s.heap.objs.size) (.ref it) .none) _ _ _
  refine wpAny_bind ?_
  unfold Builtin.List.listItems
  refine wpAny_bind (wpAny_seqItems hS rfl (wpAny_pure ?_))
  show wpAny _ _ (updateSeq s.heap.objs.size (fun _ => #[]) >>= fun _ => letGo (#[] : Array Value).toList.reverse >>= fun _ => Builtin.List.listExtendWith (.ref s.heap.objs.size) (.ref it) .none) _ _ _
  refine wpAny_bind (wpAny_updateSeq hS rfl ?_)
  have hS2 := Heap.get?_update_self (Obj.mapSeq (fun _ => (#[] : Array Value))) hS rfl
  have oth : ∀ b o, b ≠ s.heap.objs.size → s.heap.get? b = some o → ((s.heap.push { cls := .type "list", data := .seq #[] }).update s.heap.objs.size (Obj.mapSeq (fun _ => (#[] : Array Value)))).get? b = some o := fun b o hb e =>
    (Heap.get?_update_other _ _ (Ne.symm hb)).trans (Heap.get?_push_of_some _ e)
  refine wpAny_bind (wpAny_letGo ?_)
  refine revFill (A := A.in1) hh (hi.at fun o e => oth it o (Ne.symm n1) e) ?_ hne hn s.heap.objs.size n2 n1 _ hS2 fun h' tk ys c' hk hS' hy => ?_
  · obtain ⟨o, e, r⟩ := hl
    exact ⟨o, oth l o (Ne.symm n2) e, r⟩
  · exact ⟨rfl, k h' tk ys c' (fun b o n e => hk b o (Nat.ne_of_lt (Heap.lt_size e)) n (oth b o (Nat.ne_of_lt (Heap.lt_size e)) e)) hS' hy⟩
end
section
variable {X : Cx}
def tLstRev (K : PySem.W.Frag) (te : TE) : TE := fun σ H Q => te σ H fun v H1 => ∃ (a : Addr) (xs : List V), v = .ref a ∧ SqL K H1 a xs ∧ ∀ q, H1 q = none → Q (.ref q) (upd H1 q (.lst xs.reverse))
theorem pe_lstRev {e : Expr} {te : TE} {p p2 pos pos2 : Pos} (hc : X.calm = true) (hg : Gl X "list") (hm : X.mg "list" = none) (hg2 : Gl X "reversed") (hm2 : X.mg "reversed" = none) (he : PE X e te) (ns : noStar e = true) :
    PE X (.Call (.Name "list" p) [.Call (.Name "reversed" p2) [e] [] pos2] [] pos) (tLstRev X.K te) := by
  have hs : starEach [e] X.env = (false, eval e X.env) :: starEach [] X.env := starE ns
  have hs2 : starEach [.Call (.Name "reversed" p2) [e] [] pos2] X.env = (false, eval (.Call (.Name "reversed" p2) [e] [] pos2) X.env) :: starEach [] X.env := starE rfl
  refine ⟨fun pins s σ H Q I h => ?_⟩
  refine Call_ (ld_blt I hg hm PyProof.Rows.boot_list (PyProof.Rows.callWith_type1 (args_cons (Call_ (ld_blt I hg2 hm2 PyProof.Rows.boot_reversed (PyProof.Rows.callWith_type1 (args_cons (thn (he.run pins s σ H _ I h) fun u s1 ⟨v, H1, I1, r1, q1⟩ => args_nil ?_) hs) hs rfl))) hs2) hs2 rfl))
  obtain ⟨a, xs, ev, hq, q⟩ := q1
  subst ev
  obtain rfl : u = Value.ref a := r1
  obtain ⟨its, rv, pl, hz⟩ := I1.list hq
  refine call_reversed_list pl.isList (args_nil ?_)
  have I2 : Inv X pins σ H1 { s1 with heap := s1.heap.push (revObj a ((its.toArray.size : Int) - 1)) } := I1.kept (t' := s1.toks) fun b o e => Heap.get?_push_of_some _ e
  have fp := I1.fpOk (H' := H1) (b := s1.heap.objs.size) (Nat.le_refl _) (I1.hok.fresh (Nat.le_refl _))
  have hl := pl.isList
  obtain ⟨ol, hol, _⟩ := id hl
  have hne : a ≠ s1.heap.objs.size := Nat.ne_of_lt (Heap.lt_size hol)
  refine call_list_rev (s := { s1 with heap := s1.heap.push (revObj a ((its.toArray.size : Int) - 1)) }) (I1.ok.hd hc) ⟨_, Heap.get?_push_size _ rfl, rfl, rfl⟩ (hl.push _) hne (by rw [List.size_toArray, ← rv.length]; exact hz) fun h' tk ys c' hk hy hi => ?_
  have hsz : (s1.heap.push (revObj a ((its.toArray.size : Int) - 1))).objs.size = s1.heap.objs.size + 1 := Heap.size_push _ _
  refine ⟨.ref (s1.heap.push (revObj a ((its.toArray.size : Int) - 1))).objs.size, upd H1 (s1.heap.push (revObj a ((its.toArray.size : Int) - 1))).objs.size (.lst xs.reverse), ?_, rfl, q _ (I2.hok.fresh (Nat.le_refl _))⟩
  refine I2.turnedNew (h' := h') (t' := tk) (ch := [s1.heap.objs.size]) (fun b o hb e => hk b o (fun z => hb (by rw [z]; exact List.mem_cons_self)) e) (fun b hb => ?_) (Nat.le_refl _) ⟨by rw [List.length_reverse]; exact hz, ys.toList, c', vals_rev rv hi, ?_⟩
  · rw [List.mem_singleton.mp hb]
    exact fp
  · rw [Array.toArray_toList]
    exact hy
end
end Ev

/-! tuple(reversed(a tuple)). -/
namespace Ev
open PySem PySem.Spec PyProof.Rows L2 RT
theorem nolen_rt : typeLookup (.type "reversed") "__len__" = pure none := by rw [typeLookup_type, builtinLookup_eq_fast]; kernel_rfl
theorem slot_rt_hint : PySem.Slot "reversed" "__length_hint__" "reversed.__length_hint__" :=
  .of (owner := "reversed") (n := "__length_hint__") (by rw [typeLookup_type, builtinLookup_eq_fast]; kernel_rfl) (by decide +kernel) (by decide +kernel) (by decide +kernel)
    (by first | exact .inl (by decide +kernel) | exact .inr (by decide +kernel)) (by rw [isSubtype_type]; kernel_rfl)
theorem entry_rt_hint : entryFor table "reversed.__length_hint__" = some Builtin.«reversed.__length_hint__» := entryFor_of_tree (by kernel_rfl)
theorem args_rt_hint (a : Value) : argsOk "reversed.__length_hint__" ⟨[a], []⟩ := by
  unfold argsOk; rw [signature?_of (id := "reversed.__length_hint__") (n := ['_', '_', 't', 'n', 'i', 'h', '_', 'h', 't', 'g', 'n', 'e', 'l', '_', '_']) (o := ['d', 'e', 's', 'r', 'e', 'v', 'e', 'r']) (by kernel_rfl) owner_rt]; kernel_rfl
theorem rt_at {h h' : Heap} {t : Addr} {items : Array Value} (x : IsTup h t items) (e : ∀ o, h.get? t = some o → h'.get? t = some o) : IsTup h' t items := let ⟨o, ho, r⟩ := x; ⟨o, e _ ho, r⟩
section
variable {prog : Program} {w : World} {A : Around} {E : Value → Shared → Prop} {s : Shared}
theorem walks_rt (hh : A.handled = none) (it t : Addr) (hne : t ≠ it) (items : Array Value) (hn : items.size ≤ sizeLine) :
    Walks prog w A it [it, t] [it] items.size (fun i v => items[items.size - 1 - i]? = some v) (fun i h => i ≤ items.size ∧ IsRt h it t ((items.size : Int) - 1 - (i : Nat)) ∧ IsTup h t items) where
  sub := fun b hb => by simp at hb; simp [hb]
  frame := fun _ _ _ st hk => ⟨st.1, st.2.1.at fun o e => hk it (by simp) o e, rt_at st.2.2 fun o e => hk t (by simp) o e⟩
  item := fun i s Q E hi st hQ => by
    obtain ⟨h1, h2, h3⟩ := st
    have e1 : (items.size : Int) - 1 - ((i : Nat) : Int) = ((items.size - 1 - i : Nat) : Int) := by omega
    rw [e1] at h2
    have hx : items[items.size - 1 - i]? = some (items[items.size - 1 - i]'(by omega)) := Array.getElem?_eq_getElem _
    refine next_rt_item h2 h3 hx hn fun h' k1 k2 => ?_
    have e2 : ((items.size - 1 - i : Nat) : Int) - 1 = (items.size : Int) - 1 - ((i + 1 : Nat) : Int) := by omega
    rw [e2] at k1
    exact hQ _ h' _ hx ⟨by omega, k1, rt_at h3 fun o e => (k2.2 t hne).trans e⟩ fun b o hb e => (k2.2 b (fun h => hb (by simp [h]))).trans e
  done := fun s Q E st hQ => by
    obtain ⟨h1, h2, h3⟩ := st
    have e1 : (items.size : Int) - 1 - ((items.size : Nat) : Int) = -1 := by omega
    rw [e1] at h2
    exact next_rt_end hh h2 fun h' he' => hQ h' s.toks fun b o hb e => he' b o (fun h => hb (by simp [h])) e
  self := fun _ _ _ _ st hQ => iter_rt st.2.1 hQ
theorem hint_rt {it t : Addr} {items : Array Value} {Q : Value → Shared → Prop} (hit : IsRt s.heap it t ((items.size : Int) - 1)) (ht : IsTup s.heap t items) (hn : items.size ≤ sizeLine)
    (h : ∀ tk u, Q (.int (items.size : Int) u) { s with toks := tk }) :
    wpAny (model prog w) A (call (.builtin "reversed.__length_hint__") [.ref it]) Q E s := by
  obtain ⟨o, ho, hc, hd⟩ := id hit
  rw [sizeLine_eq] at hn
  refine wpAny_call_entry slot_rt_hint hit.typeIs entry_rt_hint ?_ (args_rt_hint _)
  unfold Builtin.«reversed.__length_hint__»
  refine wpAny_bind (wpAny_of_eq (a := Value.ref it) rfl ?_)
  try dsimp only
  refine wpAny_bind (wpAny_field ho hd (x := .ref t) rfl ?_)
  try dsimp only
  try rw [if_neg (by decide)]
  try dsimp only
  refine wpAny_bind (len_tuple ht (by omega) ?_)
  refine wpAny_bind (wpAny_of_eq (a := some ((items.size : Nat) : Int)) rfl ?_)
  try dsimp only
  refine wpAny_bind (wpAny_field (s := { s with toks := s.toks + 1 + 1 }) ho hd (x := rawInt ((items.size : Int) - 1)) rfl ?_)
  unfold rawInt
  try dsimp only
  rw [if_neg (by omega)]
  rw [show (items.size : Int) - 1 + 1 = (items.size : Int) by omega]
  unfold retInt
  refine wpAny_bind (wpAny_mkInt ?_)
  exact wpAny_pure ⟨_, rfl, h _ _⟩
theorem collect_rt {it t : Addr} {items : Array Value} {Q : List Value → Shared → Prop} (hh : A.handled = none) (hit : IsRt s.heap it t ((items.size : Int) - 1)) (ht : IsTup s.heap t items) (hne : t ≠ it) (hn : items.size ≤ sizeLine) (h0 : 0 < items.size)
    (hQ : ∀ (h' : Heap) (tk : Nat) (acc : Array Value), (∀ b o, b ≠ it → s.heap.get? b = some o → h'.get? b = some o) → ItemsOf (fun i v => items[items.size - 1 - i]? = some v) acc items.size → Q acc.toList { s with heap := h', toks := tk }) :
    wpAny (model prog w) A (collect (.ref it)) Q E s := by
  have W := (walks_rt (prog := prog) (w := w) (A := A.in1) hh it t hne items hn).toS
  obtain ⟨oi, hoi, _⟩ := id hit
  obtain ⟨ol, hol, _⟩ := id ht
  have hSi : s.heap.objs.size ≠ it := Nat.ne_of_gt (Heap.lt_size hoi)
  have hSl : s.heap.objs.size ≠ t := Nat.ne_of_gt (Heap.lt_size hol)
  have hSf : s.heap.objs.size ∉ [it, t] := by simp only [List.mem_cons, List.not_mem_nil, or_false, not_or]; exact ⟨hSi, hSl⟩
  unfold collect
  refine wpAny_bind (wpAny_runValue (codeAny_builtin F.entry_proto_collect ?_))
  rw [Around.under_plainId F.plain_proto_collect _]
  show wpAny _ A.in1 (newList [] >>= fun l' => again (.builtin "list.__iadd__" ⟨[l', .ref it], []⟩)) _ _ s
  refine wpAny_bind (wpAny_newObj_type ?_)
  refine wpAny_pure ⟨plainId_quiet F.plain_list_iadd _, codeAny_builtin F.entry_list_iadd ?_⟩
  rw [Around.under_plainId F.plain_list_iadd _]
  have hS₁ : (s.heap.push { cls := .type "list", data := .seq ([] : List Value).toArray }).get? s.heap.objs.size = some { cls := .type "list", data := .seq ([] : List Value).toArray } := Heap.get?_push_size _ rfl
  have hit1 : IsRt (s.heap.push { cls := .type "list", data := .seq ([] : List Value).toArray }) it t ((items.size : Int) - 1) := hit.at fun o e => Heap.get?_push_of_some _ e
  have ht1 : IsTup (s.heap.push { cls := .type "list", data := .seq ([] : List Value).toArray }) t items := rt_at ht fun o e => Heap.get?_push_of_some _ e
  have hT : ({ s with heap := s.heap.push { cls := .type "list", data := .seq ([] : List Value).toArray } } : Shared).TypeIs (.ref it) "reversed" := hit1.typeIs (s := { s with heap := s.heap.push { cls := .type "list", data := .seq ([] : List Value).toArray } })
  have h1 : Builtin.List.listSameRef (.ref s.heap.objs.size) (.ref it) = false := by simp [Builtin.List.listSameRef, hSi]
  show wpAny _ A.in1 (Builtin.List.listExtendWith (.ref s.heap.objs.size) (.ref it) (.ref s.heap.objs.size)) _ _ _
  unfold Builtin.List.listExtendWith
  refine wpAny_bind (wpAny_typeOf hT ?_)
  rw [if_neg (by rw [h1]; decide)]
  refine wpAny_bind (iter_rt hit1 ?_)
  refine wpAny_bind (wpAny_holding ?_)
  unfold Builtin.List.listLengthHint
  refine wpAny_bind (wpAny_specialOf hT nolen_rt ?_)
  show wpAny _ A.in1 (specialOf (Value.ref it) (Str.ofString "__length_hint__") >>= _) _ _ _
  refine wpAny_bind (wpAny_specialOf hT slot_rt_hint.lookup ?_)
  generalize hid : ("reversed.__length_hint__" : String) = id0
  wp_delta
  rw [show splitId id0 = some ("reversed", "__length_hint__") from by subst hid; decide +kernel]
  subst hid
  refine wpAny_bind (wpAny_isInstance (b := true) hT (by rw [isSubtype_type]; kernel_rfl) ?_)
  try rw [if_neg (by decide +kernel)]
  refine wpAny_bind (wpAny_rule ?_)
  refine wpAny_bind (wpAny_of_eq (slot_rt_hint.bind (.ref it)) ?_)
  try dsimp only
  have hz := hn
  rw [sizeLine_eq] at hz
  have k1 : (0 : Int) < (items.size : Int) := by omega
  have k2 : (items.size : Int) ≤ 16777216 := by omega
  refine wpAny_bind (wpAny_attempt (hint_rt hit1 ht1 hn fun tk u => ?_))
  generalize (items.size : Int) = k at k1 k2 ⊢
  dsimp only
  refine wpAny_bind (m := asInt? (.int k u)) (wpAny_pure ?_)
  dsimp only
  rw [if_neg (by simp [Builtin.List.listFitsIndex]; omega)]
  try dsimp only
  rw [if_neg (by omega)]
  try dsimp only
  rw [if_neg (by simp [Builtin.List.listTooLong, sizeLine_eq]; omega)]
  refine wpAny_pure ?_
  rw [if_pos (by simp; left; omega)]
  clear k1 k2
  refine wpAny_bind (wpAny_rule ?_)
  refine wpAny_bind ?_
  show wpAny _ A.in1 (updateSeq s.heap.objs.size (·.push .none) >>= fun _ => updateSeq s.heap.objs.size (·.pop)) _ _ _
  refine wpAny_bind (wpAny_updateSeq hS₁ rfl ?_)
  have hS₂ := Heap.get?_update_self (Obj.mapSeq (·.push Value.none)) hS₁ rfl
  refine wpAny_updateSeq hS₂ rfl ?_
  have hS₃ := Heap.get?_update_self (Obj.mapSeq (·.pop)) hS₂ rfl
  have oth : ∀ b o, b ≠ s.heap.objs.size → (s.heap.push { cls := .type "list", data := .seq ([] : List Value).toArray }).get? b = some o →
      (((s.heap.push { cls := .type "list", data := .seq ([] : List Value).toArray }).update s.heap.objs.size (Obj.mapSeq (·.push Value.none))).update s.heap.objs.size (Obj.mapSeq (·.pop))).get? b = some o :=
    fun b o hb e => (Heap.get?_update_other _ _ (Ne.symm hb)).trans ((Heap.get?_update_other _ _ (Ne.symm hb)).trans e)
  have e0 : ((items.size : Nat) : Int) - 1 - ((0 : Nat) : Int) = (items.size : Int) - 1 := by omega
  refine wpAny_pure ⟨plainId_quiet F.plain_extend_loop _, codeAny_extend_loopS W hn _ hSf _ items.size 0 _ _ _ rfl (Nat.zero_le _) ⟨Nat.zero_le _, by rw [e0]; exact hit1.at fun o e => oth it o (Ne.symm hSi) e, rt_at ht1 fun o e => oth t o (Ne.symm hSl) e⟩ hS₃ (ItemsOf.nil _) fun s' acc' c' hm hS' hacc => ?_⟩
  show wpAny _ A (load s.heap.objs.size >>= _) _ _ s'
  refine wpAny_bind (wpAny_load hS' ?_)
  refine wpAny_pure ?_
  rw [Moved.eq_with hm]
  refine hQ s'.heap s'.toks acc' (fun b o hb e => hm.heap b o (fun hmem => ?_) (oth b o (Nat.ne_of_lt (Heap.lt_size e)) (Heap.get?_push_of_some _ e))) hacc
  rcases List.mem_cons.mp hmem with e' | hmem
  · exact absurd (Heap.lt_size e) (by rw [e']; exact Nat.lt_irrefl _)
  · exact hb (List.mem_singleton.mp hmem)
theorem code_tuple_new_rt {it t : Addr} {items : Array Value} {Q₁ : Value → Shared → Prop} (hh : A.handled = none) (hit : IsRt s.heap it t ((items.size : Int) - 1)) (ht : IsTup s.heap t items) (hne : t ≠ it) (hn : items.size ≤ sizeLine) (h0 : 0 < items.size)
    (h : ∀ (h' : Heap) (tk : Nat) (acc : Array Value), (∀ b o, b ≠ it → s.heap.get? b = some o → h'.get? b = some o) → ItemsOf (fun i v => items[items.size - 1 - i]? = some v) acc items.size →
      Q₁ (.ref h'.objs.size) { s with heap := h'.push { cls := .type "tuple", data := .seq acc }, toks := tk }) :
    codeAny (model prog w) A (.call (.builtin "tuple.__new__") ⟨[.type "tuple", .ref it], []⟩) (wants Q₁ E) s := by
  refine codeAny_of_tree ?_
  show wpAny _ A.in1 (do checkBuiltinCall "tuple.__new__" ⟨[.type "tuple", .ref it], []⟩; again (.builtin "tuple.__new__" ⟨[.type "tuple", .ref it], []⟩)) _ _ s
  refine wpAny_bind (wpAny_of_eq (F.newCall_tuple_1 _) (wpAny_pure ⟨plainId_quiet F.plain_tuple_new _, codeAny_builtin F.entry_tuple_new ?_⟩))
  rw [Around.under_plainId F.plain_tuple_new _]
  have hsub := sub_tuple_self
  have hinit := init_tuple_lookup
  have hmh := madeHere_tuple
  have hTI : s.TypeIs (.ref it) "reversed" := hit.typeIs
  have hh1 : A.in1.handled = none := hh
  wp_walk using wpAny_typeOf hTI, collect_rt (A := A.in1) hh1 hit ht hne hn h0
  intro h' tk acc hk hacc
  show wpAny _ _ (Builtin.Tuple.tupleExact acc.toList.toArray >>= fun v => ret v) _ _ _
  unfold Builtin.Tuple.tupleExact
  refine wpAny_bind (wpAny_newObj_type ?_ (by show acc.toList.toArray.size ≤ sizeLine; simp only [Array.toArray_toList]; rw [hacc.1]; exact hn))
  refine wpAny_pure ?_
  have e : acc.toList.toArray = acc := by simp
  rw [e]
  exact h h' tk acc hk hacc
theorem call_tuple_rt {it t : Addr} {items : Array Value} {Q : Value → Shared → Prop} (hh : A.handled = none) (hit : IsRt s.heap it t ((items.size : Int) - 1)) (ht : IsTup s.heap t items) (hne : t ≠ it) (hn : items.size ≤ sizeLine) (h0 : 0 < items.size)
    (hQ : ∀ (h' : Heap) (tk : Nat) (acc : Array Value), (∀ b o, b ≠ it → s.heap.get? b = some o → h'.get? b = some o) → ItemsOf (fun i v => items[items.size - 1 - i]? = some v) acc items.size →
      Q (.ref h'.objs.size) { s with heap := h'.push { cls := .type "tuple", data := .seq acc }, toks := tk }) :
    wpAny (model prog w) A (call (.type "tuple") [.ref it]) Q E s := by
  refine callType_codes (Q₁ := fun obj s₁ => s₁.TypeIs obj "tuple" ∧ Q obj s₁) F.called_tuple (F.typeCall_tuple_1 _) F.entry_object_init
    (code_tuple_new_rt (A := A.in1) hh hit ht hne hn h0 fun h' tk acc hk hacc => ⟨⟨_, Heap.get?_push_size _ rfl, rfl⟩, hQ h' tk acc hk hacc⟩) fun obj s₁ h₁ => ?_
  exact ⟨h₁.1, F.args_object_init_2 obj _, object_init_meets F.called_tuple.init.lookup F.called_tuple.made (by decide) prog w A.in1 _ s₁ ⟨h₁.1, rfl, h₁.2⟩⟩
end
section
variable {X : Cx}
def tTupRevA (K : PySem.W.Frag) (te : TE) : TE := fun σ H Q => te σ H fun v H1 => ∃ (a : Addr) (xs : List V), v = .ref a ∧ (SqL K H1 a xs ∨ SqT K H1 a xs ∧ xs ≠ []) ∧ ∀ q, H1 q = none → Q (.ref q) (upd H1 q (.tup xs.reverse))
theorem pe_tupRevA {e : Expr} {te : TE} {p p2 pos pos2 : Pos} (hc : X.calm = true) (hg : Gl X "tuple") (hm : X.mg "tuple" = none) (hg2 : Gl X "reversed") (hm2 : X.mg "reversed" = none) (he : PE X e te) (ns : noStar e = true) :
    PE X (.Call (.Name "tuple" p) [.Call (.Name "reversed" p2) [e] [] pos2] [] pos) (tTupRevA X.K te) := by
  have hs : starEach [e] X.env = (false, eval e X.env) :: starEach [] X.env := starE ns
  have hs2 : starEach [.Call (.Name "reversed" p2) [e] [] pos2] X.env = (false, eval (.Call (.Name "reversed" p2) [e] [] pos2) X.env) :: starEach [] X.env := starE rfl
  refine ⟨fun pins s σ H Q I h => ?_⟩
  refine Call_ (ld_blt I hg hm boot_tuple (PyProof.Rows.callWith_type1 (args_cons (Call_ (ld_blt I hg2 hm2 PyProof.Rows.boot_reversed (PyProof.Rows.callWith_type1 (args_cons (thn (he.run pins s σ H _ I h) fun u s1 ⟨v, H1, I1, r1, q1⟩ => args_nil ?_) hs) hs rfl))) hs2) hs2 rfl))
  obtain ⟨a, xs, ev, hq, q⟩ := q1
  subst ev
  obtain rfl : u = Value.ref a := r1
  rcases hq with hq | ⟨hq, hne0⟩
  · obtain ⟨its, rv, p', hz⟩ := I1.list hq
    refine call_reversed_list p'.isList (args_nil ?_)
    have k0 : ∀ b o, s1.heap.get? b = some o → (s1.heap.push (revObj a ((its.toArray.size : Int) - 1))).get? b = some o := fun b o e => Heap.get?_push_of_some _ e
    have I2 : Inv X pins σ H1 { s1 with heap := s1.heap.push (revObj a ((its.toArray.size : Int) - 1)) } := I1.kept (t' := s1.toks) k0
    obtain ⟨f0, f1, f2, f3, f4, f5⟩ := I1.fpOk (H' := H1) (b := s1.heap.objs.size) (Nat.le_refl _) (I1.hok.fresh (Nat.le_refl _))
    have hl := p'.isList
    obtain ⟨ol, hol, _⟩ := id hl
    have hne : a ≠ s1.heap.objs.size := Nat.ne_of_lt (Heap.lt_size hol)
    have hn : its.toArray.size ≤ sizeLine := by rw [List.size_toArray, ← rv.length]; exact hz
    refine call_tuple_rev (s := { s1 with heap := s1.heap.push (revObj a ((its.toArray.size : Int) - 1)) }) (I1.ok.hd hc) ⟨_, Heap.get?_push_size _ rfl, rfl, rfl⟩ (hl.push _) hne hn fun h' tk acc hk hi => ?_
    have I3 : Inv X pins σ H1 { s1 with heap := h', toks := tk } := I2.turned (t' := tk) (fun b o hb e => hk b o hb e) f0 f1 f3 f4 f5
    refine ⟨.ref h'.objs.size, upd H1 h'.objs.size (.tup xs.reverse), I3.laid (t' := tk) (fun c o e => Heap.get?_push_of_some _ e) (Nat.le_refl _) (show ObjOk X.prog X.w _ _ _ (.tup xs.reverse) from ⟨by rw [List.length_reverse]; exact hz, acc.toList, vals_rev rv hi, ?_⟩), rfl, q _ (I3.hok.fresh (Nat.le_refl _))⟩
    rw [Array.toArray_toList]
    exact IsTup.new _ _
  · obtain ⟨its, rv, p', hz⟩ := I1.tuple hq
    have hl := rv.length
    have hln := line63
    have h0 : 0 < its.toArray.size := by
      rw [List.size_toArray, ← hl]
      exact List.length_pos_iff.mpr hne0
    refine call_reversed_tup p' (fun A E Q k => PyProof.Rows.len_tuple p' (by simp only [List.size_toArray] <;> omega) k) (args_nil ?_)
    have k0 : ∀ b o, s1.heap.get? b = some o → (s1.heap.push (rtObj a ((its.toArray.size : Int) - 1))).get? b = some o := fun b o e => Heap.get?_push_of_some _ e
    have I2 : Inv X pins σ H1 { s1 with heap := s1.heap.push (rtObj a ((its.toArray.size : Int) - 1)), toks := s1.toks + 1 + 1 } := I1.kept (t' := s1.toks + 1 + 1) k0
    obtain ⟨f0, f1, f2, f3, f4, f5⟩ := I1.fpOk (H' := H1) (b := s1.heap.objs.size) (Nat.le_refl _) (I1.hok.fresh (Nat.le_refl _))
    obtain ⟨ol, hol, _⟩ := id p'
    have hne : a ≠ s1.heap.objs.size := Nat.ne_of_lt (Heap.lt_size hol)
    have hn : its.toArray.size ≤ sizeLine := by rw [List.size_toArray, ← rv.length]; exact hz
    refine call_tuple_rt (s := { s1 with heap := s1.heap.push (rtObj a ((its.toArray.size : Int) - 1)), toks := s1.toks + 1 + 1 }) (I1.ok.hd hc) ⟨_, Heap.get?_push_size _ rfl, rfl, rfl⟩ (rt_at p' fun o e => k0 _ _ e) hne hn h0 fun h' tk acc hk hi => ?_
    have I3 : Inv X pins σ H1 { s1 with heap := h', toks := tk } := I2.turned (t' := tk) (fun b o hb e => hk b o hb e) f0 f1 f3 f4 f5
    refine ⟨.ref h'.objs.size, upd H1 h'.objs.size (.tup xs.reverse), I3.laid (t' := tk) (fun c o e => Heap.get?_push_of_some _ e) (Nat.le_refl _) (show ObjOk X.prog X.w _ _ _ (.tup xs.reverse) from ⟨by rw [List.length_reverse]; exact hz, acc.toList, vals_rev rv hi, ?_⟩), rfl, q _ (I3.hok.fresh (Nat.le_refl _))⟩
    rw [Array.toArray_toList]
    exact IsTup.new _ _
end
end Ev

/-! x[::-1], x a tuple; len(set(x)), x a tuple of ints. -/
namespace Ev
open PySem PySem.Spec PyProof.Rows L2 RT HT
section
variable {prog : Program} {w : World} {A : Around} {E : Value → Shared → Prop} {s : Shared}
theorem sliceApplied_rev {sl : Addr} {vs : Value} {n : Nat} {Q : Int × Int × Nat → Shared → Prop} (hs : s.heap.IsSliceOf sl .none .none vs) (ps : IsPart vs (some (-1)))
    (h : Q ((n : Int) - 1, -1, n) s) : wpAny (model prog w) A (Builtin.Slice.sliceApplied (.ref sl) (pure (n : Int))) Q E s := by
  obtain ⟨os, hos, hcs, hds⟩ := id hs
  unfold Builtin.Slice.sliceApplied Builtin.Slice.sliceFields
  refine wpAny_bind (wpAny_bind (wpAny_field hos hds (x := .none) rfl (wpAny_bind (wpAny_field hos hds (x := .none) rfl (wpAny_bind (wpAny_field hos hds (x := vs) rfl (wpAny_pure ?_)))))))
  refine wpAny_bind (slicePart_ ps ?_)
  show wpAny _ _ (if ((-1 : Int) == 0) = true then _ else _) _ _ s
  rw [if_neg (by decide)]
  refine wpAny_bind (slicePart_none (wpAny_bind (slicePart_none (wpAny_bind (wpAny_pure ?_)))))
  show wpAny _ _ (match Builtin.Slice.sliceAdjust none none (-1) (n : Int) with | (lo, hi) => pure (lo, (-1 : Int), Builtin.Slice.slicePlaces lo hi (-1))) _ _ s
  have e1 : Builtin.Slice.sliceAdjust none none (-1) (n : Int) = ((n : Int) - 1, -1) := rfl
  rw [e1]
  show wpAny _ _ (pure ((n : Int) - 1, (-1 : Int), Builtin.Slice.slicePlaces ((n : Int) - 1) (-1) (-1))) _ _ s
  have e2 : Builtin.Slice.slicePlaces ((n : Int) - 1) (-1) (-1) = n := by
    unfold Builtin.Slice.slicePlaces
    simp
    try omega
  rw [e2]
  exact wpAny_pure h
theorem pick_rev (xs : Array Value) : ((List.range xs.size).filterMap fun (m : Nat) => xs[(((xs.size : Int) - 1) + (m : Int) * (-1)).toNat]?).toArray = xs.toList.reverse.toArray := by
  congr 1
  have e : ∀ k, k ≤ xs.size → ((List.range k).filterMap fun (m : Nat) => xs[(((xs.size : Int) - 1) + (m : Int) * (-1)).toNat]?) = (xs.toList.drop (xs.size - k)).reverse := fun k => by
    induction k with
    | zero => intro _; rw [List.drop_eq_nil_of_le (by simp)]; rfl
    | succ k ih =>
      intro hk
      rw [List.range_succ, List.filterMap_append, ih (by omega)]
      have e1 : (((xs.size : Int) - 1) + (k : Int) * (-1)).toNat = xs.size - (k + 1) := by omega
      have e2 : xs[xs.size - (k + 1)]? = some (xs[xs.size - (k + 1)]'(by omega)) := Array.getElem?_eq_getElem _
      have e3 : xs.toList.drop (xs.size - (k + 1)) = xs[xs.size - (k + 1)]'(by omega) :: xs.toList.drop (xs.size - k) := by
        rw [List.drop_eq_getElem_cons (by simp; omega), show xs.size - (k + 1) + 1 = xs.size - k by omega]
        simp
      rw [e3, List.reverse_cons, List.filterMap_cons, e1, e2]
      rfl
  rw [e xs.size (Nat.le_refl _)]
  simp
theorem getItem_tuple_rev {t sl : Addr} {items : Array Value} {vs : Value} {Q : Value → Shared → Prop} (ht : IsTup s.heap t items) (hs : s.heap.IsSliceOf sl .none .none vs) (ps : IsPart vs (some (-1)))
    (h : Q (.ref s.heap.objs.size) { s with heap := s.heap.push { cls := .type "tuple", data := .seq items.toList.reverse.toArray } })
    (hsz : items.size ≤ sizeLine) : wpAny (model prog w) A (getItem (.ref t) (.ref sl)) Q E s := by
  have htake : sizeOk (.seq items.toList.reverse.toArray) := by
    show items.toList.reverse.toArray.size ≤ sizeLine
    rw [List.size_toArray, List.length_reverse, Array.length_toList]
    exact hsz
  obtain ⟨os, hos, hcs, hds⟩ := id hs
  have hTs : s.TypeIs (.ref sl) "slice" := ⟨os, hos, hcs⟩
  unfold getItem
  try with_reducible refine wpAny_holding ?_
  first | refine wpAny_bind (wpAny_pure ?_) | skip
  refine wpAny_bind (wpAny_sequenceKey ht.typeIs (by decide) ?_)
  refine wpAny_bind (wpAny_callSpecial?_slot (name := Str.ofString "__getitem__") ht.typeIs PyProof.Rows.slot_tuple_getitem
    (wpAny_call_entry PyProof.Rows.slot_tuple_getitem ht.typeIs entry_tuple_getitem ?_ (args_tuple_getitem _ _)))
  show wpAny _ _ (Builtin.Tuple.tupleItemsOf (.ref t) >>= _) _ _ s
  refine wpAny_bind (tupleItemsOf_ ht ?_)
  refine wpAny_bind (wpAny_typeOf hTs ?_)
  rw [if_pos (by decide)]
  refine wpAny_bind (sliceApplied_rev hs ps ?_)
  have hno : ¬ ((((items.size : Int) - 1 == 0) && (-1 : Int) == 1 && items.size == items.size) = true) := by
    intro q
    rw [Bool.and_eq_true, Bool.and_eq_true] at q
    exact absurd q.1.2 (by decide)
  show wpAny _ _ (if (((items.size : Int) - 1 == 0) && (-1 : Int) == 1 && items.size == items.size) = true then _ else _) _ _ s
  rw [if_neg hno, pick_rev]
  first
    | exact wpAny_bind (m := Builtin.Tuple.tupleExact _) (wpAny_newObj_type (wpAny_pure ⟨_, rfl, wpAny_pure h⟩) htake)
    | exact wpAny_bind (m := Builtin.Tuple.tupleExact _) (wpAny_newObj_type (wpAny_bind (wpAny_pure (wpAny_pure ⟨_, rfl, wpAny_pure h⟩))) htake)
    | exact wpAny_bind (wpAny_bind (m := Builtin.Tuple.tupleExact _) (wpAny_newObj_type (wpAny_pure (wpAny_pure ⟨_, rfl, wpAny_pure h⟩)) htake))
    | exact wpAny_bind (wpAny_bind (m := Builtin.Tuple.tupleExact _) (wpAny_newObj_type (wpAny_pure ⟨_, rfl, wpAny_pure h⟩) htake))
end
section
variable {X : Cx}
def tRevS (K : PySem.W.Frag) (te : TE) : TE := fun σ H Q => te σ H fun x H1 => ∃ a xs, x = .ref a ∧ ((SqL K H1 a xs ∧ ∀ p, H1 p = none → Q (.ref p) (upd H1 p (.lst xs.reverse))) ∨ (SqT K H1 a xs ∧ ∀ p, H1 p = none → Q (.ref p) (upd H1 p (.tup xs.reverse))))
theorem pe_revS {e : Expr} {te : TE} {k : Nat} {p1 p2 p3 pos : Pos} (he : PE X e te) : PE X (.Subscript e (.Slice none none (some (.UnaryOp .USub (.Constant (.int 1) k p1) p2)) p3) pos) (tRevS X.K te) := by
  refine ⟨fun pins s σ H Q I h => ?_⟩
  refine Subscript_ (thn (he.run pins s σ H _ I h) fun v s1 ⟨x, H1, I1, r1, q1⟩ => ?_)
  obtain ⟨a, xs, ex, hx⟩ := q1
  subst ex
  cases r1
  have hst : PO X (some (.UnaryOp .USub (.Constant (.int 1) k p1) p2)) (tPart (tUn (rU fun i => .int (-i)) (tC (.int 1)))) := po_some (pe_un un_neg pe_int)
  refine wpAny_Slice (thn (po_none.run pins s1 σ H1 (fun o H2 => o = none ∧ H2 = H1) I1 ⟨rfl, rfl⟩) fun vl s2 ⟨l, H2, I2, pl, el, e2⟩ => ?_)
  subst el e2
  refine thn (po_none.run pins s2 σ H2 (fun o H3 => o = none ∧ H3 = H2) I2 ⟨rfl, rfl⟩) fun vu s3 ⟨u, H3, I3, pu, eu, e3⟩ => ?_
  subst eu e3
  refine thn (hst.run pins s3 σ H3 (fun o H4 => o = some (-1) ∧ H4 = H3) I3 ⟨1, rfl, -1, rfl, rfl, rfl⟩) fun vs s4 ⟨o, H4, I4, ps, eo, e4⟩ => ?_
  subst eo e4
  have I5 : Inv X pins σ H4 { s4 with heap := s4.heap.push { cls := .type "slice", data := .fields #[vl, vu, vs] } } := I4.kept (t' := s4.toks) fun b ob q => Heap.get?_push_of_some _ q
  cases pl
  cases pu
  rcases hx with ⟨hx, q⟩ | ⟨hx, q⟩
  · obtain ⟨its, r, ht, hz⟩ := I5.list hx
    have hlen := r.length
    show wpAny (model X.prog X.w) X.A (subscriptTail e (.Slice none none (some (.UnaryOp .USub (.Constant (.int 1) k p1) p2)) p3) (.ref a) (.ref s4.heap.objs.size)) (EP X pins σ Q) X.xe { s4 with heap := s4.heap.push { cls := .type "slice", data := .fields #[.none, .none, vs] } }
    refine tail_any (ops := [.ref a, .ref s4.heap.objs.size]) ht.isList.typeIs (PySem.slot_list_getitem.lookup) ?_ (by with_unfolding_all rfl)
    refine wpAny_getItem_list_slice ht.isList (Heap.IsSliceOf.new _ .none .none vs) .none .none ps (by decide) ?_ (by rw [List.size_toArray]; omega)
    rw [PySem.W.krv_pick]
    refine ⟨.ref _, _, I5.laid (t' := s4.toks) (o := .lst xs.reverse) (fun b ob q => Heap.get?_push_of_some _ q) (Nat.le_refl _) ?_, rfl, q _ (I5.hok.fresh (Nat.le_refl _))⟩
    exact ⟨by rw [List.length_reverse]; exact hz, _, 0, r.reverse, Heap.get?_push_size _ rfl⟩
  · obtain ⟨its, r, ht, hz⟩ := I5.tuple hx
    have hlen := r.length
    show wpAny (model X.prog X.w) X.A (subscriptTail e (.Slice none none (some (.UnaryOp .USub (.Constant (.int 1) k p1) p2)) p3) (.ref a) (.ref s4.heap.objs.size)) (EP X pins σ Q) X.xe { s4 with heap := s4.heap.push { cls := .type "slice", data := .fields #[.none, .none, vs] } }
    refine tail_any (ops := [.ref a, .ref s4.heap.objs.size]) ht.typeIs (PyProof.Rows.slot_tuple_getitem.lookup) ?_ (by with_unfolding_all rfl)
    refine getItem_tuple_rev ht (Heap.IsSliceOf.new _ .none .none vs) ps ?_ (by rw [List.size_toArray]; omega)
    refine ⟨.ref _, _, I5.laid (t' := s4.toks) (o := .tup xs.reverse) (fun b ob q => Heap.get?_push_of_some _ q) (Nat.le_refl _) ?_, rfl, q _ (I5.hok.fresh (Nat.le_refl _))⟩
    refine ⟨by rw [List.length_reverse]; exact hz, _, r.reverse, ?_⟩
    exact IsTup.new _ _
/-! ### len(set(x)), x a tuple of ints -/
theorem dcnt_len : ∀ (ns K : List Int), K.Nodup → (∀ j, j ∈ K ↔ j ∈ ns) → K.length = dcnt ns
  | [], K, _, h => by
    cases K with
    | nil => rfl
    | cons a K => exact absurd ((h a).mp List.mem_cons_self) (by simp)
  | a :: l, K, nd, h => by
    unfold dcnt
    by_cases ha : a ∈ l
    · rw [if_pos ha]
      refine dcnt_len l K nd fun j => ?_
      rw [h, List.mem_cons]
      exact ⟨fun q => q.elim (fun e => e ▸ ha) id, .inr⟩
    · rw [if_neg ha]
      have hK : a ∈ K := (h a).mpr List.mem_cons_self
      have := dcnt_len l (K.erase a) (nd.erase a) fun j => by
        rw [nd.mem_erase_iff, h, List.mem_cons]
        refine ⟨fun ⟨q1, q2⟩ => q2.resolve_left q1, fun q => ⟨fun e => ha (e ▸ q), .inr q⟩⟩
      rw [List.length_erase_of_mem hK] at this
      have hp := List.length_pos_of_mem hK
      omega
def tLenSetT (K : PySem.W.Frag) (ta : TE) : TE := fun σ H Q => ta σ H fun x H1 => ∃ (l : Addr) (ns : List Int), x = V.ref l ∧ SqT K H1 l (ns.map V.int) ∧ ns.length ≤ 1000 ∧ Q (.int (dcnt ns : Nat)) H1
theorem pe_lenSetT {a : Expr} {ta : TE} {p p2 q pos : Pos} (hc : X.calm = true) (hg : Gl X "len") (hm : X.mg "len" = none) (hg2 : Gl X "set") (hm2 : X.mg "set" = none) (ha : PE X a ta)
    (ns0 : noStar a = true) : PE X (.Call (.Name "len" p) [.Call (.Name "set" p2) [a] [] q] [] pos) (tLenSetT X.K ta) := by
  have na : starEach [a] X.env = (false, eval a X.env) :: starEach [] X.env := starE ns0
  refine ⟨fun pins s σ H Q I h => ?_⟩
  refine Call_ (ld_blt I hg hm boot_len ?_)
  refine PyProof.Rows.callWith_builtin1 (PyProof.Rows.args_cons ?_ rfl) rfl rfl
  refine Call_ (ld_blt I hg2 hm2 boot_set ?_)
  refine PyProof.Rows.callWith_type1 (PyProof.Rows.args_cons (thn (ha.run pins s σ H _ I h) fun v s1 ⟨x, H1, I1, r1, q1⟩ => PyProof.Rows.args_nil ?_) na) na rfl
  obtain ⟨l, ns, rfl, hq, h1, q1⟩ := q1
  cases r1
  obtain ⟨its, rv, pt, hz⟩ := I1.tuple hq
  have hi : IntsAre its.toArray.toList ns := by simpa using rv.ints
  refine L2.call_set_tupI ns (I1.ok.hd hc) (show s1.heap.IsTuple l its.toArray from pt) hi (by unfold scanBound; omega) fun h' tk c R1 hcn k => ?_
  refine PyProof.Rows.args_nil ?_
  obtain ⟨o, es, ep, t, ho, hex, hdt, g, nd, hm2, hb, hf, hn, hr, hl2⟩ := R1
  have I2 : Inv X pins σ H1 { s1 with heap := h', toks := tk } := I1.kept k
  have hlen : es.size = dcnt ns := by
    have := dcnt_len ns _ nd fun j => by rw [← hm2, decide_eq_true_eq]
    rw [← this, List.length_map, Array.length_toList]
  refine call_len_set ho hex hdt hf (by rw [hn]; omega) ⟨.int (dcnt ns : Nat), H1, I2.tok _, ⟨_, by rw [hlen]⟩, q1⟩
end
end Ev

/-! sorted(set(x)), x a list of ints. -/
namespace Ev
open PySem PySem.Spec PyProof.Rows L2 RT HT
theorem call_set_lstI {P : Program} {w : World} {A : Around} {E : Value → Shared → Prop} {s : Shared} {l : Addr} {items : Array Value} (ns : List Int) {Q : Value → Shared → Prop} (hh : A.handled = none) (hl : s.heap.IsList l items) (hit : IntsAre items.toList ns) (hb : ns.length + 1 < scanBound)
    (h : ∀ (h' : Heap) (tk c : Nat), SetR w h' s.heap.objs.size (fun j => decide (j ∈ ns)) c → c ≤ ns.length → (∀ (b : Addr) (o : Obj), s.heap.get? b = some o → h'.get? b = some o) → Q (.ref s.heap.objs.size) { heap := h', gens := s.gens, drawn := s.drawn, toks := tk, os := s.os }) :
    wpAny (model P w) A (call (.type "set") [.ref l]) Q E s := by
  have hisz : items.size = ns.length := by have q := hit.length; rwa [Array.length_toList] at q
  obtain ⟨c, tl, hmro⟩ := F.called_set.mro
  have hmade := F.called_set.made
  have hsub := F.called_set.sub
  have hct := F.typeCall_set_1 (Value.ref l)
  refine wpAny_call (codeAny_of_tree ?_)
  refine wpAny_pure ⟨Code.quiet_builtin _ (by decide +kernel), codeAny_builtin F.entry_type_call ?_⟩
  rw [Around.under_plain (weight_type_call_type "set" [Value.ref l] []) rfl]
  have h1 := F.called_set.notType
  have h2 := F.called_set.canCreate
  unfold Builtin.«type.__call__»
  refine wpAny_ite_false (by decide) ?_
  refine wpAny_ite_false (by rfl) ?_
  refine wpAny_bind (wpAny_of_eq hct ?_)
  refine wpAny_bind (wpAny_of_eq hmro ?_)
  refine wpAny_ite_false (by rfl) ?_
  refine wpAny_bind (wpAny_of_eq hmade ?_)
  refine wpAny_bind (wpAny_pure ?_)
  refine wpAny_bind ?_
  refine wpAny_holding ?_
  refine wpAny_call ?_
  refine codeAny_mono (code_set_led1 (Value.ref l) (E := E) (Q₁ := fun obj s₁ => obj = .ref s.heap.objs.size ∧ s₁ = { s with heap := s.heap.push { cls := .type "set", data := .set #[] 0 (SetTable.fresh 0 0 !w.params.followText "set-order") } }) ⟨rfl, rfl⟩) fun r s₁ hr => ?_
  rcases r with e | fl
  · exact hr
  rcases fl with _ | _ | _ | obj
  · exact hr.elim
  · exact hr.elim
  · exact hr.elim
  obtain ⟨rfl, rfl⟩ := hr
  have hS := Heap.get?_push_size s.heap (o := { cls := Value.type "set", data := Data.set #[] 0 (SetTable.fresh 0 0 !w.params.followText "set-order") }) rfl
  have hT : ({ s with heap := s.heap.push { cls := .type "set", data := .set #[] 0 (SetTable.fresh 0 0 !w.params.followText "set-order") } } : Shared).TypeIs (.ref s.heap.objs.size) "set" := ⟨_, hS, rfl⟩
  have hli := F.called_set.init.lookup
  have hbi := F.called_set.init.bind (Value.ref s.heap.objs.size)
  refine wpAny_bind (wpAny_isInstance hT hsub ?_)
  refine wpAny_ite_false (by rfl) ?_
  refine wpAny_bind ?_
  refine wpAny_holding ?_
  refine wpAny_bind ?_
  refine wpAny_specialOf hT hli ?_
  refine wpAny_holding ?_
  refine wpAny_bind (wpAny_of_eq hbi ?_)
  refine wpAny_bind (wpAny_call ?_)
  refine codeAny_mono (R := wants (fun r s₂ => r = .none ∧ ∃ h' tk c, s₂ = { heap := h', gens := s.gens, drawn := s.drawn, toks := tk, os := s.os } ∧ SetR w h' s.heap.objs.size (fun j => decide (j ∈ ns)) c ∧ c ≤ ns.length ∧ ∀ (b : Addr) (o : Obj), s.heap.get? b = some o → h'.get? b = some o) E) ?_ fun r₂ s₂ hr₂ => ?_
  rotate_left
  · rcases r₂ with e | fl
    · exact hr₂
    rcases fl with _ | _ | _ | r
    · exact hr₂.elim
    · exact hr₂.elim
    · exact hr₂.elim
    obtain ⟨rfl, h', tk, c', rfl, hS', hc', hk'⟩ := hr₂
    refine wpAny_pure ?_
    refine wpAny_ite_false (by rfl) ?_
    exact wpAny_pure (h h' tk c' hS' hc' hk')
  refine codeAny_call_builtin F.called_set.init.plain F.entry_set_init ?_
  refine check_set_init_1 hT ?_
  obtain ⟨ol, hol, hcl, nl, hdl⟩ := id hl
  obtain ⟨ocls, odict, odata, oslots⟩ := ol
  cases hcl
  cases hdl
  have hol' := Heap.get?_push_of_some { cls := .type "set", data := .set #[] 0 (SetTable.fresh 0 0 !w.params.followText "set-order") } hol
  have hsls := F.sub_list_set
  have hslf := F.sub_list_frozenset
  have hl1 : (s.heap.push { cls := .type "set", data := .set #[] 0 (SetTable.fresh 0 0 !w.params.followText "set-order") }).IsList l items := ⟨_, hol', rfl, _, rfl⟩
  refine wpAny_bind (wpAny_ite_true (by rfl) ?_)
  refine wpAny_pure ?_
  refine wpAny_bind ?_
  refine wpAny_bind ?_
  refine wpAny_bind ?_
  refine wpAny_typeOf hT ?_
  refine wpAny_ite_false (by rfl) ?_
  refine wpAny_pure ?_
  refine wpAny_pure ?_
  refine wpAny_bind ?_
  unfold checkCount
  refine wpAny_ite_false (by rfl) ?_
  refine wpAny_ite_false (by rfl) ?_
  refine wpAny_ite_false (by rfl) ?_
  refine wpAny_pure ?_
  refine wpAny_bind ?_
  refine wpAny_pure ?_
  refine wpAny_bind ?_
  refine wpAny_bind ?_
  refine wpAny_bind ?_
  refine wpAny_load' hS ?_
  refine wpAny_ite_false (by rfl) ?_
  refine wpAny_pure ?_
  refine wpAny_pure ?_
  refine wpAny_ite_false (by rfl) ?_
  refine wpAny_bind ?_
  refine wpAny_bind ?_
  refine wpAny_bind ?_
  refine wpAny_bind ?_
  refine wpAny_bind ?_
  refine wpAny_loadPart' hol' ?_
  refine wpAny_pure ?_
  refine wpAny_of_eq hsls ?_
  show wpAny _ _ (isInstance (Value.ref l) (Value.type "frozenset")) _ _ _
  unfold isInstance
  refine wpAny_bind ?_
  refine wpAny_bind ?_
  refine wpAny_loadPart' hol' ?_
  refine wpAny_pure ?_
  refine wpAny_of_eq hslf ?_
  refine wpAny_ite_false (by rfl) ?_
  refine wpAny_bind ?_
  refine wpAny_bind ?_
  refine wpAny_loadPart' hol' ?_
  refine wpAny_pure ?_
  refine wpAny_ite_false (by rfl) ?_
  refine wpAny_bind ?_
  refine wpAny_pyIter_list hl1 ?_
  refine wpAny_bind ?_
  refine wpAny_runValue ?_
  have hlS := Heap.lt_size hol
  have hh3 : A.in1.in1.in1.handled = none := hh
  have hz1 := Heap.size_push s.heap { cls := .type "set", data := .set #[] 0 (SetTable.fresh 0 0 !w.params.followText "set-order") }
  have hneI : l ≠ (s.heap.push { cls := .type "set", data := .set #[] 0 (SetTable.fresh 0 0 !w.params.followText "set-order") }).objs.size := by
    rw [hz1]; exact Nat.ne_of_lt (Nat.lt_succ_of_lt hlS)
  have hSf : ¬ s.heap.objs.size ∈ [(s.heap.push { cls := .type "set", data := .set #[] 0 (SetTable.fresh 0 0 !w.params.followText "set-order") }).objs.size, l] := by
    rw [hz1]
    simp only [List.mem_cons, List.not_mem_nil, or_false, not_or]
    exact ⟨Nat.ne_of_lt (Nat.lt_succ_self _), Nat.ne_of_gt hlS⟩
  have hval : ∀ (i : Nat) (v : Value), items[i]? = some v → ∃ k t, ns[i]? = some k ∧ v = Value.int k t := fun i v hv => by
    have hi : i < ns.length := by rw [← hisz]; exact (Array.getElem?_eq_some_iff.mp hv).1
    obtain ⟨t, e⟩ := hit.int_at i v (by rw [Array.getElem?_toList]; exact hv)
    exact ⟨ns[i], t, List.getElem?_eq_getElem hi, by rw [e, List.getD_eq_getElem?_getD, List.getElem?_eq_getElem hi]; rfl⟩
  have hget := Heap.get?_push_of_some { cls := .type "list_iterator", data := .fields #[.ref l, .int 0 0] } hS
  refine set_update_ints (Walks.toS (Walks.list hh3 _ l hneI items)) s.heap.objs.size hSf ns hisz hb hval (items.size - 0) 0 { s with heap := (s.heap.push { cls := .type "set", data := .set #[] 0 (SetTable.fresh 0 0 !w.params.followText "set-order") }).push { cls := .type "list_iterator", data := .fields #[.ref l, .int 0 0] } } rfl (Nat.zero_le _) ⟨⟨_, Heap.get?_push_size _ rfl, rfl, rfl⟩, Heap.IsList.push hl1 _⟩ ⟨0, Nat.le_refl 0, by exact setR_new_at hget⟩ fun s' c' hm hc' hS' => ?_
  obtain ⟨h', g2, d', tk', os'⟩ := s'
  obtain rfl := hm.gens
  obtain rfl := hm.drawn
  obtain rfl := hm.os
  refine wpAny_pure ?_
  refine wpAny_pure ⟨rfl, h', tk', c', rfl, hS', hisz ▸ hc', fun b o e => ?_⟩
  have hb0 := Heap.lt_size e
  refine hm.heap b o ?_ (Heap.get?_push_of_some _ (Heap.get?_push_of_some _ e))
  rw [hz1]
  simp only [List.mem_cons, List.not_mem_nil, or_false, not_or]
  exact ⟨Nat.ne_of_lt hb0, Nat.ne_of_lt (Nat.lt_succ_of_lt hb0)⟩
section
variable {X : Cx}
def rSetOI (X : Cx) : List V → Hp → VK → Prop := fun xs H Q => ∃ (l : Addr) (ns : List Int), xs = [V.ref l] ∧ SqL X.K H l (ns.map V.int) ∧ ns.length ≤ 60 ∧ ∀ p c, H p = none → c ≤ ns.length → Q (.ref p) (upd H p (SetO X.w p (fun j => decide (j ∈ ns)) c))
theorem cr_setL (hc : X.calm = true) : CallR X (.type "set") (rSetOI X) := by
  intro pins s σ H xs us Q I r h
  obtain ⟨l, ns, rfl, hq, hn, q⟩ := h
  obtain ⟨u, rfl, r1⟩ := vals1 r
  cases r1
  obtain ⟨its, rv, pt, hz⟩ := I.list hq
  have hi : IntsAre its.toArray.toList ns := by simpa using rv.ints
  exact call_set_lstI ns (I.ok.hd hc) pt.isList hi (by unfold scanBound; omega) fun h' tk c R1 hcn k => ⟨.ref _, _, I.laid (t' := tk) (o := SetO X.w s.heap.objs.size (fun j => decide (j ∈ ns)) c) k (Nat.le_refl _) (setO_new R1), rfl, q _ _ (I.hok.fresh (Nat.le_refl _)) hcn⟩
theorem ddI_mem : ∀ (l : List Int) (k : Int), k ∈ ddI l ↔ k ∈ l
  | [], k => Iff.rfl
  | a :: l, k => by
    unfold ddI
    by_cases h : a ∈ l
    · rw [if_pos h, ddI_mem l k, List.mem_cons]
      exact ⟨.inr, fun z => z.elim (fun e => e ▸ h) id⟩
    · rw [if_neg h, List.mem_cons, List.mem_cons, ddI_mem l k]
theorem ddI_nd : ∀ l : List Int, (ddI l).Nodup
  | [] => List.nodup_nil
  | a :: l => by
    unfold ddI
    by_cases h : a ∈ l
    · rw [if_pos h]; exact ddI_nd l
    · rw [if_neg h]
      exact List.nodup_cons.mpr ⟨fun z => h ((ddI_mem l a).mp z), ddI_nd l⟩
theorem perm_nd : ∀ {a b : List Int}, a.Nodup → b.Nodup → (∀ k, k ∈ a ↔ k ∈ b) → a.Perm b
  | [], b, _, _, h => by
    cases b with
    | nil => exact .nil
    | cons x b => exact absurd ((h x).mpr List.mem_cons_self) (by simp)
  | x :: a, b, ha, hb, h => by
    have hx : x ∈ b := (h x).mp List.mem_cons_self
    obtain ⟨h1, h2⟩ := List.nodup_cons.mp ha
    refine List.Perm.trans (List.Perm.cons x (perm_nd h2 (hb.erase x) fun k => ?_)) (List.perm_cons_erase hx).symm
    rw [hb.mem_erase_iff]
    refine ⟨fun q => ⟨fun e => h1 (e ▸ q), (h k).mp (List.mem_cons_of_mem _ q)⟩, fun ⟨q1, q2⟩ => ?_⟩
    exact (List.mem_cons.mp ((h k).mpr q2)).resolve_left q1
theorem srt_dd {ms ns : List Int} (hs : ms.Pairwise (· < ·)) (hm : ∀ k, k ∈ ms ↔ k ∈ ns) : ms = sortI (ddI ns) :=
  sortI_is (perm_nd (hs.imp fun h => Int.ne_of_lt h) (ddI_nd ns) fun k => by rw [hm, ddI_mem]) (hs.imp fun h => Int.le_of_lt h)
end
end Ev

/-! A verified evaluator over the hand layer, part 6: what the evaluator says of an expression is what the text does. -/
namespace Ev
open PySem L2

def LamC (X : Cx) : Prop := ∃ c P, X.env.code = .ref c ∧ LamX.TabB X.base X.mg c P ∧ (P, X.env.qual ++ "<lambda>") ∈ tabsK X.K ∧ ∀ p ∈ tabsK X.K, p.1 = P → p.2 = X.env.qual ++ "<lambda>"
structure Gd (X : Cx) (N : List Str) (sc : Scope) (k : Nat) : Prop where
  nn : X.N = N
  nd : N.Nodup
  ss : X.env.scope = sc
  calm : X.calm = true
  room : Room k X.A
  gu : N.contains kpNm = true → X.A.guards = some []
  lm : lamNs.contains N = true → LamC X ∧ 1 ≤ k
structure Rm (k : Nat) (A : Around) : Prop where
  dp : A.depth + 3 * k + 5 < recursionLimit
  un : A.units + 16 * k + 200 < cLine
theorem Rm.mono {j k : Nat} {A : Around} (r : Rm k A) (h : j ≤ k) : Rm j A := ⟨by have := r.dp; omega, by have := r.un; omega⟩
structure Gd0 (X : Cx) (N : List Str) (sc : Scope) (k : Nat) : Prop where
  nn : X.N = N
  nd : N.Nodup
  ss : X.env.scope = sc
  room : Rm k X.A
theorem Gd.z {X : Cx} {N : List Str} {sc : Scope} {k : Nat} (g : Gd X N sc k) : Gd0 X N sc k := ⟨g.nn, g.nd, g.ss, ⟨g.room.dp, g.room.un⟩⟩
theorem Gd0.z {X : Cx} {N : List Str} {sc : Scope} {k : Nat} (g : Gd0 X N sc k) : Gd0 X N sc k := g
theorem Gd0.ndX {X : Cx} {N : List Str} {sc : Scope} {k : Nat} (g : Gd0 X N sc k) : X.N.Nodup := by rw [g.nn]; exact g.nd
theorem Gd.ndX {X : Cx} {N : List Str} {sc : Scope} {k : Nat} (g : Gd X N sc k) : X.N.Nodup := by rw [g.nn]; exact g.nd
def spOf (K : PySem.W.Frag) (f : Fn) : Sp := fun vs H Q _ => ∃ (F : Addr → Prop) (as : List Slot) (r : Res) (bs : List Slot), as.length = f.ps.length ∧ ER K F H (vs.map some) as ∧ f.run as = some (r, bs) ∧
  ∀ (v : V) (F' : Addr → Prop) (H' : Hp), ER K F' H' (vs.map some) bs → Stp (wd (vs.map some) as F H) (wd (vs.map some) bs F' H') → RR K F' H' (vs.map some) bs r v → Prov (wd (vs.map some) as F H) r v → Q v H'
structure FnGs (P : Program) (w : World) (K : PySem.W.Frag) (mg : Str → Option Value) (base : Heap) (k : Nat) (f : Fn) : Prop where
  ex : ∃ (a : Addr) (fd : FuncData), mg f.name = some (.ref a) ∧ PySem.W.keepIn K (.ref a) = true ∧ Binds K fd f.ps [] ∧ FnOk P w K mg base CX0 f.lvl a fd f.ps (spOf K f)
  lv : f.lvl ≤ k
def FnG (X : Cx) (k : Nat) (f : Fn) : Prop := FnGs X.prog X.w X.K X.mg X.base k f
def cvl : D → Option V
  | .none => some .non | .bool b => some (.bl b) | .int i => some (.int i) | .str x => some (.str x) | _ => none
theorem cvl_rp {K : PySem.W.Frag} {F : Addr → Prop} {H : Hp} {d : D} {v : V} (e : cvl d = some v) : Rp K F H v d := by
  cases d <;> simp only [cvl, reduceCtorEq] at e <;> cases e
  · exact .non
  · exact .bl _
  · exact .int _
  · exact .str _
def GlG (X : Cx) (x : Str) (c : D) : Prop := ∃ u v, X.mg x = some u ∧ RelV v u ∧ (cvl c = some v ∨ (c = fnD x ∧ v = .ref (He.ga X.K x)))
theorem GlG.fn {X : Cx} {x : Str} (h : GlG X x (fnD x)) : X.mg x = some (.ref (He.ga X.K x)) := by
  obtain ⟨u, v, e, r, h | ⟨_, rfl⟩⟩ := h
  · cases h
  · cases r
    exact e
def lvUp (f : Fn) : Fn := { f with lvl := f.lvl + 1 }
def ikG (B : Str → Prop) : IK → E → Prop
  | .seq, _ => True | .r1, _ => B "range" | .r2, _ => B "range" | .enum, _ => B "enumerate" | .zip, _ => B "zip" | .rev, _ => B "reversed" | .zip3, a => B "zip" ∧ a.isTup
def gdF (P : Fn → Prop) (G : Str → D → Prop) : List Fn → Prop
  | [] => True
  | f :: fs => (P f ∧ G f.name (fnD f.name)) ∧ gdF P G fs
theorem gdF_mem {P : Fn → Prop} {G : Str → D → Prop} : ∀ {fs : List Fn} {f : Fn}, gdF P G fs → f ∈ fs → P f ∧ G f.name (fnD f.name)
  | [], _, _, h => by simp at h
  | g :: fs, f, q, h => by
    rcases List.mem_cons.mp h with rfl | h
    · exact q.1
    · exact gdF_mem q.2 h
mutual
def gd (P : Fn → Prop) (B : Str → Prop) (G : Str → D → Prop) : E → Prop
  | .no => True
  | .var _ => True
  | .cst _ => True
  | .glo x c => G x c
  | .tup es => gdL P B G es
  | .lst es => gdL P B G es
  | .bin _ a b => gd P B G a ∧ gd P B G b
  | .neg a => gd P B G a
  | .cmp _ a b => gd P B G a ∧ gd P B G b
  | .chn _ _ a b c => gd P B G a ∧ gd P B G b ∧ gd P B G c
  | .bop _ es => gdL P B G es
  | .not a => gd P B G a
  | .ix a b => gd P B G a ∧ gd P B G b
  | .sl a b c => gd P B G a ∧ gd P B G b ∧ gd P B G c
  | .call f es => P f ∧ gdL P B G es
  | .b1 b a => B b.nm ∧ gd P B G a
  | .b2 b a c => B b.nm ∧ gd P B G a ∧ gd P B G c
  | .isi a t => B "isinstance" ∧ B (Str.ofString t) ∧ gd P B G a
  | .isx a y => B "isinstance" ∧ G y (fnD y) ∧ gd P B G a
  | .isxT a ys => B "isinstance" ∧ (∀ y ∈ ys, G y (fnD y)) ∧ gd P B G a
  | .fld _ _ => True
  | .isv a => B "isinstance" ∧ B "ValueError" ∧ gd P B G a
  | .callv _ fs es => gdF P G fs ∧ gdL P B G es
  | .callP f _ as es => P f ∧ gdL P B G as ∧ gdL P B G es
  | .lrng a => B "list" ∧ B "range" ∧ gd P B G a
  | .lrev a => B "list" ∧ B "reversed" ∧ gd P B G a
  | .dct => True
  | .dsp _ a => gd P B G a
  | .dspe k a => gd P B G k ∧ gd P B G a
  | .dsp2 _ a _ b => gd P B G a ∧ gd P B G b
  | .mx3 a b c => B "max" ∧ gd P B G a ∧ gd P B G b ∧ gd P B G c
  | .srv a => B "sorted" ∧ gd P B G a
  | .rvt a => B "tuple" ∧ B "reversed" ∧ gd P B G a
  | .rvl a => gd P B G a
  | .rp r a => (r = true → B "repr") ∧ (r = false → B "str") ∧ gd P B G a
  | .eqn a => gd P B G a
  | .lset a => B "len" ∧ B "set" ∧ gd P B G a
  | .dctP a => B "dict" ∧ gd P B G a
  | .srs a => B "sorted" ∧ B "set" ∧ gd P B G a
  | .frz a => gd P B G a
  | .mt _ a => gd P B G a
  | .dlh a b => B "tuple" ∧ gd P B G a ∧ gd P B G b
  | .undl a => gd P B G a
  | .dli a c b => gd P B G a ∧ gd P B G c ∧ gd P B G b
  | .srtK a _ _ b => B "sorted" ∧ gd P B G a ∧ gd (fun f => P f ∧ P (lvUp f)) B G b
  | .trng a => B "tuple" ∧ B "range" ∧ gd P B G a
  | .inv a => gd P B G a
  | .mnd a _ => B "min" ∧ gd P B G a
  | .mn3 a b c => B "min" ∧ gd P B G a ∧ gd P B G b ∧ gd P B G c
  | .idx a b => gd P B G a ∧ gd P B G b
  | .ext _ a => gd P B G a
  | .rvI _ => True
  | .rmv _ a => gd P B G a
  | .app _ a => gd P B G a
  | .pop _ => True
  | .popAt _ a => gd P B G a
  | .lc _ _ _ ik a b c e => ikG B ik a ∧ gd P B G a ∧ gd P B G b ∧ gd P B G c ∧ gd P B G e
def gdL (P : Fn → Prop) (B : Str → Prop) (G : Str → D → Prop) : EL → Prop
  | .nil => True
  | .cons e es => gd P B G e ∧ gdL P B G es
end

/-! ### the statements -/
def SE (X : Cx) (x : Expr) (f : Nv → Option (Res × Nv)) : Prop := ∃ t, PE X x t ∧ ∀ (F : Addr → Prop) (H : Hp) (σ : L2.St) (env : Nv) (r : Res) (env' : Nv), ER X.K F H σ env → f env = some (r, env') →
  ∀ Q : VK, (∀ v F' H', ER X.K F' H' σ env' → Stp (wd σ env F H) (wd σ env' F' H') → RR X.K F' H' σ env' r v → Prov (wd σ env F H) r v → Q v H') → t σ H Q
def ST (X : Cx) (x : Expr) (f : Nv → Option (Bool × Nv)) : Prop := ∃ t, PT X x t ∧ ∀ (F : Addr → Prop) (H : Hp) (σ : L2.St) (env : Nv) (b : Bool) (env' : Nv), ER X.K F H σ env → f env = some (b, env') →
  ∀ Q : Bool → Hp → Prop, (∀ F' H', ER X.K F' H' σ env' → Stp (wd σ env F H) (wd σ env' F' H') → Q b H') → t σ H Q
abbrev RRL (K : PySem.W.Frag) (F : Addr → Prop) (H : Hp) (σ : L2.St) (env : Nv) : List Res → List V → Prop := Paired (RR K F H σ env)
abbrev ProvL (w : Wd) : List Res → List V → Prop := Paired (Prov w)
def SL2 (X : Cx) (xs : List Expr) (es : EL) : Prop := ∃ t, PA X xs t ∧
  (∀ (F : Addr → Prop) (H : Hp) (σ : L2.St) (env : Nv) (ds : List D) (env' : Nv), ER X.K F H σ env → evK es env = some (ds, env') →
    ∀ Q : List V → Hp → Prop, (∀ vs F' H', ER X.K F' H' σ env' → Stp (wd σ env F H) (wd σ env' F' H') → RpL X.K F' H' vs ds → Q vs H') → t σ H Q) ∧
  (∀ (F : Addr → Prop) (H : Hp) (σ : L2.St) (env : Nv) (rs : List Res) (env' : Nv), ER X.K F H σ env → evL es env = some (rs, env') →
    ∀ Q : List V → Hp → Prop, (∀ vs F' H', ER X.K F' H' σ env' → Stp (wd σ env F H) (wd σ env' F' H') → RRL X.K F' H' σ env' rs vs → ProvL (wd σ env F H) rs vs → Q vs H') → t σ H Q)

/-! ### keeping a value -/
section
variable {K : PySem.W.Frag} {F F' : Addr → Prop} {H H' : Hp} {σ : L2.St} {env env' : Nv}
mutual
theorem Rp.monoF (s : ∀ a, F a → F' a) : ∀ {v : V} {d : D}, Rp K F H v d → Rp K F' H v d
  | _, _, .non => .non
  | _, _, .bl b => .bl b
  | _, _, .int b => .int b
  | _, _, .str b => .str b
  | _, _, .tup h z r => .tup h z (RpL.monoF s r)
  | _, _, .lst f h z r => .lst (s _ f) h z (RpL.monoF s r)
  | _, _, .dct f h r e hs => .dct (s _ f) h (RpL.monoF s r) e hs
  | _, _, .kd h hs hk => .kd h hs hk
  | _, _, .err h g => .err h g
  | _, _, .errF h1 h2 nd hl g xf no r => .errF h1 h2 nd hl g xf no (RpL.monoF s r)
  | _, _, .fn => .fn
  | _, _, .dl h1 h2 c n z r => .dl h1 h2 c n z (RpL.monoF s r)
  | _, _, .cst h z r => .cst h z (RpL.monoF s r)
theorem RpL.monoF (s : ∀ a, F a → F' a) : ∀ {vs : List V} {ds : List D}, RpL K F H vs ds → RpL K F' H vs ds
  | _, _, .nil => .nil
  | _, _, .cons h r => .cons (Rp.monoF s h) (RpL.monoF s r)
end
theorem get_set_self {env : Nv} {i : Nat} {s t : Slot} (h : env[i]? = some s) : (env.set i t)[i]? = some t := by
  rw [List.getElem?_set_self (List.getElem?_eq_some_iff.mp h).1]
theorem freezeN (R : ER K F H σ env) {a : Addr} {xs : List V} (h : H a = some (.lst xs)) (n1 : ¬ OwnA σ env a) (n2 : ¬ LenA σ env a) : ER K (fun b => F b ∨ b = a) H σ env := by
  refine ⟨R.len, fun i s e => ?_, R.inj, fun b f => ?_, R.tb⟩
  · obtain ⟨ov, e1, r⟩ := R.sl i s e
    refine ⟨ov, e1, ?_⟩
    cases r with
    | un => exact .un
    | val r => exact .val (r.monoF fun _ => .inl)
    | own h1 z r n => exact .own h1 z (r.monoF fun _ => .inl) fun q => q.elim n fun q => n1 ⟨i, _, e, by rw [← q]; exact e1⟩
    | lent h1 z r n => exact .lent h1 z (r.monoF fun _ => .inl) fun q => q.elim n fun q => n2 ⟨i, _, e, by rw [← q]; exact e1⟩
  · rcases f with f | rfl
    · exact R.tr b f
    · exact ⟨_, h⟩
theorem keep_ok {w0 : Wd} {r : Res} {v : V} {d : D} (R : ER K F H σ env) (h : RR K F H σ env r v) (s : Stp w0 (wd σ env F H)) (p : Prov w0 r v) (e : keep env r = some (d, env')) :
    ∃ F', ER K F' H σ env' ∧ Stp w0 (wd σ env' F' H) ∧ Rp K F' H v d ∧ (∀ a, F a → F' a) := by
  cases r with
  | val c =>
    cases e
    exact ⟨F, R, s, h, fun _ x => x⟩
  | fr l =>
    cases e
    obtain ⟨a, xs, rfl, h1, z, r, n1, n2, n3⟩ := h
    refine ⟨fun b => F b ∨ b = a, freezeN R h1 n2 n3, ⟨s.k, s.t, s.o, s.l, fun x f => .inl (s.f x f), fun x f => ?_⟩, .lst (.inr rfl) h1 z (r.monoF fun _ => .inl), fun _ => .inl⟩
    rcases f with f | rfl
    · exact s.g x f
    · exact .inr (p _ rfl)
  | pl i =>
    have h : σ[i]? = some (some v) := h
    have e : keepS i env (sAt env i) = some (d, env') := e
    cases q : sAt env i with
    | un => rw [q] at e; cases e
    | lent l => rw [q] at e; cases e
    | val c =>
      rw [q] at e; cases e
      obtain ⟨v', e1, r⟩ := R.val q
      rw [h] at e1; cases e1
      exact ⟨F, R, s, r, fun _ x => x⟩
    | own l =>
      rw [q] at e; cases e
      obtain ⟨a, xs, e1, h1, z, r, n, oa⟩ := R.own q
      rw [h] at e1; cases e1
      have eg := sAt_get q (fun z => nomatch z)
      have set_own : ∀ {j : Nat} {t : Slot}, (env.set i (.val (.list l)))[j]? = some t → (j = i ∧ t = .val (.list l)) ∨ (j ≠ i ∧ env[j]? = some t) := fun {j t} e2 => by
        by_cases hj : j = i
        · subst hj
          rw [get_set_self eg] at e2
          exact .inl ⟨rfl, (Option.some.inj e2).symm⟩
        · rw [List.getElem?_set_ne (Ne.symm hj)] at e2
          exact .inr ⟨hj, e2⟩
      refine ⟨fun b => F b ∨ b = a, ⟨by rw [List.length_set]; exact R.len, fun j t e2 => ?_, fun j m b e2 e3 e4 e5 => ?_, fun b f => ?_, R.tb⟩, ⟨s.k, s.t, fun x o => s.o x ?_, fun x o => s.l x ?_, fun x f => .inl (s.f x f), fun x f => ?_⟩, .lst (.inr rfl) h1 z (r.monoF fun _ => .inl), fun _ => .inl⟩
      · rcases set_own e2 with ⟨rfl, rfl⟩ | ⟨hj, e2⟩
        · exact ⟨_, h, .val (.lst (.inr rfl) h1 z (r.monoF fun _ => .inl))⟩
        · obtain ⟨ov, e3, r3⟩ := R.sl j t e2
          refine ⟨ov, e3, ?_⟩
          cases r3 with
          | un => exact .un
          | val r => exact .val (r.monoF fun _ => .inl)
          | own h1 z r n => exact .own h1 z (r.monoF fun _ => .inl) fun q2 => q2.elim n fun q2 => hj (R.inj i j _ ⟨_, .inl eg⟩ h (by rw [← q2]; exact e3) ⟨_, .inl e2⟩).symm
          | lent h1 z r n => exact .lent h1 z (r.monoF fun _ => .inl) fun q2 => q2.elim n fun q2 => hj (R.inj i j _ ⟨_, .inl eg⟩ h (by rw [← q2]; exact e3) ⟨_, .inr e2⟩).symm
      · have back : ∀ {p : Nat}, (∃ l', (env.set i (.val (.list l)))[p]? = some (.own l') ∨ (env.set i (.val (.list l)))[p]? = some (.lent l')) → ∃ l', env[p]? = some (.own l') ∨ env[p]? = some (.lent l') := fun {p} ⟨l3, e5⟩ => by
          refine ⟨l3, ?_⟩
          rcases e5 with e5 | e5
          · rcases set_own e5 with ⟨_, e5⟩ | ⟨_, e5⟩
            · cases e5
            · exact .inl e5
          · rcases set_own e5 with ⟨_, e5⟩ | ⟨_, e5⟩
            · cases e5
            · exact .inr e5
        exact R.inj j m b (back e2) e3 e4 (back e5)
      · rcases f with f | rfl
        · exact R.tr b f
        · exact ⟨_, h1⟩
      · obtain ⟨j, l2, e2, e3⟩ := o
        rcases set_own e2 with ⟨_, e2⟩ | ⟨_, e2⟩
        · cases e2
        · exact ⟨j, l2, e2, e3⟩
      · obtain ⟨j, l2, e2, e3⟩ := o
        rcases set_own e2 with ⟨_, e2⟩ | ⟨_, e2⟩
        · cases e2
        · exact ⟨j, l2, e2, e3⟩
      · rcases f with f | rfl
        · exact s.g x f
        · exact .inr (s.o x oa)
end

section
variable {X : Cx} {N : List Str} {sc : Scope} {k : Nat}
theorem nm_ok (g : Gd0 X N sc k) {i : Nat} {x : Str} {pos : Pos} (h : nmB N sc i x = true) : PE X (.Name x pos) (tVar i) := by
  unfold nmB visB at h
  simp only [Bool.and_eq_true, decide_eq_true_eq, Bool.or_eq_true, Bool.not_eq_true'] at h
  obtain ⟨⟨⟨h1, h2⟩, h3⟩, h4⟩ := h
  refine pe_var (by rw [g.nn]; exact h1) ?_ h3 h4
  unfold Vis
  rw [g.ss]
  rcases h2 with (h | h) | h
  · exact .inl h
  · exact .inr (.inl h)
  · exact .inr (.inr h)
theorem gl_ok (g : Gd0 X N sc k) {x : Str} (h : glbB sc x = true) : Gl X x := by
  show X.env.scope.names.lookup x = _
  rw [g.ss]
  exact of_decide_eq_true h
theorem sE_var (g : Gd0 X N sc k) {i : Nat} {x : Str} {pos : Pos} (h : nmB N sc i x = true) : SE X (.Name x pos) (ev (.var i)) := by
  refine ⟨_, nm_ok g.z h, fun F H σ env r env' R e Q q => ?_⟩
  simp only [ev] at e
  cases hs : sAt env i with
  | un => rw [hs] at e; cases e
  | val d =>
    rw [hs] at e; cases e
    obtain ⟨v, e1, rp⟩ := R.val hs
    exact ⟨v, e1, q v F H R (Stp.refl _) rp trivial⟩
  | own l =>
    rw [hs] at e; cases e
    obtain ⟨a, xs, e1, _⟩ := R.own hs
    exact ⟨.ref a, e1, q _ F H R (Stp.refl _) e1 trivial⟩
  | lent l =>
    rw [hs] at e; cases e
    obtain ⟨a, xs, e1, _⟩ := R.lent hs
    exact ⟨.ref a, e1, q _ F H R (Stp.refl _) e1 trivial⟩
theorem sE_cst {c : D} {kc : Const} {n : Nat} {pos : Pos} (h : cstB c kc = true) : SE X (.Constant kc n pos) (ev (.cst c)) := by
  cases c <;> cases kc <;> simp only [cstB, reduceCtorEq, Bool.false_eq_true] at h
  · exact ⟨_, pe_non, fun F H σ env r env' R e Q q => by simp only [ev] at e; cases e; exact q .non F H R (Stp.refl _) (Rp.non) trivial⟩
  · rw [beq_iff_eq] at h
    subst h
    exact ⟨_, pe_bl, fun F H σ env r env' R e Q q => by simp only [ev] at e; cases e; exact q (.bl _) F H R (Stp.refl _) (Rp.bl _) trivial⟩
  · rw [decide_eq_true_eq] at h
    subst h
    exact ⟨_, pe_int, fun F H σ env r env' R e Q q => by simp only [ev] at e; cases e; exact q (.int _) F H R (Stp.refl _) (Rp.int _) trivial⟩
  · rw [decide_eq_true_eq] at h
    subst h
    exact ⟨_, pe_str, fun F H σ env r env' R e Q q => by simp only [ev] at e; cases e; exact q (.str _) F H R (Stp.refl _) (Rp.str _) trivial⟩
theorem sE_glo (g : Gd0 X N sc k) {x : Str} {c : D} {pos : Pos} (h : glbB sc x = true) (hd : (x == ("__debug__" : Str)) = false) (hg : GlG X x c) : SE X (.Name x pos) (ev (.glo x c)) := by
  obtain ⟨u, v, e1, r1, e2⟩ := hg
  refine ⟨_, pe_glob (gl_ok g.z h) e1 r1 hd, fun F H σ env r env' R e Q q => ?_⟩
  simp only [ev] at e
  cases e
  rcases e2 with e2 | ⟨rfl, rfl⟩
  · exact q v F H R (Stp.refl _) (cvl_rp e2) trivial
  · exact q _ F H R (Stp.refl _) (Rp.fn) trivial
theorem sE_tup {es : EL} {xs : List Expr} {n : Nat} {pos : Pos} (h : SL2 X xs es) (hl : es.length ≤ 1000) : SE X (.Tuple xs n pos) (ev (.tup es)) := by
  obtain ⟨t, ht, hK, _⟩ := h
  refine ⟨_, pe_tup ht, fun F H σ env r env' R e Q q => ?_⟩
  simp only [ev, Option.bind_eq_bind, Option.bind_eq_some_iff, Prod.exists] at e
  obtain ⟨ds, env1, e1, e2⟩ := e
  cases e2
  have hd : ∀ (es : EL) (env : Nv) (ds : List D) (env' : Nv), evK es env = some (ds, env') → ds.length = es.length := by
    intro es
    induction es using EL.rec (motive_1 := fun _ => True) with
    | nil => intro env ds env' e; simp only [evK, Option.some.injEq, Prod.mk.injEq] at e; rw [← e.1]; rfl
    | cons x xs _ ih =>
      intro env ds env' e
      simp only [evK, Option.bind_eq_bind, Option.bind_eq_some_iff, Prod.exists] at e
      obtain ⟨_, _, _, _, _, _, ds2, _, e3, e4⟩ := e
      cases e4
      rw [List.length_cons, ih _ _ _ e3]
      rfl
    | _ => trivial
  refine hK F H σ env ds env' R e1 _ fun vs F1 H1 R1 s1 r1 => ?_
  have hz : vs.length ≤ sizeLine := by rw [r1.length, hd _ _ _ _ e1, sizeLine_eq]; omega
  refine ⟨hz, fun p hp => ?_⟩
  obtain ⟨a1, a2, a3, a4⟩ := fin1 (r := .val (.tuple ds)) R1 (same_upd hp) (.newT hp hz r1)
  exact q _ _ _ a1 (s1.trans a2) a3 trivial
theorem evK_len : ∀ (es : EL) (env : Nv) (ds : List D) (env' : Nv), evK es env = some (ds, env') → ds.length = es.length := by
  intro es
  induction es using EL.rec (motive_1 := fun _ => True) with
  | nil => intro env ds env' e; simp only [evK, Option.some.injEq, Prod.mk.injEq] at e; rw [← e.1]; rfl
  | cons x xs _ ih =>
    intro env ds env' e
    simp only [evK, Option.bind_eq_bind, Option.bind_eq_some_iff, Prod.exists] at e
    obtain ⟨_, _, _, _, _, _, ds2, _, e3, e4⟩ := e
    cases e4
    rw [List.length_cons, ih _ _ _ e3]
    rfl
  | _ => trivial
theorem sE_lst {es : EL} {xs : List Expr} {pos : Pos} (h : SL2 X xs es) (hl : es.length ≤ 1000) : SE X (.List xs pos) (ev (.lst es)) := by
  obtain ⟨t, ht, hK, _⟩ := h
  refine ⟨_, pe_lst ht, fun F H σ env r env' R e Q q => ?_⟩
  simp only [ev, Option.bind_eq_bind, Option.bind_eq_some_iff, Prod.exists] at e
  obtain ⟨ds, env1, e1, e2⟩ := e
  cases e2
  refine hK F H σ env ds env' R e1 _ fun vs F1 H1 R1 s1 r1 => ?_
  have hz : vs.length ≤ sizeLine := by rw [r1.length, evK_len _ _ _ _ e1, sizeLine_eq]; omega
  refine ⟨hz, fun p hp => ?_⟩
  obtain ⟨a1, a2, a3, a4⟩ := fin1 (r := .fr ds) R1 (same_upd hp) (.newL hp hz r1)
  exact q _ _ _ a1 (s1.trans a2) a3 (a4.mono s1)

theorem two {l m : Expr} {fa fb : Nv → Option (Res × Nv)} {ta tb : TE} {F : Addr → Prop} {H : Hp} {σ : L2.St} {env env1 env2 : Nv} {ra rb : Res}
    (ha : ∀ (F : Addr → Prop) (H : Hp) (σ : L2.St) (env : Nv) (r : Res) (env' : Nv), ER X.K F H σ env → fa env = some (r, env') →
      ∀ Q : VK, (∀ v F' H', ER X.K F' H' σ env' → Stp (wd σ env F H) (wd σ env' F' H') → RR X.K F' H' σ env' r v → Prov (wd σ env F H) r v → Q v H') → ta σ H Q)
    (hb : ∀ (F : Addr → Prop) (H : Hp) (σ : L2.St) (env : Nv) (r : Res) (env' : Nv), ER X.K F H σ env → fb env = some (r, env') →
      ∀ Q : VK, (∀ v F' H', ER X.K F' H' σ env' → Stp (wd σ env F H) (wd σ env' F' H') → RR X.K F' H' σ env' r v → Prov (wd σ env F H) r v → Q v H') → tb σ H Q)
    (R : ER X.K F H σ env) (e1 : fa env = some (ra, env1)) (e2 : fb env1 = some (rb, env2)) {P : V → V → Hp → Prop}
    (q : ∀ x y F2 H2, ER X.K F2 H2 σ env2 → Stp (wd σ env F H) (wd σ env2 F2 H2) → RR X.K F2 H2 σ env2 ra x → RR X.K F2 H2 σ env2 rb y → Prov (wd σ env F H) ra x → Prov (wd σ env F H) rb y → P x y H2) :
    ta σ H fun x H1 => tb σ H1 fun y H2 => P x y H2 := by
  refine ha F H σ env ra env1 R e1 _ fun x F1 H1 R1 s1 r1 p1 => ?_
  refine hb F1 H1 σ env1 rb env2 R1 e2 _ fun y F2 H2 R2 s2 r2 p2 => ?_
  exact q x y F2 H2 R2 (s1.trans s2) (r1.mono R1 s2) r2 p1 (p2.mono s1)
theorem sE_bin {op : Operator} {a b : E} {l m : Expr} {pos : Pos} (ha : SE X l (ev a)) (hb : SE X m (ev b)) : SE X (.BinOp l op m pos) (ev (.bin op a b)) := by
  obtain ⟨ta, pa, ha⟩ := ha
  obtain ⟨tb, pb, hb⟩ := hb
  obtain ⟨r, hr, hq⟩ := binR (X := X) op
  refine ⟨_, pe_op hr pa pb, fun F H σ env res env' R e Q q => ?_⟩
  simp only [ev, Option.bind_eq_bind, Option.bind_eq_some_iff, Prod.exists] at e
  obtain ⟨ra, env1, e1, rb, env2, e2, da, e3, db, e4, r', e5, e6⟩ := e
  cases e6
  refine two (l := l) (m := m) ha hb R e1 e2 fun x y F2 H2 R2 s2 r1 r2 _ _ => ?_
  have bx : Bw X.K F2 H2 x da := by
    unfold rdB at e3
    split at e3
    · exact (RR.bwS R2 r1 e3).1
    · exact RR.bw R2 r1 e3
  refine hq F2 H2 x y da db res bx (RR.bw R2 r2 e4) (fun ho l el => ?_) e5 Q fun v H' s h => ?_
  · subst ho
    exact (RR.bwS R2 r1 (show rdS env' ra = some da from e3)).2 l el
  · obtain ⟨a1, a2, a3, a4⟩ := fin1 R2 s h
    exact q v F2 H' a1 (s2.trans a2) a3 (a4.mono s2)
theorem sE_neg {a : E} {l : Expr} {pos : Pos} (ha : SE X l (ev a)) : SE X (.UnaryOp .USub l pos) (ev (.neg a)) := by
  obtain ⟨ta, pa, ha⟩ := ha
  refine ⟨_, pe_un un_neg pa, fun F H σ env res env' R e Q q => ?_⟩
  simp only [ev, Option.bind_eq_bind, Option.bind_eq_some_iff, Prod.exists] at e
  obtain ⟨ra, env1, e1, e2⟩ := e
  split at e2
  · cases e2
    refine ha F H σ env _ _ R e1 _ fun v F1 H1 R1 s1 r1 _ => ?_
    have ev' : v = .int _ := (Bw.rp r1).int
    exact ⟨_, ev', q _ F1 H1 R1 s1 (Rp.int _) trivial⟩
  · cases e2
theorem hu64 (g : Gd0 X N sc k) : X.A.units + 65 < cLine := by have := g.room.un; omega
theorem sE_cmp (g : Gd0 X N sc k) {op : CmpOp} {a b : E} {l m : Expr} {pos : Pos} (ha : SE X l (ev a)) (hb : SE X m (ev b)) (h1 : behindInMarks op m = false) :
    SE X (.Compare l [op] [m] pos) (ev (.cmp op a b)) ∧ ST X (.Compare l [op] [m] pos) (evC false fun env => ev (.cmp op a b) env) := by
  obtain ⟨ta, pa, ha⟩ := ha
  obtain ⟨tb, pb, hb⟩ := hb
  obtain ⟨r, hr, hq⟩ := cmpR (X := X) (hu64 g.z) op
  constructor
  · refine ⟨_, pe_cmpR hr pa pb h1, fun F H σ env res env' R e Q q => ?_⟩
    simp only [ev, Option.bind_eq_bind, Option.bind_eq_some_iff, Prod.exists] at e
    obtain ⟨ra, env1, e1, rb, env2, e2, da, e3, db, e4, c, e5, e6⟩ := e
    cases e6
    refine two (l := l) (m := m) ha hb R e1 e2 fun x y F2 H2 R2 s2 r1 r2 _ _ => ?_
    exact hq F2 H2 x y da db c (RR.bw R2 r1 e3) (RR.bw R2 r2 e4) e5 Q (q _ F2 H2 R2 s2 (Rp.bl c) trivial)
  · refine ⟨_, pt_cmpR hr pa pb h1, fun F H σ env res env' R e Q q => ?_⟩
    simp only [evC, ev, Bool.false_eq_true, if_false, Option.bind_eq_bind, Option.bind_eq_some_iff, Prod.exists] at e
    obtain ⟨rr, env9, ⟨ra, env1, e1, rb, env2, e2, da, e3, db, e4, c, e5, e6⟩, e7⟩ := e
    cases e6
    cases e7
    refine two (l := l) (m := m) ha hb R e1 e2 fun x y F2 H2 R2 s2 r1 r2 _ _ => ?_
    exact hq F2 H2 x y da db _ (RR.bw R2 r1 e3) (RR.bw R2 r2 e4) e5 _ ⟨_, rfl, q F2 H2 R2 s2⟩
theorem sE_eqn (g : Gd0 X N sc k) {a : E} {l : Expr} {p0 pos : Pos} (ha : SE X l (ev a)) :
    SE X (.Compare l [CmpOp.Eq] [Expr.List [] p0] pos) (ev (.eqn a)) ∧ ST X (.Compare l [CmpOp.Eq] [Expr.List [] p0] pos) (evC false fun env => ev (.eqn a) env) := by
  obtain ⟨ta, pa, ha⟩ := ha
  have hu := hu64 g.z
  have hr : OpR X (compareOp .Eq) (fun x y H Q => rEqD X.K x y H Q ∨ rEqLz x y H Q) := OpR.or (op_eqD (by omega)) (op_eqLz (by omega))
  have h1 : behindInMarks .Eq (.List [] p0) = false := rfl
  have hq : ∀ (F : Addr → Prop) (H : Hp) (a : Addr) (xs : List V) (l : List D), H a = some (.lst xs) → xs.length ≤ sizeLine → RpL X.K F H xs l → ∀ p, H p = none → ∀ Q : VK, Q (.bl l.isEmpty) (upd H p (.lst [])) → rEqD X.K (.ref a) (.ref p) (upd H p (.lst [])) Q ∨ rEqLz (.ref a) (.ref p) (upd H p (.lst [])) Q := fun F H a xs l h z r p hp Q q => by
    have h' : upd H p (.lst []) a = some (.lst xs) := by rw [upd_ne (ne_of_none h hp)]; exact h
    have bp : Bw X.K F (upd H p (.lst [])) (.ref p) (.list []) := .lst upd_same (Nat.zero_le _) .nil
    cases l with
    | nil => exact .inl (eqv_ok (.lst h' z (r.same (same_upd hp))) bp (c := true) rfl q)
    | cons d l =>
      refine .inr ⟨a, p, xs, [], rfl, rfl, h', upd_same, ?_, q⟩
      rw [r.length]
      exact fun z => nomatch z
  constructor
  · refine ⟨_, pe_cmpR hr pa (pe_lst pa_nil) h1, fun F H σ env res env' R e Q q => ?_⟩
    simp only [ev, Option.bind_eq_bind, Option.bind_eq_some_iff, Prod.exists] at e
    obtain ⟨ra, env1, e1, e3⟩ := e
    split at e3
    · cases e3
      refine ha F H σ env _ _ R e1 _ fun v F1 H1 R1 s1 r1 p1 => ?_
      obtain ⟨b, xs, rfl, h, z, r, _⟩ := r1
      refine ⟨Nat.zero_le _, fun p hp => hq F1 H1 b xs _ h z r p hp Q (q _ F1 _ (R1.same (same_upd hp)) (s1.trans (Same.stp (same_upd hp))) (Rp.bl _) trivial)⟩
    · cases e3
  · refine ⟨_, pt_cmpR hr pa (pe_lst pa_nil) h1, fun F H σ env res env' R e Q q => ?_⟩
    simp only [evC, ev, Bool.false_eq_true, if_false, Option.bind_eq_bind, Option.bind_eq_some_iff, Prod.exists] at e
    obtain ⟨rr, env9, ⟨ra, env1, e1, e3⟩, e7⟩ := e
    split at e3
    · cases e3
      cases e7
      refine ha F H σ env _ _ R e1 _ fun v F1 H1 R1 s1 r1 p1 => ?_
      obtain ⟨b, xs, rfl, h, z, r, _⟩ := r1
      refine ⟨Nat.zero_le _, fun p hp => hq F1 H1 b xs _ h z r p hp _ ⟨_, rfl, q F1 _ (R1.same (same_upd hp)) (s1.trans (Same.stp (same_upd hp)))⟩⟩
    · cases e3
end
end Ev

/-! A verified evaluator over the hand layer: the text of data that hold dicts. -/
namespace Ev
open PySem PySem.Spec PyProof.Rows L2
mutual
inductive Dq (K : PySem.W.Frag) (H : Hp) : V → D → Prop
  | non : Dq K H .non .none
  | bl (b : Bool) : Dq K H (.bl b) (.bool b)
  | int (i : Int) : Dq K H (.int i) (.int i)
  | str (x : Str) : Dq K H (.str x) (.str x)
  | lst {a : Addr} {xs : List V} {ds : List D} : SqL K H a xs → DqAll K H xs ds → Dq K H (.ref a) (.list ds)
  | tup {a : Addr} {xs : List V} {ds : List D} : SqT K H a xs → DqAll K H xs ds → Dq K H (.ref a) (.tuple ds)
  | dct {a : Addr} {kvs : List (Key × V)} {ds : List (D × D)} : H a = some (.dK kvs) → kvs.map (fun p => keyD p.1) = ds.map (·.1) → DqAll K H (kvs.map (·.2)) (ds.map (·.2)) → Dq K H (.ref a) (.dict ds)
inductive DqAll (K : PySem.W.Frag) (H : Hp) : List V → List D → Prop
  | nil : DqAll K H [] []
  | cons {v : V} {vs : List V} {d : D} {ds : List D} : Dq K H v d → DqAll K H vs ds → DqAll K H (v :: vs) (d :: ds)
end
theorem okDL_of_K : ∀ {ds : List (D × D)}, okDK ds = true → okDL (ds.map (·.2)) = true
  | [], _ => rfl
  | (k, d) :: ds, h => by
    rw [okDK, Bool.and_eq_true] at h
    rw [List.map_cons, okDL, h.1, okDL_of_K h.2]
    rfl
mutual
theorem Rp.dq {K : PySem.W.Frag} {F : Addr → Prop} {H : Hp} : ∀ {v : V} {d : D}, Rp K F H v d → okD d = true → Dq K H v d
  | _, _, .non, _ => .non
  | _, _, .bl b, _ => .bl b
  | _, _, .int b, _ => .int b
  | _, _, .str b, _ => .str b
  | _, _, .tup h _ r, c => .tup h (RpL.dq r (by simpa [okD] using c))
  | _, _, .lst _ h _ r, c => .lst (.of h) (RpL.dq r (by simpa [okD] using c))
  | _, _, .dct _ h r e _, c => .dct h e (RpL.dq r (okDL_of_K (by
      rw [okD, Bool.and_eq_true] at c
      exact c.2)))
  | _, _, .kd .., c => by simp [kdD, okD, spcL] at c
  | _, _, .err _ _, c => by simp [errD, okD, spcL] at c
  | _, _, .errF .., c => by simp [errF, okD, spcL] at c
  | _, _, .fn, c => by simp [fnD, okD, spcL] at c
  | _, _, .dl .., c => by simp [dlD, okD, spcL] at c
  | _, _, .cst h _ r, c => .lst h.sq (RpL.dq r (by simpa [okD] using c))
theorem RpL.dq {K : PySem.W.Frag} {F : Addr → Prop} {H : Hp} : ∀ {vs : List V} {ds : List D}, RpL K F H vs ds → okDL ds = true → DqAll K H vs ds
  | _, _, .nil, _ => .nil
  | _, _, .cons h r, c => by
    simp only [okDL, Bool.and_eq_true] at c
    exact .cons (Rp.dq h c.1) (RpL.dq r c.2)
end
theorem Bw.dq {K : PySem.W.Frag} {F : Addr → Prop} {H : Hp} {v : V} {d : D} (h : Bw K F H v d) (c : okD d = true) : Dq K H v d := by
  cases h with
  | rp h => exact h.dq c
  | lst h z r => exact .lst (.of h) (r.dq (by simpa [okD] using c))
section
variable {X : Cx} {pins : List (Addr × Obj)} {σ : L2.St} {H : Hp} {s : Shared}
theorem keys_rd {P : Program} {w : World} {h : Heap} : ∀ {kvs : List (Key × V)} {vs : List (Key × Value)} {es : List DictEntry}, KV kvs vs → Pairs (mixKind P w) es vs → ReadsAll h (es.map (·.key)) (kvs.map fun p => keyD p.1) [] ∧ Vals (kvs.map (·.2)) (es.map (·.val))
  | _, _, _, .nil, .nil => ⟨.nil, .nil⟩
  | _, _, _, .cons (a := p) (b := q) ⟨e1, e2⟩ r, .cons (e := e) h1 h2 t => by
    obtain ⟨i1, i2⟩ := keys_rd (h := h) r t
    refine ⟨?_, .cons (by show RelV p.2 e.val; rw [h2]; exact e2) i2⟩
    have h1 : keyIs q.1 e.key = true := h1
    rw [← e1] at h1
    obtain ⟨k, v⟩ := p
    rcases keyIs_shape h1 with ⟨i, t, ek, ev⟩ | ⟨x, t, ek, ev⟩
    · simp only at ek
      subst ek
      show ReadsAll h (e.key :: _) (.int i :: _) ([] ++ [])
      rw [ev]
      exact .cons (.int i t) i1
    · simp only at ek
      subst ek
      show ReadsAll h (e.key :: _) (.str x :: _) ([] ++ [])
      rw [ev]
      exact .cons (.str x t) i1
theorem noD : ∀ kvs : List (Key × V), PyData.hasDictAll (kvs.map fun p => keyD p.1) = false
  | [] => by simp [PyData.hasDictAll]
  | (.inl i, v) :: kvs => by
    rw [List.map_cons, PyData.hasDictAll, noD kvs]
    simp [keyD, PyData.hasDict]
  | (.inr i, v) :: kvs => by
    rw [List.map_cons, PyData.hasDictAll, noD kvs]
    simp [keyD, PyData.hasDict]
mutual
theorem Dq.rk (I : L2.Inv X pins σ H s) : ∀ {v : V} {d : D} {u : Value}, Dq X.K H v d → RelV v u → d.showable = true → d.shown.length ≤ sizeLine → ∃ as bs, Reads s.heap u d as ∧ ReadAtMost s.heap d.depth bs ∧ ReprK X.prog X.w bs s.heap d.depth u d.shown
  | _, _, u, .non, r, _, _ => by
    cases (show u = Value.none from r)
    exact ⟨_, [], .none, (fun _ h => nomatch h), by simp only [PyData.shown]; exact .of_is ReprIs.none _ _ _⟩
  | _, _, u, .bl b, r, _, _ => by
    cases (show u = Value.bool b from r)
    exact ⟨_, [], .bool b, (fun _ h => nomatch h), by simp only [PyData.shown]; exact .of_is (ReprIs.bool b) _ _ _⟩
  | _, _, u, .int i, r, hs, _ => by
    obtain ⟨t, rfl⟩ := r
    exact ⟨_, [], .int i t, (fun _ h => nomatch h), by simp only [PyData.shown]; exact .of_is (ReprIs.int t (by simpa [PyData.showable] using hs)) _ _ _⟩
  | _, _, u, .str x, r, _, hz => by
    obtain ⟨t, rfl⟩ := r
    exact ⟨_, [], .str x t, (fun _ h => nomatch h), by simp only [PyData.shown]; exact .of_is (ReprIs.str x t (by simpa only [PyData.shown] using hz)) _ _ _⟩
  | _, _, u, .tup (a := a) (ds := ds) h r0, r, hs, hz => by
    cases (show u = Value.ref a from r)
    obtain ⟨its, rv, ⟨o, h1, h2, n, h3⟩, _⟩ := I.tuple h
    have hz' : (tupleText (PyData.shownAll ds)).length ≤ sizeLine := by simpa only [PyData.shown] using hz
    obtain ⟨as, bs, rd, hb, hk⟩ := DqAll.rk I r0 rv (by simpa [PyData.showable] using hs) (fun t ht => Nat.le_trans (tupleText_mem_le ht) hz')
    have R : Reads s.heap (.ref a) (.tuple ds) _ := .tuple h1 h2 h3 rd
    have hna : a ∉ bs := not_mem_of_deeper R (by simp only [PyData.depth]; omega) hb
    refine ⟨_, a :: bs, R, ReadAtMost.cons R (by simp only [PyData.depth]; omega) hb, ?_⟩
    simp only [PyData.depth, PyData.shown]
    exact ReprK.tuple h1 h2 h3 hna hk
  | _, _, u, .lst (a := a) (ds := ds) h r0, r, hs, hz => by
    cases (show u = Value.ref a from r)
    obtain ⟨its, rv, p, _⟩ := I.list h
    obtain ⟨o, h1, h2, n, h3⟩ := p.isList
    have hz' : (listText (PyData.shownAll ds)).length ≤ sizeLine := by simpa only [PyData.shown] using hz
    obtain ⟨as, bs, rd, hb, hk⟩ := DqAll.rk I r0 rv (by simpa [PyData.showable] using hs) (fun t ht => Nat.le_trans (listText_mem_le ht) hz')
    have R : Reads s.heap (.ref a) (.list ds) _ := .list h1 h2 h3 rd
    have hna : a ∉ bs := not_mem_of_deeper R (by simp only [PyData.depth]; omega) hb
    refine ⟨_, a :: bs, R, ReadAtMost.cons R (by simp only [PyData.depth]; omega) hb, ?_⟩
    simp only [PyData.depth, PyData.shown]
    cases its with
    | nil =>
      cases rd
      simp only [PyData.shownAll, listText_nil]
      exact ReprK.listEmpty h1 h2 h3
    | cons x l => exact ReprK.list h1 h2 h3 hna (by simpa using hk.length_eq) (fun i y e => hk.item i y (by simpa using e))
  | _, _, u, .dct (a := a) (kvs := kvs) (ds := ds) h e r0, r, hs, hz => by
    cases (show u = Value.ref a from r)
    obtain ⟨_, hsys, vs, kv, o, es, n, h1, h2, h3, _, pr, _⟩ := dk_of I.hok h
    obtain ⟨kr, vv⟩ := keys_rd (h := s.heap) kv pr
    rw [e] at kr
    have hz' : (dictText (PyData.shownKv ds)).length ≤ sizeLine := by simpa only [PyData.shown] using hz
    obtain ⟨hs1, hs2⟩ := PyData.showableKv_split ds (by simpa [PyData.showable] using hs)
    obtain ⟨b1, hb1, k1⟩ := ReprAllK.of_readsAll (prog := X.prog) (w := X.w) kr hs1 (fun hx => by rw [← e, noD] at hx; cases hx) (fun t ht => let ⟨p, hp, hl⟩ := PyData.shownKv_key_le ds t ht; Nat.le_trans hl (Nat.le_trans (dictText_mem_le hp) hz'))
    obtain ⟨as, b2, rd, hb2, k2⟩ := DqAll.rk I r0 vv hs2 (fun t ht => let ⟨p, hp, hl⟩ := PyData.shownKv_val_le ds t ht; Nat.le_trans hl (Nat.le_trans (dictText_mem_le hp) hz'))
    have R : Reads s.heap (.ref a) (.dict ds) _ := .dict h1 h2.1 h3 kr rd
    have hb : ReadAtMost s.heap (PyData.depthKv ds) (b1 ++ b2) := (hb1.mono (PyData.depthAll_keys_le ds)).append (hb2.mono (PyData.depthAll_vals_le ds))
    have hna : a ∉ b1 ++ b2 := not_mem_of_deeper R (by simp only [PyData.depth]; omega) hb
    refine ⟨_, a :: (b1 ++ b2), R, ReadAtMost.cons R (by simp only [PyData.depth]; omega) hb, ?_⟩
    simp only [PyData.depth, PyData.shown, PyData.shownKv_eq]
    exact ReprK.dict h1 h2.1 h3 hsys hna (ReprEntriesK.of_two es.toList _ _
      (k1.more_le (fun b hb => List.mem_append_left _ hb) (PyData.depthAll_keys_le ds)) (k2.more_le (fun b hb => List.mem_append_right _ hb) (PyData.depthAll_vals_le ds)))
theorem DqAll.rk (I : L2.Inv X pins σ H s) : ∀ {vs : List V} {ds : List D} {us : List Value}, DqAll X.K H vs ds → Vals vs us → PyData.showableAll ds = true → (∀ t ∈ PyData.shownAll ds, t.length ≤ sizeLine) → ∃ as bs, ReadsAll s.heap us ds as ∧ ReadAtMost s.heap (PyData.depthAll ds) bs ∧ ReprAllK X.prog X.w bs s.heap (PyData.depthAll ds) us (PyData.shownAll ds)
  | _, _, _, .nil, .nil, _, _ => ⟨_, [], .nil, (fun _ h => nomatch h), by simp only [PyData.shownAll]; exact .nil⟩
  | _, _, _, .cons (d := d) (ds := ds) h t, .cons r rs, hs, hz => by
    have hs' : d.showable = true ∧ PyData.showableAll ds = true := by simpa [PyData.showableAll] using hs
    obtain ⟨a1, b1, rd1, hb1, k1⟩ := Dq.rk I h r hs'.1 (hz _ (by simp only [PyData.shownAll]; exact List.mem_cons_self ..))
    obtain ⟨a2, b2, rd2, hb2, k2⟩ := DqAll.rk I t rs hs'.2 (fun t ht => hz t (by simp only [PyData.shownAll]; exact List.mem_cons_of_mem _ ht))
    have e1 : d.depth ≤ PyData.depthAll (d :: ds) := by simp only [PyData.depthAll]; omega
    have e2 : PyData.depthAll ds ≤ PyData.depthAll (d :: ds) := by simp only [PyData.depthAll]; omega
    refine ⟨_, b1 ++ b2, .cons rd1 rd2, (hb1.mono e1).append (hb2.mono e2), ?_⟩
    simp only [PyData.shownAll]
    exact .cons ((k1.more fun b hb => List.mem_append_left _ hb).level_le e1) (k2.more_le (fun b hb => List.mem_append_right _ hb) e2)
end
def rRx (K : PySem.W.Frag) : List V → Hp → VK → Prop := fun xs H Q => ∃ x d, xs = [x] ∧ Dq K H x d ∧ okRx d = true ∧ Q (.str d.shown) H
theorem call_reprX (hg : X.A.guards = some []) (hu : X.A.units + 100 < cLine) : CallR X (.builtin "repr") (rRx X.K) := by
  intro pins s σ H xs us Q I r h
  obtain ⟨x, d, rfl, hd, ok, q⟩ := h
  obtain ⟨u, rfl, r1⟩ := vals1 r
  unfold okRx at ok
  simp only [Bool.and_eq_true, decide_eq_true_eq] at ok
  obtain ⟨⟨⟨_, hs⟩, hz⟩, dp⟩ := ok
  have nt : ∀ {y : Str} {t : Tok}, RelV (.str y) (.str y t) := fun {y t} => ⟨t, rfl⟩
  cases hd with
  | non =>
    cases (show u = Value.none from r1)
    refine PySem.P.repr_of_none ⟨.str _, H, I.tok _, ⟨_, rfl⟩, ?_⟩
    simpa only [PyData.shown] using q
  | bl b =>
    cases (show u = Value.bool b from r1)
    refine PySem.P.repr_of_bool ⟨.str _, H, I.tok _, ⟨_, rfl⟩, ?_⟩
    simpa only [PyData.shown] using q
  | int i =>
    obtain ⟨t, rfl⟩ := r1
    refine PySem.P.repr_of_int (by simpa [PyData.showable] using hs) ⟨.str _, H, I.tok _, ⟨_, rfl⟩, ?_⟩
    simpa only [PyData.shown] using q
  | str x =>
    obtain ⟨t, rfl⟩ := r1
    refine PySem.P.repr_of_str ⟨.str _, H, I.tok _, ⟨_, rfl⟩, ?_⟩ (by simpa only [PyData.shown] using hz)
    simpa only [PyData.shown] using q
  | @tup a xs ds h r0 =>
    cases (show u = Value.ref a from r1)
    obtain ⟨its, rv, ⟨o, h1, h2, n, h3⟩, _⟩ := I.tuple h
    have hz' : (tupleText (PyData.shownAll ds)).length ≤ sizeLine := by simpa only [PyData.shown] using hz
    obtain ⟨as, bs, rd, hb, hk⟩ := DqAll.rk I r0 rv (by simpa [PyData.showable] using hs) (fun t ht => Nat.le_trans (tupleText_mem_le ht) hz')
    have hna : a ∉ bs := not_mem_of_deeper (.tuple h1 h2 h3 rd) (by simp only [PyData.depth]; omega) hb
    simp only [PyData.depth] at dp
    simp only [PyData.shown] at q
    exact call_repr_slot (by omega) ⟨o, h1, h2⟩ F.slot_tuple_repr (call_tuple_reprK h1 h2 h3 hna hk hg (fun b _ => Clear.nil b) (by show X.A.units + 1 + (_ + 1) < cLine; omega) (fun _ _ e => e) (fun h' u tk hk => ⟨_, _, rfl, .str _, H, I.kept hk, nt, q⟩) hz')
  | @lst a xs ds h r0 =>
    cases (show u = Value.ref a from r1)
    obtain ⟨its, rv, p, _⟩ := I.list h
    obtain ⟨o, h1, h2, n, h3⟩ := p.isList
    have hz' : (listText (PyData.shownAll ds)).length ≤ sizeLine := by simpa only [PyData.shown] using hz
    obtain ⟨as, bs, rd, hb, hk⟩ := DqAll.rk I r0 rv (by simpa [PyData.showable] using hs) (fun t ht => Nat.le_trans (listText_mem_le ht) hz')
    have hna : a ∉ bs := not_mem_of_deeper (.list h1 h2 h3 rd) (by simp only [PyData.depth]; omega) hb
    simp only [PyData.depth] at dp
    simp only [PyData.shown] at q
    cases its with
    | nil =>
      cases rd
      simp only [PyData.shownAll, listText_nil] at q
      exact call_repr_slot (by omega) ⟨o, h1, h2⟩ F.slot_list_repr.toG (call_list_repr_empty ⟨o, h1, h2⟩ h1 h3 ⟨_, _, rfl, .str _, H, I.tok _, nt, q⟩)
    | cons x l =>
      exact call_repr_slot (by omega) ⟨o, h1, h2⟩ F.slot_list_repr.toG (call_list_reprK h1 h2 h3 hna (by simpa using hk.length_eq) (fun i y e => hk.item i y (by simpa using e)) hg (fun b _ => Clear.nil b) (by show X.A.units + 1 + (_ + 1) < cLine; omega) (fun _ _ e => e) (fun h' u tk hk => ⟨_, _, rfl, .str _, H, I.kept hk, nt, q⟩) hz')
  | @dct a kvs ds h e r0 =>
    cases (show u = Value.ref a from r1)
    obtain ⟨_, hsys, vs, kv, o, es, n, h1, h2, h3, _, pr, _⟩ := dk_of I.hok h
    obtain ⟨kr, vv⟩ := keys_rd (h := s.heap) kv pr
    rw [e] at kr
    have hz' : (dictText (PyData.shownKv ds)).length ≤ sizeLine := by simpa only [PyData.shown] using hz
    obtain ⟨hs1, hs2⟩ := PyData.showableKv_split ds (by simpa [PyData.showable] using hs)
    obtain ⟨b1, hb1, k1⟩ := ReprAllK.of_readsAll (prog := X.prog) (w := X.w) kr hs1 (fun hx => by rw [← e, noD] at hx; cases hx) (fun t ht => let ⟨p, hp, hl⟩ := PyData.shownKv_key_le ds t ht; Nat.le_trans hl (Nat.le_trans (dictText_mem_le hp) hz'))
    obtain ⟨as, b2, rd, hb2, k2⟩ := DqAll.rk I r0 vv hs2 (fun t ht => let ⟨p, hp, hl⟩ := PyData.shownKv_val_le ds t ht; Nat.le_trans hl (Nat.le_trans (dictText_mem_le hp) hz'))
    have hb : ReadAtMost s.heap (PyData.depthKv ds) (b1 ++ b2) := (hb1.mono (PyData.depthAll_keys_le ds)).append (hb2.mono (PyData.depthAll_vals_le ds))
    have hna : a ∉ b1 ++ b2 := not_mem_of_deeper (.dict h1 h2.1 h3 kr rd) (by simp only [PyData.depth]; omega) hb
    simp only [PyData.depth] at dp
    simp only [PyData.shown, PyData.shownKv_eq] at q
    exact call_repr_slot (by omega) ⟨o, h1, h2.1⟩ F.slot_dict_repr (call_dict_reprK h1 h2.1 h3 hsys hna (ReprEntriesK.of_two es.toList _ _
      (k1.more_le (fun b hb => List.mem_append_left _ hb) (PyData.depthAll_keys_le ds)) (k2.more_le (fun b hb => List.mem_append_right _ hb) (PyData.depthAll_vals_le ds))) hg (fun b _ => Clear.nil b) (by show X.A.units + 1 + (_ + 1) < cLine; omega) (fun _ _ e => e) (fun h' u tk hk => ⟨_, _, rfl, .str _, H, I.kept hk, nt, q⟩) (by rw [← PyData.shownKv_eq]; exact hz'))
end
end Ev

/-! A verified evaluator over the hand layer, part 7: tests, built-ins, places, lists' methods. -/
namespace Ev
open PySem L2

section
variable {X : Cx} {N : List Str} {sc : Scope} {k : Nat}
abbrev SEt (X : Cx) (f : Nv → Option (Res × Nv)) (t : TE) : Prop := ∀ (F : Addr → Prop) (H : Hp) (σ : L2.St) (env : Nv) (r : Res) (env' : Nv), ER X.K F H σ env → f env = some (r, env') →
  ∀ Q : VK, (∀ v F' H', ER X.K F' H' σ env' → Stp (wd σ env F H) (wd σ env' F' H') → RR X.K F' H' σ env' r v → Prov (wd σ env F H) r v → Q v H') → t σ H Q
theorem SE.val (h : SE X x f) (he : ∀ whole, isTrue x X.env whole = (do let v ← whole; standAt x.pos; holding [v] (truthy v))) : ST X x (evC false f) := by
  obtain ⟨t, ht, hq⟩ := h
  refine ⟨_, pt_val ht he, fun F H σ env b env' R e Q q => ?_⟩
  simp only [evC, Bool.false_eq_true, if_false, Option.bind_eq_bind, Option.bind_eq_some_iff, Prod.exists] at e
  obtain ⟨r, env1, e1, e2⟩ := e
  split at e2
  · cases e2
    refine hq F H σ env _ _ R e1 _ fun v F1 H1 R1 s1 r1 _ => ?_
    exact ⟨_, (Bw.rp r1).bl, q F1 H1 R1 s1⟩
  · cases e2
theorem sE_chn (g : Gd0 X N sc k) {o1 o2 : CmpOp} {a b c : E} {l m n : Expr} {pos : Pos} (ha : SE X l (ev a)) (hb : SE X m (ev b)) (hc : SE X n (ev c)) (hm : lastMarks [o1, o2] [m, n] = false) :
    SE X (.Compare l [o1, o2] [m, n] pos) (ev (.chn o1 o2 a b c)) ∧ ST X (.Compare l [o1, o2] [m, n] pos) (evC false fun env => ev (.chn o1 o2 a b c) env) := by
  obtain ⟨ta, pa, ha⟩ := ha
  obtain ⟨tb, pb, hb⟩ := hb
  obtain ⟨tc, pc, hc⟩ := hc
  obtain ⟨r1, hr1, hq1⟩ := cmpR (X := X) (hu64 g.z) o1
  obtain ⟨r2, hr2, hq2⟩ := cmpR (X := X) (hu64 g.z) o2
  have main : ∀ (F : Addr → Prop) (H : Hp) (σ : L2.St) (env : Nv) (r : Res) (env' : Nv), ER X.K F H σ env → ev (.chn o1 o2 a b c) env = some (r, env') →
      ∃ u, r = .val (.bool u) ∧ ∀ Q : VK, (∀ F' H', ER X.K F' H' σ env' → Stp (wd σ env F H) (wd σ env' F' H') → Q (.bl u) H') → tChain r1 r2 ta tb tc σ H Q := by
    intro F H σ env r env' R e
    simp only [ev, Option.bind_eq_bind, Option.bind_eq_some_iff, Prod.exists] at e
    obtain ⟨ra, env1, e1, rb, env2, e2, e3⟩ := e
    split at e3
    · rename_i i j
      simp only [Option.bind_eq_some_iff] at e3
      obtain ⟨t, e4, e5⟩ := e3
      cases t with
      | false =>
        simp only [Bool.false_eq_true, if_false, Option.some.injEq, Prod.mk.injEq] at e5
        obtain ⟨rfl, rfl⟩ := e5
        refine ⟨false, rfl, fun Q q => ?_⟩
        refine two (l := l) (m := m) ha hb R e1 e2 fun x y F2 H2 R2 s2 q1 q2 _ _ => ?_
        refine hq1 F2 H2 x y _ _ _ (.rp q1) (.rp q2) e4 _ ⟨false, rfl, ?_⟩
        rw [if_neg Bool.false_ne_true]
        exact q F2 H2 R2 s2
      | true =>
        simp only [if_true, Option.bind_eq_some_iff, Prod.exists] at e5
        obtain ⟨rc, env3, e6, e7⟩ := e5
        split at e7
        · simp only [Option.bind_eq_some_iff, Option.some.injEq, Prod.mk.injEq] at e7
          obtain ⟨u, e8, rfl, rfl⟩ := e7
          refine ⟨u, rfl, fun Q q => ?_⟩
          refine two (l := l) (m := m) ha hb R e1 e2 fun x y F2 H2 R2 s2 q1 q2 _ _ => ?_
          refine hq1 F2 H2 x y _ _ _ (.rp q1) (.rp q2) e4 _ ⟨true, rfl, ?_⟩
          rw [if_pos rfl]
          refine hc F2 H2 σ env2 _ _ R2 e6 _ fun z F3 H3 R3 s3 q3 _ => ?_
          exact hq2 F3 H3 y z _ _ _ (.rp (RR.mono R2 s3 q2)) (.rp q3) e8 Q (q F3 H3 R3 (s2.trans s3))
        · cases e7
    · cases e3
  constructor
  · refine ⟨_, pe_chain hr1 hr2 pa pb pc hm, fun F H σ env res env' R e Q q => ?_⟩
    obtain ⟨u, rfl, h⟩ := main F H σ env res env' R e
    exact h Q fun F' H' R' s' => q _ F' H' R' s' (Rp.bl u) trivial
  · refine ⟨_, pt_chain hr1 hr2 pa pb pc hm, fun F H σ env res env' R e Q q => ?_⟩
    simp only [evC, Bool.false_eq_true, if_false, Option.bind_eq_bind, Option.bind_eq_some_iff, Prod.exists] at e
    obtain ⟨r, env1, e1, e2⟩ := e
    obtain ⟨u, rfl, h⟩ := main F H σ env _ _ R e1
    cases e2
    exact h _ fun F' H' R' s' => ⟨_, rfl, q F' H' R' s'⟩
theorem sE_not {a : E} {l : Expr} {pos : Pos} (ha : SE X l (ev a)) (hT : ST X l (evC false (ev a))) : SE X (.UnaryOp .Not l pos) (ev (.not a)) ∧ ST X (.UnaryOp .Not l pos) (evC false fun env => ev (.not a) env) := by
  constructor
  · obtain ⟨ta, pa, ha⟩ := ha
    refine ⟨_, pe_not pa, fun F H σ env res env' R e Q q => ?_⟩
    simp only [ev, Option.bind_eq_bind, Option.bind_eq_some_iff, Prod.exists] at e
    obtain ⟨ra, env1, e1, e2⟩ := e
    split at e2
    · cases e2
      refine ha F H σ env _ _ R e1 _ fun v F1 H1 R1 s1 r1 _ => ?_
      exact ⟨_, (Bw.rp r1).bl, q _ F1 H1 R1 s1 (Rp.bl _) trivial⟩
    · cases e2
  · obtain ⟨t, pt, hq⟩ := hT
    refine ⟨_, pt_not pt, fun F H σ env res env' R e Q q => ?_⟩
    simp only [evC, ev, Bool.false_eq_true, if_false, Option.bind_eq_bind, Option.bind_eq_some_iff, Prod.exists] at e
    obtain ⟨r, env1, ⟨ra, env2, e1, e2⟩, e3⟩ := e
    split at e2
    · rename_i b
      cases e2
      cases e3
      refine hq F H σ env b _ R ?_ _ fun F1 H1 R1 s1 => q F1 H1 R1 s1
      simp only [evC, e1, Bool.false_eq_true, if_false, Option.bind_eq_bind, Option.bind_some]
    · cases e2
theorem plainIx {j : Expr} (h : noSlice j = true) : PlainIx j := fun o i => by
  cases j <;> first | rfl | cases h
theorem sE_ix {a i : E} {l m : Expr} {pos : Pos} (ha : SE X l (ev a)) (hi : SE X m (ev i)) (hs : noSlice m = true) : SE X (.Subscript l m pos) (ev (.ix a i)) := by
  obtain ⟨ta, pa, ha⟩ := ha
  obtain ⟨tb, pb, hb⟩ := hi
  refine ⟨_, pe_ix (ix_list.or ix_tup) pa pb (plainIx hs), fun F H σ env res env' R e Q q => ?_⟩
  simp only [ev, Option.bind_eq_bind, Option.bind_eq_some_iff, Prod.exists] at e
  obtain ⟨ra, env1, e1, rb, env2, e2, da, e3, di, e4, d, e5, e6⟩ := e
  cases e6
  refine two (l := l) (m := m) ha hb R e1 e2 fun x y F2 H2 R2 s2 r1 r2 _ _ => ?_
  exact ix_ok (RR.bw R2 r1 e3) (RR.bw R2 r2 e4) e5 fun v rv => q v F2 H2 R2 s2 rv trivial
def SO (X : Cx) (x : Option Expr) (f : Nv → Option (Option Int × Nv)) : Prop := ∃ t, PO X x t ∧ ∀ (F : Addr → Prop) (H : Hp) (σ : L2.St) (env : Nv) (o : Option Int) (env' : Nv), ER X.K F H σ env → f env = some (o, env') →
  ∀ Q : Option Int → Hp → Prop, (∀ F' H', ER X.K F' H' σ env' → Stp (wd σ env F H) (wd σ env' F' H') → Q o H') → t σ H Q
theorem sO_none {f : Nv → Option (Res × Nv)} : SO X none (evO true f) := ⟨_, po_none, fun F H σ env o env' R e Q q => by
  simp only [evO, if_true, Option.some.injEq, Prod.mk.injEq] at e
  obtain ⟨rfl, rfl⟩ := e
  exact q F H R (Stp.refl _)⟩
theorem sO_some {x : Expr} {f : Nv → Option (Res × Nv)} (h : SE X x f) : SO X (some x) (evO false f) := by
  obtain ⟨t, ht, hq⟩ := h
  refine ⟨_, po_some ht, fun F H σ env o env' R e Q q => ?_⟩
  simp only [evO, Bool.false_eq_true, if_false, Option.bind_eq_bind, Option.bind_eq_some_iff, Prod.exists] at e
  obtain ⟨r, env1, e1, e2⟩ := e
  split at e2
  · cases e2
    refine hq F H σ env _ _ R e1 _ fun v F1 H1 R1 s1 r1 _ => ?_
    exact ⟨_, (Bw.rp r1).int, q F1 H1 R1 s1⟩
  · cases e2
theorem sE_sl {a lo hi : E} {l : Expr} {xl xh : Option Expr} {pos p2 : Pos} (ha : SE X l (ev a)) (hl : SO X xl (evO lo.isNo fun env => ev lo env)) (hh : SO X xh (evO hi.isNo fun env => ev hi env)) :
    SE X (.Subscript l (.Slice xl xh none p2) pos) (ev (.sl a lo hi)) := by
  obtain ⟨ta, pa, ha⟩ := ha
  obtain ⟨tl, pl, hl⟩ := hl
  obtain ⟨th, ph, hh⟩ := hh
  refine ⟨_, pe_slice (sl_list.or sl_tupA) pa pl ph, fun F H σ env res env' R e Q q => ?_⟩
  simp only [ev, Option.bind_eq_bind, Option.bind_eq_some_iff, Prod.exists] at e
  obtain ⟨ra, env1, e1, o1, env2, e2, o2, env3, e3, da, e4, r, e5, e6⟩ := e
  cases e6
  refine ha F H σ env _ _ R e1 _ fun v F1 H1 R1 s1 r1 p1 => ?_
  refine hl F1 H1 σ env1 _ _ R1 e2 _ fun F2 H2 R2 s2 => ?_
  refine hh F2 H2 σ env2 _ _ R2 e3 _ fun F3 H3 R3 s3 => ?_
  have s13 := s2.trans s3
  refine sl_ok (RR.bw R3 (RR.mono R1 s13 r1) e4) e5 fun u H' sm h => ?_
  obtain ⟨a1, a2, a3, a4⟩ := fin1 R3 sm h
  have s03 := s1.trans s13
  exact q u F3 H' a1 (s03.trans a2) a3 (a4.mono s03)

/-! ### built-ins -/
theorem bl_ok (g : Gd0 X N sc k) {x y : Str} (h : blB sc x y = true) : x = y ∧ Gl X x := by
  unfold blB at h
  rw [Bool.and_eq_true, decide_eq_true_eq] at h
  exact ⟨h.1, gl_ok g.z h.2⟩
theorem sE_b1' (g : Gd0 X N sc k) {b : B1} (hR : ∃ r : List V → Hp → VK → Prop, ((∃ id, CallR X (.builtin id) r ∧ bootBuiltins b.nm = some (.builtin id)) ∨ ∃ T, CallR X (.type T) r ∧ bootBuiltins b.nm = some (.type T)) ∧
    ∀ (F : Addr → Prop) (H : Hp) (x : V) (d : D) (res : Res), Bw X.K F H x d → b1v b d = some res → ∀ Q, K1 X.K F H res Q → r [x] H Q) {a : E} {y : Expr} {x : Str} {p pos : Pos} (hx : blB sc x b.nm = true) (hm : X.mg b.nm = none) (ha : SE X y (ev a)) (hs : noStar y = true) : SE X (.Call (.Name x p) [y] [] pos) (ev (.b1 b a)) := by
  obtain ⟨rfl, hg⟩ := bl_ok g.z hx
  obtain ⟨ta, pa, ha⟩ := ha
  obtain ⟨r, hr, hq⟩ := hR
  have hn : b.nm ≠ "__name__" := by cases b <;> decide
  have hd : (b.nm == ("__debug__" : Str)) = false := by cases b <;> decide
  have main : ∀ (F : Addr → Prop) (H : Hp) (σ : L2.St) (env : Nv) (res : Res) (env' : Nv), ER X.K F H σ env → ev (.b1 b a) env = some (res, env') → ∀ Q : VK, (∀ v F' H', ER X.K F' H' σ env' → Stp (wd σ env F H) (wd σ env' F' H') → RR X.K F' H' σ env' res v → Prov (wd σ env F H) res v → Q v H') → tCB r (tCons ta tNil) σ H Q := by
    intro F H σ env res env' R e Q q
    simp only [ev, Option.bind_eq_bind, Option.bind_eq_some_iff, Prod.exists] at e
    obtain ⟨ra, env1, e1, da, e2, r', e3, e4⟩ := e
    cases e4
    refine ha F H σ env _ _ R e1 _ fun v F1 H1 R1 s1 r1 p1 => ?_
    refine hq F1 H1 v da res (RR.bw R1 r1 e2) e3 Q fun u H' sm h => ?_
    obtain ⟨a1, a2, a3, a4⟩ := fin1 R1 sm h
    exact q u F1 H' a1 (s1.trans a2) a3 (a4.mono s1)
  rcases hr with ⟨id, hr, hb⟩ | ⟨T, hr, hb⟩
  · exact ⟨_, pe_callB hr hg hm hb (pa_cons pa pa_nil (starE hs)) hn hd (starE hs), main⟩
  · exact ⟨_, pe_callTy hr hg hm hb (pa_cons pa pa_nil (starE hs)) hn hd (starE hs), main⟩
theorem sE_b1 (g : Gd X N sc k) {b : B1} {a : E} {y : Expr} {x : Str} {p pos : Pos} (hx : blB sc x b.nm = true) (hm : X.mg b.nm = none) (ha : SE X y (ev a)) (hs : noStar y = true) : SE X (.Call (.Name x p) [y] [] pos) (ev (.b1 b a)) :=
  sE_b1' g.z (b1R (X := X) g.calm (by have := hu64 g.z; omega) b) hx hm ha hs
theorem sE_b2 (g : Gd X N sc k) {b : B2} {a c : E} {y z : Expr} {x : Str} {p pos : Pos} (hx : blB sc x b.nm = true) (hm : X.mg b.nm = none) (ha : SE X y (ev a)) (hc : SE X z (ev c)) (hs : noStar y = true) (hs2 : noStar z = true) :
    SE X (.Call (.Name x p) [y, z] [] pos) (ev (.b2 b a c)) := by
  obtain ⟨rfl, hg⟩ := bl_ok g.z hx
  obtain ⟨ta, pa, ha⟩ := ha
  obtain ⟨tc, pc, hc⟩ := hc
  obtain ⟨r, ⟨id, hr, hb⟩, hq⟩ := b2R (X := X) g.calm b
  have hn : b.nm ≠ "__name__" := by cases b <;> decide
  have hd : (b.nm == ("__debug__" : Str)) = false := by cases b <;> decide
  refine ⟨_, pe_callB hr hg hm hb (pa_cons pa (pa_cons pc pa_nil (starE hs2)) (starE hs)) hn hd (starE hs) (starAny (by simp [hs2])), fun F H σ env res env' R e Q q => ?_⟩
  simp only [ev, Option.bind_eq_bind, Option.bind_eq_some_iff, Prod.exists] at e
  obtain ⟨ra, env1, e1, rc, env2, e2, da, e3, dc, e4, r', e5, e6⟩ := e
  cases e6
  refine two (l := y) (m := z) ha hc R e1 e2 fun u v F2 H2 R2 s2 r1 r2 _ _ => ?_
  refine hq F2 H2 u v da dc res (RR.bw R2 r1 e3) (RR.bw R2 r2 e4) e5 Q fun w H' sm h => ?_
  obtain ⟨a1, a2, a3, a4⟩ := fin1 R2 sm h
  exact q w F2 H' a1 (s2.trans a2) a3 (a4.mono s2)
theorem boot_ty {t : String} (h : (["int", "bool", "str", "tuple", "list", "dict"] : List String).contains t = true) : bootBuiltins (Str.ofString t) = some (.type t) ∧ Str.ofString t ≠ "__name__" ∧ (Str.ofString t == ("__debug__" : Str)) = false := by
  have h := List.contains_iff_mem.mp h
  have key : ∀ t ∈ (["int", "bool", "str", "tuple", "list", "dict"] : List String), bootBuiltins (Str.ofString t) = some (.type t) ∧ Str.ofString t ≠ "__name__" ∧ (Str.ofString t == ("__debug__" : Str)) = false := by
    decide +kernel
  exact key t h
theorem sE_isi (g : Gd0 X N sc k) {a : E} {t : String} {y : Expr} {x u : Str} {p p2 pos : Pos} (hx : blB sc x "isinstance" = true) (hu : blB sc u (Str.ofString t) = true) (hm : X.mg "isinstance" = none) (hm2 : X.mg (Str.ofString t) = none) (ha : SE X y (ev a)) (hs : noStar y = true)
    (ht : (["int", "bool", "str", "tuple", "list", "dict"] : List String).contains t = true) : SE X (.Call (.Name x p) [y, .Name u p2] [] pos) (ev (.isi a t)) := by
  obtain ⟨rfl, hg⟩ := bl_ok g.z hx
  obtain ⟨rfl, hg2⟩ := bl_ok g.z hu
  obtain ⟨ta, pa, ha⟩ := ha
  obtain ⟨b1, b2, b3⟩ := boot_ty ht
  have pt : PE X (.Name (Str.ofString t) p2) (tC (.ty t)) := pe_bltn hg2 hm2 b1 rfl b2 b3
  refine ⟨_, pe_callB call_isi hg hm (by decide +kernel) (pa_cons pa (pa_cons pt pa_nil (starE rfl)) (starE hs)) (by decide) (by decide) (starE hs) (starAny rfl), fun F H σ env res env' R e Q q => ?_⟩
  simp only [ev, Option.bind_eq_bind, Option.bind_eq_some_iff, Prod.exists] at e
  obtain ⟨ra, env1, e1, da, e2, e3⟩ := e
  split at e3
  · cases e3
  rename_i hsp
  cases e3
  refine ha F H σ env _ _ R e1 _ fun v F1 H1 R1 s1 r1 p1 => ?_
  exact isi_ok (RR.bw R1 r1 e2) (by simpa using hsp) ht (q _ F1 H1 R1 s1 (Rp.bl _) trivial)
theorem rgV_rp {K : PySem.W.Frag} {F : Addr → Prop} {H : Hp} (lo hi : Int) : RpL K F H (rgV lo hi) (rngL lo hi) := by
  have h := RpL.of_ints (K := K) (F := F) (H := H) ((List.range (hi - lo).toNat).map fun (i : Nat) => lo + (i : Int))
  rw [List.map_map, List.map_map] at h
  exact h
theorem sE_lrng (g : Gd X N sc k) {a : E} {y : Expr} {x u : Str} {p p2 pos pos2 : Pos} (hx : blB sc x "list" = true) (hu : blB sc u "range" = true) (hm : X.mg "list" = none) (hm2 : X.mg "range" = none) (ha : SE X y (ev a)) (hs : noStar y = true) :
    SE X (.Call (.Name x p) [.Call (.Name u p2) [y] [] pos2] [] pos) (ev (.lrng a)) := by
  obtain ⟨rfl, hg⟩ := bl_ok g.z hx
  obtain ⟨rfl, hg2⟩ := bl_ok g.z hu
  obtain ⟨ta, pa, ha⟩ := ha
  refine ⟨_, pe_listRg g.calm hg hm (prg_1 hg2 hm2 pa (starE hs)) (starE rfl), fun F H σ env res env' R e Q q => ?_⟩
  simp only [ev, Option.bind_eq_bind, Option.bind_eq_some_iff, Prod.exists] at e
  obtain ⟨ra, env1, e1, e2⟩ := e
  split at e2
  · split at e2
    · rename_i n hn
      cases e2
      refine ha F H σ env _ _ R e1 _ fun v F1 H1 R1 s1 r1 p1 => ?_
      have ok : RgOk 0 n := RgOk.of_le (Int.le_refl 0) (by omega) (by omega) hn.1
      refine ⟨n, (Bw.rp r1).int, ok, fun w hw => ?_⟩
      obtain ⟨a1, a2, a3, a4⟩ := fin1 (r := .fr (rngL 0 n)) R1 (same_upd hw) (.newL (xs := rgV 0 n) hw (by rw [rgV_length, sizeLine_eq]; omega) (rgV_rp 0 n))
      exact q _ F1 _ a1 (s1.trans a2) a3 (a4.mono s1)
    · cases e2
  · cases e2
theorem sE_lrev (g : Gd X N sc k) {a : E} {y : Expr} {x u : Str} {p p2 pos pos2 : Pos} (hx : blB sc x "list" = true) (hu : blB sc u "reversed" = true) (hm : X.mg "list" = none) (hm2 : X.mg "reversed" = none) (ha : SE X y (ev a)) (hs : noStar y = true) :
    SE X (.Call (.Name x p) [.Call (.Name u p2) [y] [] pos2] [] pos) (ev (.lrev a)) := by
  obtain ⟨rfl, hg⟩ := bl_ok g.z hx
  obtain ⟨rfl, hg2⟩ := bl_ok g.z hu
  obtain ⟨ta, pa, ha⟩ := ha
  refine ⟨_, pe_lstRev g.calm hg hm hg2 hm2 pa hs, fun F H σ env res env' R e Q q => ?_⟩
  simp only [ev, Option.bind_eq_bind, Option.bind_eq_some_iff, Prod.exists] at e
  obtain ⟨ra, env1, e1, da, e2, e3⟩ := e
  split at e3
  · cases e3
    refine ha F H σ env _ _ R e1 _ fun v F1 H1 R1 s1 r1 p1 => ?_
    obtain ⟨b, xs, rfl, h, z, r⟩ := (RR.bw R1 r1 e2).list
    refine ⟨b, xs, rfl, h, fun w hw => ?_⟩
    obtain ⟨a1, a2, a3, a4⟩ := fin1 (r := .fr _) R1 (same_upd hw) (.newL hw (by rw [List.length_reverse]; exact z) r.rev)
    exact q _ F1 _ a1 (s1.trans a2) a3 (a4.mono s1)
  · cases e3
theorem sE_rvt (g : Gd X N sc k) {a : E} {y : Expr} {x u : Str} {p p2 pos pos2 : Pos} (hx : blB sc x "tuple" = true) (hu : blB sc u "reversed" = true) (hm : X.mg "tuple" = none) (hm2 : X.mg "reversed" = none) (ha : SE X y (ev a)) (hs : noStar y = true) :
    SE X (.Call (.Name x p) [.Call (.Name u p2) [y] [] pos2] [] pos) (ev (.rvt a)) := by
  obtain ⟨rfl, hg⟩ := bl_ok g.z hx
  obtain ⟨rfl, hg2⟩ := bl_ok g.z hu
  obtain ⟨ta, pa, ha⟩ := ha
  refine ⟨_, pe_tupRevA g.calm hg hm hg2 hm2 pa hs, fun F H σ env res env' R e Q q => ?_⟩
  simp only [ev, Option.bind_eq_bind, Option.bind_eq_some_iff, Prod.exists] at e
  obtain ⟨ra, env1, e1, da, e2, r', e3, e4⟩ := e
  cases e4
  refine ha F H σ env _ _ R e1 _ fun v F1 H1 R1 s1 r1 p1 => ?_
  cases da <;> simp only [rvtv, reduceCtorEq] at e3
  · cases e3
    obtain ⟨b, xs, rfl, h, z, r⟩ := (RR.bw R1 r1 e2).list
    refine ⟨b, xs, rfl, .inl h, fun w hw => ?_⟩
    obtain ⟨a1, a2, a3, a4⟩ := fin1 (r := .val (.tuple _)) R1 (same_upd hw) (.newT hw (by rw [List.length_reverse]; exact z) r.rev)
    exact q _ F1 _ a1 (s1.trans a2) a3 (a4.mono s1)
  · split at e3
    · rename_i hne
      cases e3
      obtain ⟨b, xs, rfl, h, z, r⟩ := (RR.bw R1 r1 e2).tup
      refine ⟨b, xs, rfl, .inr ⟨h, fun hx => hne (by rw [hx] at r; cases r; rfl)⟩, fun w hw => ?_⟩
      obtain ⟨a1, a2, a3, a4⟩ := fin1 (r := .val (.tuple _)) R1 (same_upd hw) (.newT hw (by rw [List.length_reverse]; exact z) r.rev)
      exact q _ F1 _ a1 (s1.trans a2) a3 (a4.mono s1)
    · cases e3
theorem sE_lset (g : Gd X N sc k) {a : E} {y : Expr} {x u : Str} {p p2 pos pos2 : Pos} (hx : blB sc x "len" = true) (hu : blB sc u "set" = true) (hm : X.mg "len" = none) (hm2 : X.mg "set" = none) (ha : SE X y (ev a)) (hs : noStar y = true) :
    SE X (.Call (.Name x p) [.Call (.Name u p2) [y] [] pos2] [] pos) (ev (.lset a)) := by
  obtain ⟨rfl, hg⟩ := bl_ok g.z hx
  obtain ⟨rfl, hg2⟩ := bl_ok g.z hu
  obtain ⟨ta, pa, ha⟩ := ha
  refine ⟨_, pe_lenSetT g.calm hg hm hg2 hm2 pa hs, fun F H σ env res env' R e Q q => ?_⟩
  simp only [ev, Option.bind_eq_bind, Option.bind_eq_some_iff, Prod.exists] at e
  obtain ⟨ra, env1, e1, da, e2, r', e3, e4⟩ := e
  cases e4
  refine ha F H σ env _ _ R e1 _ fun v F1 H1 R1 s1 r1 p1 => ?_
  cases da <;> simp only [lsetv, reduceCtorEq, Option.bind_eq_some_iff] at e3
  obtain ⟨ns, e4, e5⟩ := e3
  split at e5
  · rename_i hn
    cases e5
    obtain ⟨b, xs, rfl, h, z, r⟩ := (RR.bw R1 r1 e2).tup
    obtain ⟨rfl, -⟩ := r.ints_ e4
    exact ⟨b, ns, rfl, h, hn, q _ F1 H1 R1 s1 (Rp.int _) trivial⟩
  · cases e5
theorem sE_srs (g : Gd X N sc k) {a : E} {y : Expr} {x u : Str} {p p2 pos pos2 : Pos} (hx : blB sc x "sorted" = true) (hu : blB sc u "set" = true) (hm : X.mg "sorted" = none) (hm2 : X.mg "set" = none) (ha : SE X y (ev a)) (hs : noStar y = true) :
    SE X (.Call (.Name x p) [.Call (.Name u p2) [y] [] pos2] [] pos) (ev (.srs a)) := by
  obtain ⟨rfl, hg⟩ := bl_ok g.z hx
  obtain ⟨rfl, hg2⟩ := bl_ok g.z hu
  obtain ⟨ta, pa, ha⟩ := ha
  have pset := pe_callTy (p := p2) (pos := pos2) (cr_setL g.calm) hg2 hm2 (by decide +kernel) (pa_cons pa pa_nil (starE hs)) (by decide) (by decide) (starE hs)
  refine ⟨_, pe_callB (cr_sortedSet g.calm) hg hm (by decide +kernel) (pa_cons pset pa_nil (starE rfl)) (by decide) (by decide) (starE rfl), fun F H σ env res env' R e Q q => ?_⟩
  simp only [ev, Option.bind_eq_bind, Option.bind_eq_some_iff, Prod.exists] at e
  obtain ⟨ra, env1, e1, da, e2, r', e3, e4⟩ := e
  cases e4
  refine ha F H σ env _ _ R e1 _ fun v F1 H1 R1 s1 r1 p1 => ?_
  cases da <;> simp only [srsv, reduceCtorEq, Option.bind_eq_some_iff] at e3
  obtain ⟨ns, e4, e5⟩ := e3
  split at e5
  · rename_i hn
    cases e5
    obtain ⟨b, xs, rfl, h, z, r⟩ := (RR.bw R1 r1 e2).list
    obtain ⟨rfl, -⟩ := r.ints_ e4
    refine ⟨b, ns, rfl, h, hn, fun p' c hp' hc => ⟨p', _, c, rfl, upd_same, by omega, fun ms p3 h1 h2 h3 h4 => ?_⟩⟩
    have em := srt_dd (ns := ns) h1 fun k => by rw [h2, decide_eq_true_eq]
    have h5 : H1 p3 = none := by
      by_cases e : p3 = p'
      · rw [e]; exact hp'
      · rw [upd_ne e] at h4; exact h4
    obtain ⟨a1, a2, a3, a4⟩ := fin1 (r := .fr ((sortI (ddI ns)).map .int)) R1 (fun x o q => same_upd h4 x o (same_upd hp' x o q)) ⟨p3, ms.map V.int, rfl, h5, upd_same, by rw [List.length_map, h3, sizeLine_eq]; omega, by rw [← em]; exact .of_ints _⟩
    exact q _ F1 _ a1 (s1.trans a2) a3 (a4.mono s1)
  · cases e5
theorem sE_frz {a : E} {y : Expr} (ha : SE X y (ev a)) : SE X y (ev (.frz a)) := by
  obtain ⟨ta, pa, ha⟩ := ha
  refine ⟨ta, pa, fun F H σ env res env' R e Q q => ?_⟩
  simp only [ev, Option.bind_eq_bind, Option.bind_eq_some_iff, Prod.exists] at e
  obtain ⟨ra, env1, e1, d, env2, e2, e3⟩ := e
  cases e3
  refine ha F H σ env _ _ R e1 _ fun v F1 H1 R1 s1 r1 p1 => ?_
  obtain ⟨F2, R2, s2, r2, _⟩ := keep_ok R1 r1 s1 p1 e2
  exact q v F2 H1 R2 s2 r2 trivial
def rRp (K : PySem.W.Frag) : List V → Hp → VK → Prop := fun xs H Q => ∃ x d, xs = [x] ∧ Dp K H x d ∧ okRp d = true ∧ Q (.str d.shown) H
theorem call_strD (hg : X.A.guards = some []) (hu : X.A.units + 100 < cLine) : CallR X (.type "str") (rRp X.K) := by
  intro pins s σ H xs us Q I r h
  obtain ⟨x, d, rfl, hd, ok, q⟩ := h
  obtain ⟨u, rfl, r1⟩ := vals1 r
  obtain ⟨as, r2⟩ := Dp.reads I d x u hd r1
  unfold okRp at ok
  simp only [Bool.and_eq_true, decide_eq_true_eq] at ok
  obtain ⟨o1, o2, o3, o4⟩ := ok
  obtain ⟨a, rfl⟩ := PyProof.Rows.isRef_of_reads r2 o1
  have hd := SeqAt.depth_of_shaped o2
  exact str_of_reads r2 o3 (PyData.noDict_hsm (PyData.hasDict_of_canLay d (SeqAt.canLay_of_shaped o2))) hg (by omega) (fun _ _ e => e) (fun h' u tk hk => ⟨.str d.shown, H, I.kept hk, ⟨_, rfl⟩, q⟩) o4
theorem call_reprD (hg : X.A.guards = some []) (hu : X.A.units + 100 < cLine) : CallR X (.builtin "repr") (rRp X.K) := by
  intro pins s σ H xs us Q I r h
  obtain ⟨x, d, rfl, hd, ok, q⟩ := h
  obtain ⟨u, rfl, r1⟩ := vals1 r
  obtain ⟨as, r2⟩ := Dp.reads I d x u hd r1
  unfold okRp at ok
  simp only [Bool.and_eq_true, decide_eq_true_eq] at ok
  obtain ⟨o1, o2, o3, o4⟩ := ok
  obtain ⟨a, rfl⟩ := PyProof.Rows.isRef_of_reads r2 o1
  have hd := SeqAt.depth_of_shaped o2
  exact repr_of_reads' r2 o3 (PyData.noDict_hsm (PyData.hasDict_of_canLay d (SeqAt.canLay_of_shaped o2))) hg (by omega) (fun _ _ e => e) (fun h' u tk hk => ⟨.str d.shown, H, I.kept hk, ⟨_, rfl⟩, q⟩) o4
theorem sE_rp (g : Gd X N sc k) {r : Bool} {a : E} {y : Expr} {x : Str} {p pos : Pos} (hx : blB sc x (if r then "repr" else "str") = true) (h1 : r = true → X.mg "repr" = none) (h2 : r = false → X.mg "str" = none) (ha : SE X y (ev a)) (hs : noStar y = true) (hk : N.contains kpNm = true) :
    SE X (.Call (.Name x p) [y] [] pos) (ev (.rp r a)) := by
  have hgu := g.gu hk
  have hu : X.A.units + 100 < cLine := by have := g.z.room.un; omega
  obtain ⟨rfl, hg⟩ := bl_ok g.z hx
  obtain ⟨ta, pa, ha⟩ := ha
  have main : ∀ (F : Addr → Prop) (H : Hp) (σ : L2.St) (env : Nv) (res : Res) (env' : Nv), ER X.K F H σ env → ev (.rp r a) env = some (res, env') → ∀ Q : VK, (∀ v F' H', ER X.K F' H' σ env' → Stp (wd σ env F H) (wd σ env' F' H') → RR X.K F' H' σ env' res v → Prov (wd σ env F H) res v → Q v H') → ∀ Ru : List V → Hp → VK → Prop, (∀ (v : V) (da : D) (F1 : Addr → Prop) (H1 : Hp), Bw X.K F1 H1 v da → (if r then okRx da else okRp da) = true → Q (.str da.shown) H1 → Ru [v] H1 Q) → tCB Ru (tCons ta tNil) σ H Q := by
    intro F H σ env res env' R e Q q Ru fin
    simp only [ev, Option.bind_eq_bind, Option.bind_eq_some_iff, Prod.exists] at e
    obtain ⟨ra, env1, e1, da, e2, e3⟩ := e
    by_cases ok : (if r = true then okRx da else okRp da) = true
    · rw [if_pos ok] at e3
      cases e3
      refine ha F H σ env _ _ R e1 _ fun v F1 H1 R1 s1 r1 p1 => ?_
      exact fin v da F1 H1 (RR.bw R1 r1 e2) ok (q _ F1 H1 R1 s1 (Rp.str _) trivial)
    · rw [if_neg ok] at e3
      cases e3
  cases r with
  | true => exact ⟨_, pe_callB (call_reprX hgu hu) hg (h1 rfl) (by decide +kernel) (pa_cons pa pa_nil (starE hs)) (by decide) (by decide) (starE hs), fun F H σ env res env' R e Q q => main F H σ env res env' R e Q q _ fun v da F1 H1 b ok k => by
      have ok : okRx da = true := ok
      have od : okD da = true := by
        unfold okRx at ok
        simp only [Bool.and_eq_true] at ok
        exact ok.1.1.1
      exact ⟨v, da, rfl, b.dq od, ok, k⟩⟩
  | false => exact ⟨_, pe_callTy (call_strD hgu hu) hg (h2 rfl) (by decide +kernel) (pa_cons pa pa_nil (starE hs)) (by decide) (by decide) (starE hs), fun F H σ env res env' R e Q q => main F H σ env res env' R e Q q _ fun v da F1 H1 b ok k => by
      have ok : okRp da = true := ok
      have hsh : SeqAt.shaped da = true := by
        unfold okRp at ok
        simp only [Bool.and_eq_true] at ok
        exact ok.2.1
      exact ⟨v, da, rfl, b.dp hsh, ok, k⟩⟩
theorem sE_rvl {a : E} {y : Expr} {n : Nat} {p1 p2 p3 pos : Pos} (ha : SE X y (ev a)) :
    SE X (.Subscript y (.Slice none none (some (.UnaryOp .USub (.Constant (.int 1) n p1) p2)) p3) pos) (ev (.rvl a)) := by
  obtain ⟨ta, pa, ha⟩ := ha
  refine ⟨_, pe_revS pa, fun F H σ env res env' R e Q q => ?_⟩
  simp only [ev, Option.bind_eq_bind, Option.bind_eq_some_iff, Prod.exists] at e
  obtain ⟨ra, env1, e1, da, e2, r', e3, e4⟩ := e
  cases e4
  refine ha F H σ env _ _ R e1 _ fun v F1 H1 R1 s1 r1 p1 => ?_
  cases da <;> simp only [rvlv, reduceCtorEq] at e3
  · cases e3
    obtain ⟨b, xs, rfl, h, z, r⟩ := (RR.bw R1 r1 e2).list
    refine ⟨b, xs, rfl, .inl ⟨h, fun w hw => ?_⟩⟩
    obtain ⟨a1, a2, a3, a4⟩ := fin1 (r := .fr _) R1 (same_upd hw) (.newL hw (by rw [List.length_reverse]; exact z) r.rev)
    exact q _ F1 _ a1 (s1.trans a2) a3 (a4.mono s1)
  · cases e3
    obtain ⟨b, xs, rfl, h, z, r⟩ := (RR.bw R1 r1 e2).tup
    refine ⟨b, xs, rfl, .inr ⟨h, fun w hw => ?_⟩⟩
    obtain ⟨a1, a2, a3, a4⟩ := fin1 (r := .val (.tuple _)) R1 (same_upd hw) (.newT hw (by rw [List.length_reverse]; exact z) r.rev)
    exact q _ F1 _ a1 (s1.trans a2) a3 (a4.mono s1)
mutual
theorem Rp.dupd {K : PySem.W.Frag} {F : Addr → Prop} {H : Hp} {p : Addr} {k1 : List (Key × V)} (e : H p = some (.dK [])) (nF : ¬ F p) (kp : ∀ x o, H x = some o → (∀ k, o ≠ .dK k) → upd H p (.dK k1) x = some o) : ∀ {v : V} {d : D}, Rp K F H v d → Rp K F (upd H p (.dK k1)) v d
  | _, _, .non => .non
  | _, _, .bl b => .bl b
  | _, _, .int b => .int b
  | _, _, .str b => .str b
  | _, _, .tup h z r => .tup (by
      rcases h with (h | ⟨o, h⟩) | h
      · exact .inl (.inl (kp _ _ h fun _ z => nomatch z))
      · exact .inl (.inr ⟨o, kp _ _ h fun _ z => nomatch z⟩)
      · exact .inr h) z (RpL.dupd e nF kp r)
  | _, _, .lst f h z r => .lst f (kp _ _ h fun _ z => nomatch z) z (RpL.dupd e nF kp r)
  | _, _, @Rp.kd _ _ _ a kvs ns h hs hk => by
      by_cases hp : a = p
      · subst hp
        rw [e] at h
        cases h
        cases ns with
        | nil => exact absurd rfl hs
        | cons n ns => have := hk n; simp [valV] at this
      · exact .kd (by rw [upd_ne hp]; exact h) hs hk
  | _, _, @Rp.dct _ _ _ a kvs ds f h r e2 hs => .dct f (by
      have hp : a ≠ p := fun z => nF (by rw [← z]; exact f)
      rw [upd_ne hp]; exact h) (RpL.dupd e nF kp r) e2 hs
  | _, _, .err h g => .err (kp _ _ h fun _ z => nomatch z) g
  | _, _, .errF h1 h2 nd hl g xf no r => .errF (kp _ _ h1 fun _ z => nomatch z) (kp _ _ h2 fun _ z => nomatch z) nd hl g xf no (RpL.dupd e nF kp r)
  | _, _, .fn => .fn
  | _, _, .dl h1 h2 c n z r => .dl (by
      rcases h1 with (h | ⟨o, h⟩) | h
      · exact .inl (.inl (kp _ _ h fun _ z => nomatch z))
      · exact .inl (.inr ⟨o, kp _ _ h fun _ z => nomatch z⟩)
      · exact .inr h) (kp _ _ h2 fun _ z => nomatch z) c n z (RpL.dupd e nF kp r)
  | _, _, .cst h z r => .cst (by
      rcases h with ⟨o, h⟩ | h
      · exact .inl ⟨o, kp _ _ h fun _ z => nomatch z⟩
      · exact .inr h) z (RpL.dupd e nF kp r)
theorem RpL.dupd {K : PySem.W.Frag} {F : Addr → Prop} {H : Hp} {p : Addr} {k1 : List (Key × V)} (e : H p = some (.dK [])) (nF : ¬ F p) (kp : ∀ x o, H x = some o → (∀ k, o ≠ .dK k) → upd H p (.dK k1) x = some o) : ∀ {vs : List V} {ds : List D}, RpL K F H vs ds → RpL K F (upd H p (.dK k1)) vs ds
  | _, _, .nil => .nil
  | _, _, .cons h r => .cons (Rp.dupd e nF kp h) (RpL.dupd e nF kp r)
end
theorem ER.dupd {K : PySem.W.Frag} {F : Addr → Prop} {H : Hp} {σ : L2.St} {env : Nv} {p : Addr} {k1 : List (Key × V)} (R : ER K F H σ env) (e : H p = some (.dK [])) (nF : ¬ F p) : ER K F (upd H p (.dK k1)) σ env := by
  have kp : ∀ x o, H x = some o → (∀ k, o ≠ .dK k) → upd H p (.dK k1) x = some o := fun x o h n => by
    by_cases hp : x = p
    · subst hp
      rw [e] at h
      exact absurd (Option.some.inj h).symm (n _)
    · rw [upd_ne hp]; exact h
  refine ⟨R.len, fun i s es => ?_, R.inj, fun a f => ?_, fun q hq => tabS_upd (R.tb q hq) e (fun _ z => nomatch z) fun _ z => nomatch z⟩
  · obtain ⟨ov, e1, r⟩ := R.sl i s es
    refine ⟨ov, e1, ?_⟩
    cases r with
    | un => exact .un
    | val r => exact .val (Rp.dupd e nF kp r)
    | own h z r n => exact .own (kp _ _ h fun _ z => nomatch z) z (RpL.dupd e nF kp r) n
    | lent h z r n => exact .lent (kp _ _ h fun _ z => nomatch z) z (RpL.dupd e nF kp r) n
  · by_cases hp : a = p
    · subst hp
      exact ⟨_, upd_same⟩
    · obtain ⟨o, h⟩ := R.tr a f
      exact ⟨o, by rw [upd_ne hp]; exact h⟩
theorem ER.addF {K : PySem.W.Frag} {F : Addr → Prop} {H : Hp} {σ : L2.St} {env : Nv} {p : Addr} {k1 : List (Key × V)} (R : ER K F H σ env) (e : H p = some (.dK k1)) : ER K (fun b => F b ∨ b = p) H σ env := by
  refine ⟨R.len, fun i s es => ?_, R.inj, fun a f => ?_, R.tb⟩
  · obtain ⟨ov, e1, r⟩ := R.sl i s es
    refine ⟨ov, e1, ?_⟩
    have no : ∀ {a : Addr} {xs : List V}, H a = some (.lst xs) → ¬ F a → ¬ (F a ∨ a = p) := fun h n q => by
      rcases q with q | rfl
      · exact n q
      · rw [h] at e; cases e
    cases r with
    | un => exact .un
    | val r => exact .val (r.monoF fun _ => .inl)
    | own h z r n => exact .own h z (r.monoF fun _ => .inl) (no h n)
    | lent h z r n => exact .lent h z (r.monoF fun _ => .inl) (no h n)
  · rcases f with f | rfl
    · exact R.tr a f
    · exact ⟨_, e⟩
theorem dk_done {K : PySem.W.Frag} {F F1 : Addr → Prop} {H H1 : Hp} {σ : L2.St} {env env' : Nv} {p : Addr} {k1 : List (Key × V)} (R : ER K F H σ env) (hp : H p = none) (R1 : ER K F1 H1 σ env') (s1 : Stp (wd σ env F (upd H p (.dK []))) (wd σ env' F1 H1)) :
    H1 p = some (.dK []) ∧ ¬ F1 p ∧ ER K (fun b => F1 b ∨ b = p) (upd H1 p (.dK k1)) σ env' ∧ Stp (wd σ env F H) (wd σ env' (fun b => F1 b ∨ b = p) (upd H1 p (.dK k1))) := by
  have R0 : ER K F (upd H p (.dK [])) σ env := R.same (same_upd hp)
  have no : ¬ OwnA σ env p := fun z => by
    obtain ⟨ys, z⟩ := R0.ok.ol p z
    have z : upd H p (.dK []) p = some (.lst ys) := z
    rw [upd_same] at z; cases z
  have hd : H1 p = some (.dK []) := s1.k p _ upd_same no fun _ z => nomatch z
  have nF : ¬ F1 p := fun f => by
    rcases s1.g p f with f | f | f
    · obtain ⟨o, f⟩ := R.tr p f
      rw [hp] at f; cases f
    · exact no f
    · have f : upd H p (.dK []) p = none := f
      rw [upd_same] at f; cases f
  have s : Stp (wd σ env F H) (wd σ env' F1 H1) := (Same.stp (σ := σ) (env := env) (F := F) (same_upd hp)).trans s1
  have hx : ∀ x o, H x = some o → x ≠ p := fun x o h z => by rw [z, hp] at h; cases h
  refine ⟨hd, nF, (R1.dupd hd nF).addF upd_same, ⟨fun x o h n nt => (upd_ne (hx x o h)).trans (s.k x o h n nt), fun x o h => (s.t x o h).elim fun o' h' => ⟨o', (upd_ne (hx x o h)).trans h'⟩, s.o, s.l, fun x f => .inl (s.f x f), fun x f => ?_⟩⟩
  rcases f with f | rfl
  · exact s.g x f
  · exact .inr (.inr hp)
theorem rp_done {K : PySem.W.Frag} {F1 : Addr → Prop} {H1 : Hp} {p : Addr} {k1 : List (Key × V)} (hd : H1 p = some (.dK [])) (nF : ¬ F1 p) {v : V} {d : D} (r : Rp K F1 H1 v d) : Rp K (fun b => F1 b ∨ b = p) (upd H1 p (.dK k1)) v d := by
  have kp : ∀ x o, H1 x = some o → (∀ k, o ≠ .dK k) → upd H1 p (.dK k1) x = some o := fun x o h n => by
    by_cases hp : x = p
    · subst hp
      rw [hd] at h
      exact absurd (Option.some.inj h).symm (n _)
    · rw [upd_ne hp]; exact h
  exact (Rp.dupd hd nF kp r).monoF fun _ => .inl
theorem sE_dsp {k : Key} {a : E} {kx y : Expr} {pos : Pos} (hk : PE X kx (tC (kV k))) (ha : SE X y (ev a)) : SE X (.Dict [some kx] [y] pos) (ev (.dsp k a)) := by
  obtain ⟨ta, pa, ha⟩ := ha
  refine ⟨_, pe_disp (pps_cons hk pa pps_nil) rfl rfl (by simp) (by simp), fun F H σ env res env' R e Q q => ?_⟩
  simp only [ev, Option.bind_eq_bind, Option.bind_eq_some_iff, Prod.exists, Option.some.injEq, Prod.mk.injEq] at e
  obtain ⟨ra, env1, e1, d, env2, e2, rfl, rfl⟩ := e
  intro p hp
  have R0 : ER X.K F (upd H p (.dK [])) σ env := R.same (same_upd hp)
  refine ha F (upd H p (.dK [])) σ env _ _ R0 e1 _ fun v F1 H1 R1 s1 r1 p1 => ?_
  obtain ⟨F2, R2, s2, r2, _⟩ := keep_ok R1 r1 s1 p1 e2
  obtain ⟨hd, nF, R3, S⟩ := dk_done (k1 := [(k, v)]) R hp R2 s2
  exact ⟨hd, [(k, v)], rfl, by simp, q _ _ _ R3 S (Rp.dct (.inr rfl) upd_same (.cons (rp_done hd nF r2) .nil) rfl (by cases k <;> rfl)) trivial⟩
theorem sE_dspe {kk a : E} {kx y : Expr} {pos : Pos} (hk : SE X kx (ev kk)) (ha : SE X y (ev a)) : SE X (.Dict [some kx] [y] pos) (ev (.dspe kk a)) := by
  obtain ⟨tk, pk, hk⟩ := hk
  obtain ⟨ta, pa, ha⟩ := ha
  refine ⟨_, pe_disp (pps_cons pk pa pps_nil) rfl rfl (by simp) (by simp), fun F H σ env res env' R e Q q => ?_⟩
  simp only [ev, Option.bind_eq_bind, Option.bind_eq_some_iff, Prod.exists] at e
  obtain ⟨rk, envk, ek, e⟩ := e
  split at e
  · rename_i i
    simp only [Option.bind_eq_some_iff, Prod.exists, Option.some.injEq, Prod.mk.injEq] at e
    obtain ⟨ra, env1, e1, d, env2, e2, rfl, rfl⟩ := e
    intro p hp
    have R0 : ER X.K F (upd H p (.dK [])) σ env := R.same (same_upd hp)
    refine hk F (upd H p (.dK [])) σ env _ _ R0 ek _ fun kv F0 H0 Rk sk rk pk0 => ?_
    have ekv : kv = .int i := (Bw.rp rk).int
    refine ha F0 H0 σ envk _ _ Rk e1 _ fun v F1 H1 R1 s1' r1 p1 => ?_
    obtain ⟨F2, R2, s2, r2, _⟩ := keep_ok R1 r1 (sk.trans s1') (p1.mono sk) e2
    obtain ⟨hd, nF, R3, S⟩ := dk_done (k1 := [(Sum.inl i, v)]) R hp R2 s2
    exact ⟨hd, [(Sum.inl i, v)], by rw [ekv]; rfl, by simp, q _ _ _ R3 S (Rp.dct (.inr rfl) upd_same (.cons (rp_done hd nF r2) .nil) rfl rfl) trivial⟩
  · cases e
theorem sE_dsp2 {k l : Key} {a b : E} {kx ky y z : Expr} {pos : Pos} (hk : PE X kx (tC (kV k))) (hl : PE X ky (tC (kV l))) (ha : SE X y (ev a)) (hb : SE X z (ev b)) : SE X (.Dict [some kx, some ky] [y, z] pos) (ev (.dsp2 k a l b)) := by
  obtain ⟨ta, pa, ha⟩ := ha
  obtain ⟨tb, pb, hb⟩ := hb
  refine ⟨_, pe_disp (pps_cons hk pa (pps_cons hl pb pps_nil)) rfl rfl (by simp) (by simp), fun F H σ env res env' R e Q q => ?_⟩
  simp only [ev, Option.bind_eq_bind, Option.bind_eq_some_iff, Prod.exists] at e
  obtain ⟨ra, env1, e1, d, env2, e2, rb, env3, e3, c, env4, e4, e5⟩ := e
  split at e5
  · cases e5
  · rename_i hkl
    cases e5
    intro p hp
    have R0 : ER X.K F (upd H p (.dK [])) σ env := R.same (same_upd hp)
    refine ha F (upd H p (.dK [])) σ env _ _ R0 e1 _ fun v F0 H0 Ra sa ra pa0 => ?_
    obtain ⟨F2, R2, s2, r2, _⟩ := keep_ok Ra ra sa pa0 e2
    refine hb F2 H0 σ env2 _ _ R2 e3 _ fun u F1 H1 R1 s1' r1 p1 => ?_
    obtain ⟨F3, R3, s3, r3, f3⟩ := keep_ok R1 r1 (s2.trans s1') (p1.mono s2) e4
    have r2' : Rp X.K F3 H1 v d := (Rp.mono (a := wd σ env2 F2 H0) (b := wd σ env3 F1 H1) s1' R2.ok r2).monoF f3
    obtain ⟨hd, nF, R4, S⟩ := dk_done (k1 := [(k, v), (l, u)]) R hp R3 s3
    have em : mergeK ([] : List (Key × V)) [(k, v), (l, u)] = [(k, v), (l, u)] := by
      unfold mergeK
      simp [putK, hkl]
    exact ⟨hd, [(k, v), (l, u)], rfl, by simp, by rw [em]; exact q _ _ _ R4 S (Rp.dct (.inr rfl) upd_same (.cons (rp_done hd nF r2') (.cons (rp_done hd nF r3) .nil)) rfl (by cases k <;> rfl)) trivial⟩
theorem sE_dct {pos : Pos} : SE X (.Dict [] [] pos) (ev .dct) := by
  refine ⟨_, pe_dnewK, fun F H σ env res env' R e Q q => ?_⟩
  simp only [ev, Option.some.injEq, Prod.mk.injEq] at e
  obtain ⟨rfl, rfl⟩ := e
  intro p hp
  have R0 : ER X.K F (upd H p (.dK [])) σ env := R.same (same_upd hp)
  refine q _ (fun b => F b ∨ b = p) _ (R0.addF upd_same) ?_ (Rp.dct (.inr rfl) upd_same .nil rfl rfl) trivial
  have s : Stp (wd σ env F H) (wd σ env F (upd H p (.dK []))) := Same.stp (same_upd hp)
  refine ⟨s.k, s.t, s.o, s.l, fun x f => .inl (s.f x f), fun x f => ?_⟩
  rcases f with f | rfl
  · exact s.g x f
  · exact .inr (.inr hp)
theorem sE_mx3 (g : Gd X N sc k) {a b c : E} {y z w : Expr} {x : Str} {p pos : Pos} (hx : blB sc x "max" = true) (hm : X.mg "max" = none) (ha : SE X y (ev a)) (hb : SE X z (ev b)) (hc : SE X w (ev c)) (h1 : noStar y = true) (h2 : noStar z = true) (h3 : noStar w = true) :
    SE X (.Call (.Name x p) [y, z, w] [] pos) (ev (.mx3 a b c)) := by
  obtain ⟨rfl, hg⟩ := bl_ok g.z hx
  obtain ⟨ta, pa, ha⟩ := ha
  obtain ⟨tb, pb, hb⟩ := hb
  obtain ⟨tc, pc, hc⟩ := hc
  refine ⟨_, pe_callB (cr_max3 g.calm) hg hm (by decide +kernel) (pa_cons pa (pa_cons pb (pa_cons pc pa_nil (starE h3)) (starE h2)) (starE h1)) (by decide) (by decide) (starE h1) (starAny (by simp [h2, h3])), fun F H σ env res env' R e Q q => ?_⟩
  simp only [ev, Option.bind_eq_bind, Option.bind_eq_some_iff, Prod.exists] at e
  obtain ⟨ra, env1, e1, rb, env2, e2, rc, env3, e3, da, e4, db, e5, dc, e6, r', e7, e8⟩ := e
  cases e8
  refine two (l := y) (m := z) ha hb R e1 e2 fun u v F2 H2 R2 s2 r1 r2 _ _ => ?_
  refine hc F2 H2 σ env2 _ _ R2 e3 _ fun o F3 H3 R3 s3 r3 _ => ?_
  cases da <;> cases db <;> cases dc <;> simp only [mx3v, reduceCtorEq, Option.some.injEq] at e7
  subst e7
  exact ⟨_, _, _, by rw [(RR.bw R3 (RR.mono R2 s3 r1) e4).int, (RR.bw R3 (RR.mono R2 s3 r2) e5).int, (RR.bw R3 r3 e6).int], q _ F3 H3 R3 (s2.trans s3) (Rp.int _) trivial⟩
theorem sortR_is {ns ms : List Int} (hp : ms.Perm ns) (hs : OrdB true ms) : ms = sortR ns := by
  have h : ms.reverse = sortI ns := sortI_is ((List.reverse_perm ms).trans hp) (List.pairwise_reverse.mpr (show ms.Pairwise (· ≥ ·) from hs))
  unfold sortR
  rw [← h, List.reverse_reverse]
theorem sE_srv (g : Gd X N sc k) {a : E} {y : Expr} {x : Str} {n : Nat} {p p2 p3 pos : Pos} (hx : blB sc x "sorted" = true) (hm : X.mg "sorted" = none) (ha : SE X y (ev a)) (h1 : noStar y = true) :
    SE X (.Call (.Name x p) [y] [⟨some "reverse", .Constant (.bool true) n p2, p3⟩] pos) (ev (.srv a)) := by
  obtain ⟨rfl, hg⟩ := bl_ok g.z hx
  obtain ⟨ta, pa, ha⟩ := ha
  refine ⟨_, pe_callBK (cr_sortedRev (b := true)) hg hm (by decide +kernel) (pa_cons pa pa_nil (starE h1)) (pk_cons pe_bl pk_nil) (by decide) (by decide) (by rw [starE h1]; rfl) (by rw [starE h1]; rfl), fun F H σ env res env' R e Q q => ?_⟩
  simp only [ev, Option.bind_eq_bind, Option.bind_eq_some_iff, Prod.exists] at e
  obtain ⟨ra, env1, e1, da, e2, r', e3, e4⟩ := e
  cases e4
  refine ha F H σ env _ _ R e1 _ fun v F1 H1 R1 s1 r1 p1 => ?_
  cases da <;> simp only [srvv, reduceCtorEq, Option.map_eq_some_iff] at e3
  obtain ⟨ns, e5, rfl⟩ := e3
  obtain ⟨b, xs, rfl, h, z, r⟩ := (RR.bw R1 r1 e2).list
  obtain ⟨e6, _⟩ := r.ints_ e5
  rw [e6] at h z
  refine ⟨b, ns, rfl, rfl, h, fun ms w hp hs hw => ?_⟩
  have em := sortR_is hp hs
  subst em
  obtain ⟨a1, a2, a3, a4⟩ := fin1 (r := .fr ((sortR ns).map .int)) R1 (same_upd hw) (.newL (xs := (sortR ns).map V.int) hw (by rw [List.length_map, hp.length_eq]; rw [List.length_map] at z; exact z) (.of_ints _))
  exact q _ F1 _ a1 (s1.trans a2) a3 (a4.mono s1)
end
end Ev

/-! A verified evaluator over the hand layer, part 8: lists that change, argument lists, calls. -/
namespace Ev
open PySem L2

section
variable {K : PySem.W.Frag} {F F' : Addr → Prop} {H H' : Hp} {σ : L2.St} {env env' : Nv}
theorem set_get {env : Nv} {i j : Nat} {s t : Slot} (h : (env.set i s)[j]? = some t) : (j = i ∧ t = s) ∨ (j ≠ i ∧ env[j]? = some t) := by
  by_cases hj : j = i
  · subst hj
    by_cases hl : j < env.length
    · rw [List.getElem?_set_self hl] at h
      exact .inl ⟨rfl, (Option.some.inj h).symm⟩
    · rw [List.getElem?_eq_none (by simpa using hl)] at h; cases h
  · rw [List.getElem?_set_ne (Ne.symm hj)] at h
    exact .inr ⟨hj, h⟩
theorem own_upd (R : ER K F H σ env) {i : Nat} {l m : List D} (e : sAt env i = .own l) {a : Addr} (e1 : σ[i]? = some (some (.ref a))) {ys : List V} (z : ys.length ≤ sizeLine) (r : RpL K F H ys m) :
    ER K F (upd H a (.lst ys)) σ (env.set i (.own m)) ∧ Stp (wd σ env F H) (wd σ (env.set i (.own m)) F (upd H a (.lst ys))) := by
  obtain ⟨b, xs, e2, h1, z1, r1, nf, oa⟩ := R.own e
  rw [e1] at e2; cases e2
  have eg := sAt_get e (fun z => nomatch z)
  have st : Stp (wd σ env F H) (wd σ (env.set i (.own m)) F (upd H a (.lst ys))) := by
    refine ⟨fun x o h n _ => ?_, fun x o h => ?_, fun x o => ?_, fun x o => ?_, fun x f => f, fun x f => .inl f⟩
    · show upd H a (.lst ys) x = _
      rw [upd_ne (fun q : x = a => n (by rw [q]; exact oa))]
      exact h
    · by_cases q : x = a
      · exact ⟨.lst ys, by show upd H a (.lst ys) x = _; rw [q, upd_same]⟩
      · exact ⟨o, by show upd H a (.lst ys) x = _; rw [upd_ne q]; exact h⟩
    · obtain ⟨j, l2, q1, q2⟩ := o
      rcases set_get q1 with ⟨rfl, _⟩ | ⟨_, q1⟩
      · exact .inl ⟨j, l, eg, q2⟩
      · exact .inl ⟨j, l2, q1, q2⟩
    · obtain ⟨j, l2, q1, q2⟩ := o
      rcases set_get q1 with ⟨_, q1⟩ | ⟨_, q1⟩
      · cases q1
      · exact .inl ⟨j, l2, q1, q2⟩
  refine ⟨⟨by rw [List.length_set]; exact R.len, fun j s q => ?_, fun j k b q1 q2 q3 q4 => ?_, fun b f => ?_, fun p hp => tabS_upd (R.tb p hp) h1 (fun _ z => nomatch z) fun _ z => nomatch z⟩, st⟩
  · rcases set_get q with ⟨rfl, rfl⟩ | ⟨hj, q⟩
    · exact ⟨_, e1, .own upd_same z (RpL.mono (a := wd σ env F H) (b := wd σ _ F _) st R.ok r) nf⟩
    · obtain ⟨ov, q1, q2⟩ := R.sl j s q
      refine ⟨ov, q1, ?_⟩
      cases q2 with
      | un => exact .un
      | val r => exact .val (Rp.mono (a := wd σ env F H) (b := wd σ _ F _) st R.ok r)
      | own h2 z2 r2 n2 =>
        exact .own (by rw [upd_ne (fun w => hj (R.inj i j _ ⟨_, .inl eg⟩ e1 (by rw [← w]; exact q1) ⟨_, .inl q⟩).symm)]; exact h2) z2 (RpL.mono (a := wd σ env F H) (b := wd σ _ F _) st R.ok r2) n2
      | lent h2 z2 r2 n2 =>
        exact .lent (by rw [upd_ne (fun w => hj (R.inj i j _ ⟨_, .inl eg⟩ e1 (by rw [← w]; exact q1) ⟨_, .inr q⟩).symm)]; exact h2) z2 (RpL.mono (a := wd σ env F H) (b := wd σ _ F _) st R.ok r2) n2
  · have back : ∀ {j : Nat}, (∃ l', (env.set i (.own m))[j]? = some (.own l') ∨ (env.set i (.own m))[j]? = some (.lent l')) → ∃ l', env[j]? = some (.own l') ∨ env[j]? = some (.lent l') := fun {j} ⟨l', w⟩ => by
      rcases w with w | w
      · rcases set_get w with ⟨rfl, _⟩ | ⟨_, w⟩
        · exact ⟨l, .inl eg⟩
        · exact ⟨l', .inl w⟩
      · rcases set_get w with ⟨_, w⟩ | ⟨_, w⟩
        · cases w
        · exact ⟨l', .inr w⟩
    exact R.inj j k b (back q1) q2 q3 (back q4)
  · obtain ⟨o, h⟩ := R.tr b f
    by_cases q : b = a
    · exact ⟨.lst ys, by rw [q, upd_same]⟩
    · exact ⟨o, by rw [upd_ne q]; exact h⟩
theorem isOwn_ok {env : Nv} {i : Nat} (h : isOwn env i = true) : ∃ l, sAt env i = .own l := by
  unfold isOwn at h
  split at h
  · exact ⟨_, by assumption⟩
  · cases h
end

section
variable {X : Cx} {N : List Str} {sc : Scope} {k : Nat}
theorem sE_app (g : Gd X N sc k) {i : Nat} {a : E} {x : Str} {y : Expr} {p pos : Pos} {ap : Pos} (hn : nmB N sc i x = true) (ha : SE X y (ev a)) (hs : noStar y = true) (hl : (ap.endLine == pos.line) = true) :
    SE X (.Call (.Attribute (.Name x p) "append" ap) [y] [] pos) (ev (.app i a)) := by
  obtain ⟨ta, pa, ha⟩ := ha
  refine ⟨_, pe_bm PySem.F.plainAttrs_list PySem.F.slot_list_append PySem.F.type_list_append mt_append (nm_ok g.z hn) (pa_cons pa pa_nil (starE hs)) rfl (by rw [starE hs]; rfl) hl (starE hs), fun F H σ env res env' R e Q q => ?_⟩
  simp only [ev] at e
  split at e
  · rename_i ho
    simp only [Option.bind_eq_bind, Option.bind_eq_some_iff, Prod.exists] at e
    obtain ⟨ra, env1, e1, d, env2, e2, e3⟩ := e
    obtain ⟨l0, h0⟩ := isOwn_ok ho
    obtain ⟨b, xs0, b1, b2, _⟩ := R.own h0
    refine ⟨_, b1, .inl ⟨rfl, xs0, .of b2⟩, ?_⟩
    refine ha F H σ env _ _ R e1 _ fun v F1 H1 R1 s1 r1 p1 => ?_
    obtain ⟨F2, R2, s2, r2, _⟩ := keep_ok R1 r1 s1 p1 e2
    split at e3
    · rename_i l h1
      split at e3
      · rename_i hb
        cases e3
        obtain ⟨c, xs, c1, c2, c3, c4, _⟩ := R2.own h1
        rw [b1] at c1; cases c1
        have hz : xs.length < sizeLine := by rw [c4.length, ← big_eq]; exact hb
        obtain ⟨R3, s3⟩ := own_upd R2 h1 b1 (ys := xs ++ [v]) (by rw [List.length_append]; exact hz) (c4.append (.cons r2 .nil))
        exact ⟨b, xs, v, rfl, rfl, c2, hz, q _ F2 _ R3 (s2.trans s3) Rp.non trivial⟩
      · cases e3
    · cases e3
  · cases e
theorem sE_pop (g : Gd X N sc k) {i : Nat} {x : Str} {p pos : Pos} {ap : Pos} (hn : nmB N sc i x = true) (hl : (ap.endLine == pos.line) = true) :
    SE X (.Call (.Attribute (.Name x p) "pop" ap) [] [] pos) (ev (.pop i)) := by
  refine ⟨_, pe_bm0 PySem.F.plainAttrs_list PySem.F.slot_list_pop PySem.F.type_list_pop mt_pop (nm_ok g.z hn) rfl hl, fun F H σ env res env' R e Q q => ?_⟩
  simp only [ev] at e
  split at e
  · rename_i l h0
    split at e
    · rename_i d hd
      cases e
      obtain ⟨b, xs, b1, b2, b3, b4, _⟩ := R.own h0
      refine ⟨_, b1, .inl ⟨rfl, xs, .of b2⟩, ?_⟩
      obtain ⟨v, v1, v2⟩ := b4.get hd
      obtain ⟨R3, s3⟩ := own_upd R h0 b1 (ys := xs.dropLast) (by rw [List.length_dropLast]; omega) b4.dropLast
      exact ⟨b, xs, v, rfl, rfl, b2, by rw [b4.length]; exact v1, q v F _ R3 s3 (Rp.mono (a := wd σ env F H) (b := wd σ _ F _) s3 R.ok v2) trivial⟩
    · cases e
  · cases e
theorem sE_popAt (g : Gd X N sc k) {i : Nat} {a : E} {x : Str} {y : Expr} {p pos : Pos} {ap : Pos} (hn : nmB N sc i x = true) (ha : SE X y (ev a)) (hs : noStar y = true) (hl : (ap.endLine == pos.line) = true) :
    SE X (.Call (.Attribute (.Name x p) "pop" ap) [y] [] pos) (ev (.popAt i a)) := by
  obtain ⟨ta, pa, ha⟩ := ha
  refine ⟨_, pe_bm PySem.F.plainAttrs_list PySem.F.slot_list_pop PySem.F.type_list_pop mt_popAt (nm_ok g.z hn) (pa_cons pa pa_nil (starE hs)) rfl (by rw [starE hs]; rfl) hl (starE hs), fun F H σ env res env' R e Q q => ?_⟩
  simp only [ev] at e
  split at e
  · rename_i ho
    simp only [Option.bind_eq_bind, Option.bind_eq_some_iff, Prod.exists] at e
    obtain ⟨ra, env1, e1, e3⟩ := e
    obtain ⟨l0, h0⟩ := isOwn_ok ho
    obtain ⟨b, xs0, b1, b2, _⟩ := R.own h0
    refine ⟨_, b1, .inl ⟨rfl, xs0, .of b2⟩, ?_⟩
    refine ha F H σ env _ _ R e1 _ fun v F1 H1 R1 s1 r1 p1 => ?_
    split at e3
    · rename_i j
      split at e3
      · rename_i l h1
        split at e3
        · rename_i hj
          split at e3
          · rename_i d hd
            cases e3
            obtain ⟨c, xs, c1, c2, c3, c4, _⟩ := R1.own h1
            rw [b1] at c1; cases c1
            obtain ⟨u, u1, u2⟩ := c4.get hd
            have hlen := c4.length
            have hx : ixN xs.length j = some j.toNat := by
              unfold ixN
              rw [if_pos hj.1, if_pos (by rw [hlen]; exact hj.2)]
            obtain ⟨k1, k2, k3, k4⟩ := ixN_seq hx
            have hsz := line63
            obtain ⟨R3, s3⟩ := own_upd R1 h1 b1 (ys := xs.eraseIdx j.toNat) (by have := len_erase xs j.toNat; omega) (c4.eraseIdx _)
            exact ⟨b, xs, j, j.toNat, u, rfl, by rw [(Bw.rp r1).int], c2, by omega, by omega, k1, u1, q u F1 _ R3 (s1.trans s3) (Rp.mono (a := wd σ env1 F1 H1) (b := wd σ _ F1 _) s3 R1.ok u2) trivial⟩
          · cases e3
        · cases e3
      · cases e3
    · cases e3
  · cases e

/-! ### argument lists -/
def Dis (rs : List Res) (vs : List V) : Prop := ∀ (i j : Nat) (l m : List D) (a : Addr), rs[i]? = some (.fr l) → rs[j]? = some (.fr m) → vs[i]? = some (.ref a) → vs[j]? = some (.ref a) → i = j
def SL3 (X : Cx) (xs : List Expr) (es : EL) : Prop := ∃ t, PA X xs t ∧
  (∀ (F : Addr → Prop) (H : Hp) (σ : L2.St) (env : Nv) (ds : List D) (env' : Nv), ER X.K F H σ env → evK es env = some (ds, env') →
    ∀ Q : List V → Hp → Prop, (∀ vs F' H', ER X.K F' H' σ env' → Stp (wd σ env F H) (wd σ env' F' H') → RpL X.K F' H' vs ds → Q vs H') → t σ H Q) ∧
  (∀ (F : Addr → Prop) (H : Hp) (σ : L2.St) (env : Nv) (rs : List Res) (env' : Nv), ER X.K F H σ env → evL es env = some (rs, env') →
    ∀ Q : List V → Hp → Prop, (∀ vs F' H', ER X.K F' H' σ env' → Stp (wd σ env F H) (wd σ env' F' H') → RRL X.K F' H' σ env' rs vs → ProvL (wd σ env F H) rs vs → Dis rs vs → Q vs H') → t σ H Q)
theorem SL3.two (h : SL3 X xs es) : SL2 X xs es := by
  obtain ⟨t, h1, h2, h3⟩ := h
  exact ⟨t, h1, h2, fun F H σ env rs env' R e Q q => h3 F H σ env rs env' R e Q fun vs F' H' R' s r p _ => q vs F' H' R' s r p⟩
theorem sL_nil : SL3 X [] .nil := by
  refine ⟨_, pa_nil, fun F H σ env ds env' R e Q q => ?_, fun F H σ env ds env' R e Q q => ?_⟩
  · simp only [evK, Option.some.injEq, Prod.mk.injEq] at e
    obtain ⟨rfl, rfl⟩ := e
    exact q [] F H R (Stp.refl _) .nil
  · simp only [evL, Option.some.injEq, Prod.mk.injEq] at e
    obtain ⟨rfl, rfl⟩ := e
    exact q [] F H R (Stp.refl _) .nil .nil fun i j l m a h => by simp at h
theorem PairedMapP {α β : Type} {G G' : α → β → Prop} : ∀ {xs : List α} {ys : List β}, Paired G xs ys → (∀ x y, G x y → G' x y) → Paired G' xs ys
  | _, _, .nil, _ => .nil
  | _, _, .cons h r, f => .cons (f _ _ h) (PairedMapP r f)
theorem PairedGet {α β : Type} {G : α → β → Prop} : ∀ {xs : List α} {ys : List β} {i : Nat} {x : α} {y : β}, Paired G xs ys → xs[i]? = some x → ys[i]? = some y → G x y
  | _, _, _, _, _, .nil, e, _ => by simp at e
  | _, _, 0, _, _, .cons h _, e1, e2 => by simp at e1 e2; subst e1; subst e2; exact h
  | _, _, i + 1, x, y, .cons _ r, e1, e2 => PairedGet (i := i) r (by simpa using e1) (by simpa using e2)
theorem sL_cons {e : E} {es : EL} {x : Expr} {xs : List Expr} (he : SE X x (ev e)) (hr : SL3 X xs es) (hs : noStar x = true) : SL3 X (x :: xs) (.cons e es) := by
  obtain ⟨t, pt, ht⟩ := he
  obtain ⟨u, pu, hK, hL⟩ := hr
  refine ⟨_, pa_cons pt pu (starE hs), fun F H σ env ds env' R e Q q => ?_, fun F H σ env rs env' R e Q q => ?_⟩
  · simp only [evK, Option.bind_eq_bind, Option.bind_eq_some_iff, Prod.exists, Option.some.injEq, Prod.mk.injEq] at e
    obtain ⟨r, env1, e1, d, env2, e2, ds2, env3, e3, rfl, rfl⟩ := e
    refine ht F H σ env _ _ R e1 _ fun v F1 H1 R1 s1 r1 p1 => ?_
    obtain ⟨F2, R2, s2, r2, _⟩ := keep_ok R1 r1 s1 p1 e2
    refine hK F2 H1 σ env2 _ _ R2 e3 _ fun vs F3 H3 R3 s3 r3 => ?_
    exact q (v :: vs) F3 H3 R3 (s2.trans s3) (.cons (Rp.mono (a := wd σ env2 F2 H1) (b := wd σ _ F3 H3) s3 R2.ok r2) r3)
  · simp only [evL, Option.bind_eq_bind, Option.bind_eq_some_iff, Prod.exists, Option.some.injEq, Prod.mk.injEq] at e
    obtain ⟨r, env1, e1, rs2, env3, e3, rfl, rfl⟩ := e
    refine ht F H σ env _ _ R e1 _ fun v F1 H1 R1 s1 r1 p1 => ?_
    refine hL F1 H1 σ env1 _ _ R1 e3 _ fun vs F3 H3 R3 s3 r3 p3 d3 => ?_
    refine q (v :: vs) F3 H3 R3 (s1.trans s3) (.cons (RR.mono R1 s3 r1) r3) (.cons p1 (PairedMapP p3 fun _ _ => Prov.mono s1)) ?_
    have apart : ∀ (j : Nat) (l m : List D) (a : Addr), r = .fr l → v = .ref a → rs2[j]? = some (.fr m) → vs[j]? = some (.ref a) → False := fun j l m a q1 q2 q3 q4 => by
      subst q1
      obtain ⟨b, ys, eb, h1, _, _, n1, n2, n3⟩ := r1
      rw [q2] at eb; cases eb
      rcases (PairedGet p3 q3 q4) a rfl with w | w
      · exact n2 w
      · have w : H1 a = none := w
        rw [h1] at w; cases w
    intro i j l m a q1 q2 q3 q4
    cases i with
    | zero =>
      cases j with
      | zero => rfl
      | succ j =>
        simp only [List.getElem?_cons_zero, Option.some.injEq, List.getElem?_cons_succ] at q1 q2 q3 q4
        exact (apart j l m a q1 q3 q2 q4).elim
    | succ i =>
      cases j with
      | zero =>
        simp only [List.getElem?_cons_zero, Option.some.injEq, List.getElem?_cons_succ] at q1 q2 q3 q4
        exact (apart i m l a q2 q4 q1 q3).elim
      | succ j =>
        simp only [List.getElem?_cons_succ] at q1 q2 q3 q4
        rw [d3 i j l m a q1 q2 q3 q4]
end
end Ev

/-! Further calls: tuple(range(..)), ~, min of three, index, extend, reverse, remove. -/
namespace Ev
open PySem PySem.Spec PyProof.Rows L2
theorem idxI_ok {k : Int} : ∀ {ns : List Int} {j : Nat}, idxI k ns = some j → ns[j]? = some k ∧ ∀ m, m < j → ns[m]? ≠ some k
  | [], _, e => by cases e
  | a :: l, j, e => by
    unfold idxI at e
    by_cases h : a = k
    · rw [if_pos h] at e; cases e
      exact ⟨by rw [h]; rfl, fun m hm => absurd hm (Nat.not_lt_zero m)⟩
    · rw [if_neg h, Option.map_eq_some_iff] at e
      obtain ⟨i, e1, rfl⟩ := e
      obtain ⟨h1, h2⟩ := idxI_ok e1
      refine ⟨by rw [List.getElem?_cons_succ]; exact h1, fun m hm => ?_⟩
      cases m with
      | zero => exact fun z => h (Option.some.inj z)
      | succ m => rw [List.getElem?_cons_succ]; exact h2 m (by omega)
section
variable {X : Cx}
def rMin3 : List V → Hp → VK → Prop := fun vs H Q => ∃ a b c : Int, vs = [.int a, .int b, .int c] ∧ Q (.int (min3 a b c)) H
theorem cr_min3 (hc : X.calm = true) : CallR X (.builtin "min") rMin3 := by
  intro pins s σ H vs us Q I r h
  obtain ⟨a, b, c, rfl, q⟩ := h
  obtain ⟨t, u, x, rfl⟩ : ∃ t u x, us = [Value.int a t, .int b u, .int c x] := by
    cases r with
    | cons r1 r =>
      cases r with
      | cons r2 r =>
        cases r with
        | cons r3 r =>
          cases r
          obtain ⟨t, rfl⟩ := r1
          obtain ⟨u, rfl⟩ := r2
          obtain ⟨x, rfl⟩ := r3
          exact ⟨t, u, x, rfl⟩
  refine min_three_ints (I.ok.hd hc) fun h' tk hk => ⟨.int (min3 a b c), H, I.kept hk, ?_, q⟩
  unfold min3
  split <;> split <;> exact ⟨_, rfl⟩
end
section
variable {X : Cx} {N : List Str} {sc : Scope} {k : Nat}
theorem sE_trng (g : Gd X N sc k) {a : E} {y : Expr} {x u : Str} {p p2 pos pos2 : Pos} (hx : blB sc x "tuple" = true) (hu : blB sc u "range" = true) (hm : X.mg "tuple" = none) (hm2 : X.mg "range" = none) (ha : SE X y (ev a)) (hs : noStar y = true) :
    SE X (.Call (.Name x p) [.Call (.Name u p2) [y] [] pos2] [] pos) (ev (.trng a)) := by
  obtain ⟨rfl, hg⟩ := bl_ok g.z hx
  obtain ⟨rfl, hg2⟩ := bl_ok g.z hu
  obtain ⟨ta, pa, ha⟩ := ha
  refine ⟨_, pe_tupRg g.calm hg hm (prg_1 hg2 hm2 pa (starE hs)) (starE rfl), fun F H σ env res env' R e Q q => ?_⟩
  simp only [ev, Option.bind_eq_bind, Option.bind_eq_some_iff, Prod.exists] at e
  obtain ⟨ra, env1, e1, e2⟩ := e
  split at e2
  · split at e2
    · rename_i n hn
      cases e2
      refine ha F H σ env _ _ R e1 _ fun v F1 H1 R1 s1 r1 p1 => ?_
      have ok : RgOk 0 n := RgOk.of_le (Int.le_refl 0) (by omega) (by omega) hn.1
      refine ⟨n, (Bw.rp r1).int, ok, fun w hw => ?_⟩
      obtain ⟨a1, a2, a3, a4⟩ := fin1 (r := .val (.tuple (rngL 0 n))) R1 (same_upd (o := .tup (rgV 0 n)) hw) (Rp.tup (.inl (.inl upd_same)) (by rw [rgV_length, sizeLine_eq]; omega) (rgV_rp 0 n))
      exact q _ F1 _ a1 (s1.trans a2) a3 trivial
    · cases e2
  · cases e2
theorem sE_inv {a : E} {y : Expr} {pos : Pos} (ha : SE X y (ev a)) : SE X (.UnaryOp .Invert y pos) (ev (.inv a)) := by
  obtain ⟨ta, pa, ha⟩ := ha
  refine ⟨_, pe_un un_inv pa, fun F H σ env res env' R e Q q => ?_⟩
  simp only [ev, Option.bind_eq_bind, Option.bind_eq_some_iff, Prod.exists] at e
  obtain ⟨ra, env1, e1, e2⟩ := e
  split at e2
  · rename_i i
    cases e2
    refine ha F H σ env _ _ R e1 _ fun v F1 H1 R1 s1 r1 p1 => ?_
    exact ⟨i, (Bw.rp r1).int, q _ F1 H1 R1 s1 (Rp.int _) trivial⟩
  · cases e2
theorem sE_mn3 (g : Gd X N sc k) {a b c : E} {y z w : Expr} {x : Str} {p pos : Pos} (hx : blB sc x "min" = true) (hm : X.mg "min" = none) (ha : SE X y (ev a)) (hb : SE X z (ev b)) (hc : SE X w (ev c)) (h1 : noStar y = true) (h2 : noStar z = true) (h3 : noStar w = true) :
    SE X (.Call (.Name x p) [y, z, w] [] pos) (ev (.mn3 a b c)) := by
  obtain ⟨rfl, hg⟩ := bl_ok g.z hx
  obtain ⟨ta, pa, ha⟩ := ha
  obtain ⟨tb, pb, hb⟩ := hb
  obtain ⟨tc, pc, hc⟩ := hc
  refine ⟨_, pe_callB (cr_min3 g.calm) hg hm (by decide +kernel) (pa_cons pa (pa_cons pb (pa_cons pc pa_nil (starE h3)) (starE h2)) (starE h1)) (by decide) (by decide) (starE h1) (starAny (by simp [h2, h3])), fun F H σ env res env' R e Q q => ?_⟩
  simp only [ev, Option.bind_eq_bind, Option.bind_eq_some_iff, Prod.exists] at e
  obtain ⟨ra, env1, e1, rb, env2, e2, rc, env3, e3, da, e4, db, e5, dc, e6, r', e7, e8⟩ := e
  cases e8
  refine two (l := y) (m := z) ha hb R e1 e2 fun u v F2 H2 R2 s2 r1 r2 _ _ => ?_
  refine hc F2 H2 σ env2 _ _ R2 e3 _ fun o F3 H3 R3 s3 r3 _ => ?_
  cases da <;> cases db <;> cases dc <;> simp only [mn3v, reduceCtorEq, Option.some.injEq] at e7
  subst e7
  exact ⟨_, _, _, by rw [(RR.bw R3 (RR.mono R2 s3 r1) e4).int, (RR.bw R3 (RR.mono R2 s3 r2) e5).int, (RR.bw R3 r3 e6).int], q _ F3 H3 R3 (s2.trans s3) (Rp.int _) trivial⟩
def rMinD (K : PySem.W.Frag) : List V → List V → Hp → VK → Prop := fun vs zs H Q => ∃ (a : Addr) (c : Int) (ns : List Int), vs = [V.ref a] ∧ zs = [V.int c] ∧ SqL K H a (ns.map V.int) ∧ Q (.int (if ns = [] then c else lMin ns)) H
theorem cr_minD (hc : X.calm = true) (hu : X.A.units + 64 < cLine) : CallRK X (.builtin "min") [Str.ofString "default"] (rMinD X.K) := by
  intro pins s σ H vs zs us ws Q I r rz h
  obtain ⟨a, c, ns, rfl, rfl, hs, q⟩ := h
  obtain rfl := Vals.ref1 r
  obtain ⟨w1, rfl, t, rfl⟩ := vals1 rz
  obtain ⟨its, rv, hl, hz⟩ := I.list hs
  refine PySem.W.min_list_default (d := .int c t) (xs := ns.map .int) (I.ok.hd hc) hl.isList (by have := reads_ints (h := s.heap) rv.ints; simpa using this) (alikeAll_ints ns) (by rw [depthAll_ints]; omega) (fun e h' tk hk => ?_) (fun y ys i v h' tk bs e _ hr hk => ?_)
  · have e := List.map_eq_nil_iff.mp e
    subst e
    exact ⟨.int c, H, I.kept hk, ⟨t, rfl⟩, by simpa using q⟩
  · cases ns with
    | nil => cases e
    | cons n ns =>
      rw [List.map_cons] at e
      cases e
      rw [PySem.W.minD_ints] at hr
      rw [if_neg (by simp)] at q
      cases hr with
      | int _ t => exact ⟨.int _, H, I.kept hk, ⟨t, rfl⟩, q⟩
theorem sE_mnd (g : Gd X N sc k) {a : E} {c : Int} {y z : Expr} {x : Str} {p kp pos : Pos} (hx : blB sc x "min" = true) (hm : X.mg "min" = none) (ha : SE X y (ev a)) (hb : SE X z (ev (.cst (.int c)))) (h1 : noStar y = true) :
    SE X (.Call (.Name x p) [y] [⟨some "default", z, kp⟩] pos) (ev (.mnd a c)) := by
  obtain ⟨rfl, hg⟩ := bl_ok g.z hx
  obtain ⟨ta, pa, ha⟩ := ha
  obtain ⟨tb, pb, hb⟩ := hb
  have hB : ∀ env : Nv, ev (.cst (.int c)) env = some (.val (.int c), env) := fun env => by simp [ev]
  have hu : X.A.units + 64 < cLine := by have := g.room.un; omega
  refine ⟨_, pe_callBK (cr_minD g.calm hu) hg hm (by decide +kernel) (pa_cons pa pa_nil (starE h1)) (pk_cons pb pk_nil) (by decide) (by decide) (by rw [starE h1]; rfl) (by rw [starE h1]; rfl), fun F H σ env res env' R e Q q => ?_⟩
  simp only [ev, Option.bind_eq_bind, Option.bind_eq_some_iff, Prod.exists] at e
  obtain ⟨ra, env1, e1, da, e2, r', e3, e4⟩ := e
  cases e4
  refine ha F H σ env _ _ R e1 _ fun v F1 H1 R1 s1 r1 p1 => ?_
  refine hb F1 H1 σ env' _ _ R1 (hB _) _ fun u F2 H2 R2 s2 r2 p2 => ?_
  cases da <;> simp only [mndv, reduceCtorEq, Option.bind_eq_some_iff, Option.some.injEq] at e3
  obtain ⟨ns, e5, rfl⟩ := e3
  obtain ⟨b, xs, rfl, h, z, r⟩ := (RR.bw R2 (RR.mono R1 s2 r1) e2).list
  obtain ⟨e6, _⟩ := r.ints_ e5
  rw [e6] at h
  exact ⟨b, c, ns, rfl, by rw [(Bw.rp r2).int], h, q _ F2 H2 R2 (s1.trans s2) (Rp.int _) trivial⟩
theorem erase_map {α β : Type} (f : α → β) : ∀ (l : List α) (j : Nat), (l.map f).eraseIdx j = (l.eraseIdx j).map f
  | [], _ => rfl
  | _ :: _, 0 => rfl
  | a :: l, j + 1 => by rw [List.map_cons, List.eraseIdx_cons_succ, List.eraseIdx_cons_succ, List.map_cons, erase_map f l j]
theorem ab_ok {y : Expr} {n : Str} {env : Env} (h : rcvB y = true) : attributeBase y n env (eval y env) = eval y env := by
  cases y <;> first | rfl | cases h
theorem idx_run {ns : List Int} {k : Int} {j : Nat} {b : Addr} {K : PySem.W.Frag} {H : Hp} {Q : VK} (hs : SqL K H b (ns.map V.int)) (e : idxI k ns = some j) (q : Q (.int (j : Nat)) H) : rIndex K (.ref b) [.int k] H Q := by
  obtain ⟨h1, h2⟩ := idxI_ok e
  refine ⟨b, ns.map V.int, .int k, j, .int k, rfl, rfl, hs, rfl, ?_, ?_, ?_, ?_, q⟩
  · rw [List.all_map]; exact List.all_eq_true.mpr fun _ _ => rfl
  · rw [List.getElem?_map, h1]; rfl
  · exact decide_eq_true rfl
  · intro m z hm hz
    rw [List.getElem?_map, Option.map_eq_some_iff] at hz
    obtain ⟨i, hi, rfl⟩ := hz
    exact decide_eq_false fun e => h2 m hm (by rw [hi, e])
theorem sE_idx {a b : E} {y z : Expr} {ap pos : Pos} (hy : rcvB y = true) (ha : SE X y (ev a)) (hb : SE X z (ev b)) (hs : noStar z = true) (hl : (ap.endLine == pos.line) = true) : SE X (.Call (.Attribute y "index" ap) [z] [] pos) (ev (.idx a b)) := by
  obtain ⟨ta, pa, ha⟩ := ha
  obtain ⟨tb, pb, hb⟩ := hb
  refine ⟨_, pe_bm PySem.F.plainAttrs_list PySem.F.slot_list_index PySem.F.type_list_index mt_index pa (pa_cons pb pa_nil (starE hs)) (ab_ok hy) (by rw [starE hs]; rfl) hl (starE hs), fun F H σ env res env' R e Q q => ?_⟩
  simp only [ev, Option.bind_eq_bind, Option.bind_eq_some_iff, Prod.exists] at e
  obtain ⟨ra, env1, e1, d0, e0, e⟩ := e
  split at e
  · rename_i l0
    simp only [Option.bind_eq_bind, Option.bind_eq_some_iff, Prod.exists] at e
    obtain ⟨re, env2, e2, da, e3, de, e4, r', e5, e6⟩ := e
    cases e6
    refine ha F H σ env _ _ R e1 _ fun v F1 H1 R1 s1 r1 p1 => ?_
    obtain ⟨b0, xs0, rfl, h0, _, _⟩ := (RR.bw R1 r1 e0).list
    refine ⟨.inl ⟨rfl, _, h0⟩, ?_⟩
    refine hb F1 H1 σ env1 _ _ R1 e2 _ fun u F2 H2 R2 s2 r2 p2 => ?_
    have r3 := RR.bw R2 (RR.mono R1 s2 r1) e3
    have r4 := RR.bw R2 r2 e4
    cases da <;> cases de <;> simp only [idxv, reduceCtorEq, Option.bind_eq_some_iff, Option.map_eq_some_iff] at e5
    obtain ⟨ns, n1, j, n2, rfl⟩ := e5
    obtain ⟨b, xs, eb, h, z, r⟩ := r3.list
    cases eb
    obtain ⟨e6, _⟩ := r.ints_ n1
    rw [e6] at h
    rw [r4.int]
    exact idx_run h n2 (q _ F2 H2 R2 (s1.trans s2) (Rp.int _) trivial)
  · cases e
theorem sE_ext (g : Gd X N sc k) {i : Nat} {a : E} {x : Str} {y : Expr} {p pos : Pos} {ap : Pos} (hn : nmB N sc i x = true) (ha : SE X y (ev a)) (hs : noStar y = true) (hl : (ap.endLine == pos.line) = true) :
    SE X (.Call (.Attribute (.Name x p) "extend" ap) [y] [] pos) (ev (.ext i a)) := by
  obtain ⟨ta, pa, ha⟩ := ha
  refine ⟨_, pe_bm PySem.F.plainAttrs_list PySem.F.slot_list_extend PySem.F.type_list_extend mt_extend (nm_ok g.z hn) (pa_cons pa pa_nil (starE hs)) rfl (by rw [starE hs]; rfl) hl (starE hs), fun F H σ env res env' R e Q q => ?_⟩
  simp only [ev] at e
  split at e
  · rename_i ho
    simp only [Option.bind_eq_bind, Option.bind_eq_some_iff, Prod.exists] at e
    obtain ⟨ra, env1, e1, e3⟩ := e
    obtain ⟨l0, h0⟩ := isOwn_ok ho
    obtain ⟨b, xs0, b1, b2, _⟩ := R.own h0
    refine ⟨_, b1, .inl ⟨rfl, xs0, .of b2⟩, ?_⟩
    refine ha F H σ env _ _ R e1 _ fun v F1 H1 R1 s1 r1 p1 => ?_
    split at e3
    · rename_i m
      split at e3
      · rename_i l h1
        split at e3
        · rename_i hb
          cases e3
          obtain ⟨c, xs, c1, c2, c3, c4, _⟩ := R1.own h1
          rw [b1] at c1; cases c1
          obtain ⟨d, ys, rfl, d1, d2, d3, _⟩ := r1
          have hz : xs.length + ys.length ≤ sizeLine := by rw [c4.length, d3.length, ← big_eq]; exact hb
          obtain ⟨R3, s3⟩ := own_upd R1 h1 b1 (ys := xs ++ ys) (by rw [List.length_append]; exact hz) (c4.append d3)
          exact ⟨b, d, xs, ys, rfl, rfl, c2, d1, hz, q _ F1 _ R3 (s1.trans s3) Rp.non trivial⟩
        · cases e3
      · cases e3
    · cases e3
  · cases e
theorem sE_rvI (g : Gd X N sc k) {i : Nat} {x : Str} {p pos : Pos} {ap : Pos} (hn : nmB N sc i x = true) (hl : (ap.endLine == pos.line) = true) :
    SE X (.Call (.Attribute (.Name x p) "reverse" ap) [] [] pos) (ev (.rvI i)) := by
  refine ⟨_, pe_bm0 PySem.F.plainAttrs_list PySem.F.slot_list_reverse PySem.F.type_list_reverse mt_reverse (nm_ok g.z hn) rfl hl, fun F H σ env res env' R e Q q => ?_⟩
  simp only [ev] at e
  split at e
  · rename_i l h0
    cases e
    obtain ⟨b, xs, b1, b2, b3, b4, _⟩ := R.own h0
    refine ⟨_, b1, .inl ⟨rfl, xs, .of b2⟩, ?_⟩
    obtain ⟨R3, s3⟩ := own_upd R h0 b1 (ys := xs.reverse) (by rw [List.length_reverse]; exact b3) b4.rev
    exact ⟨b, xs, rfl, rfl, b2, q _ F _ R3 s3 Rp.non trivial⟩
  · cases e
theorem sE_rmv (g : Gd X N sc k) {i : Nat} {a : E} {x : Str} {y : Expr} {p pos : Pos} {ap : Pos} (hn : nmB N sc i x = true) (ha : SE X y (ev a)) (hs : noStar y = true) (hl : (ap.endLine == pos.line) = true) :
    SE X (.Call (.Attribute (.Name x p) "remove" ap) [y] [] pos) (ev (.rmv i a)) := by
  obtain ⟨ta, pa, ha⟩ := ha
  refine ⟨_, pe_bm PySem.F.plainAttrs_list PySem.F.slot_list_remove PySem.F.type_list_remove mt_remove (nm_ok g.z hn) (pa_cons pa pa_nil (starE hs)) rfl (by rw [starE hs]; rfl) hl (starE hs), fun F H σ env res env' R e Q q => ?_⟩
  simp only [ev] at e
  split at e
  · rename_i ho
    simp only [Option.bind_eq_bind, Option.bind_eq_some_iff, Prod.exists] at e
    obtain ⟨ra, env1, e1, e3⟩ := e
    obtain ⟨l0, h0⟩ := isOwn_ok ho
    obtain ⟨b, xs0, b1, b2, _⟩ := R.own h0
    refine ⟨_, b1, .inl ⟨rfl, xs0, .of b2⟩, ?_⟩
    refine ha F H σ env _ _ R e1 _ fun v F1 H1 R1 s1 r1 p1 => ?_
    split at e3
    · rename_i c
      split at e3
      · rename_i l h1
        split at e3
        · rename_i ns hns
          split at e3
          · rename_i j hj
            cases e3
            obtain ⟨c0, xs, c1, c2, c3, c4, _⟩ := R1.own h1
            rw [b1] at c1; cases c1
            obtain ⟨ex, el⟩ := c4.ints_ hns
            obtain ⟨k1, k2⟩ := idxI_ok hj
            obtain ⟨R3, s3⟩ := own_upd R1 h1 b1 (ys := xs.eraseIdx j) (by have := List.length_eraseIdx_le xs j; omega) (c4.eraseIdx j)
            rw [ex, erase_map] at R3 s3
            exact ⟨b, ns, c, j, rfl, by rw [(Bw.rp r1).int], by rw [← ex]; exact c2, k1, k2, q _ F1 _ R3 (s1.trans s3) Rp.non trivial⟩
          · cases e3
        · cases e3
      · cases e3
    · cases e3
  · cases e
end
/-! list.count(True), list.index(True) of truths -/
theorem bools_vals {K : PySem.W.Frag} {F : Addr → Prop} {H : Hp} : ∀ {l : List D} {bs : List Bool} {xs : List V}, RpL K F H xs l → boolsE l = some bs → xs = bs.map V.bl
  | [], bs, xs, r, e => by
    cases r
    cases e
    rfl
  | d :: l, bs, xs, r, e => by
    cases r with
    | cons r1 r2 =>
      cases d <;> simp only [boolsE, reduceCtorEq, Option.map_eq_some_iff] at e
      obtain ⟨cs, e1, rfl⟩ := e
      cases r1
      rw [bools_vals r2 e1]
      rfl
theorem fstT_ok : ∀ {bs : List Bool} {j : Nat}, fstT bs = some j → bs[j]? = some true ∧ ∀ m, m < j → bs[m]? = some false
  | [], _, e => by cases e
  | true :: l, j, e => by
    cases e
    exact ⟨rfl, fun m hm => absurd hm (Nat.not_lt_zero m)⟩
  | false :: l, j, e => by
    rw [fstT, Option.map_eq_some_iff] at e
    obtain ⟨i, e1, rfl⟩ := e
    obtain ⟨h1, h2⟩ := fstT_ok e1
    refine ⟨by rw [List.getElem?_cons_succ]; exact h1, fun m hm => ?_⟩
    cases m with
    | zero => rfl
    | succ m => rw [List.getElem?_cons_succ]; exact h2 m (by omega)
theorem cnt_eqU : ∀ {bs : List Bool} {us : List Value}, Vals (bs.map V.bl) us → us.countP (eqU (.bl true)) = bs.count true
  | [], us, r => by cases r; rfl
  | b :: bs, us, r => by
    cases r with
    | cons r1 r2 =>
      rename_i u us
      have ih := cnt_eqU r2
      rw [List.countP_cons, List.count_cons, ih]
      have e : eqU (.bl true) u = (b == true) := eqU_of r1 rfl
      rw [e]
section
variable {X : Cx}
def rCntB (K : PySem.W.Frag) : V → List V → Hp → VK → Prop := fun x xs H Q => ∃ (p : Addr) (bs : List Bool), x = .ref p ∧ xs = [.bl true] ∧ SqL K H p (bs.map V.bl) ∧ Q (.int (bs.count true : Nat)) H
theorem mt_countB : MtR X "list.count" (rCntB X.K) := by
  intro pins s σ H x xs v us Q I rx rxs h
  obtain ⟨p, bs, rfl, rfl, hs, q⟩ := h
  cases rx
  obtain ⟨u, rfl, ru⟩ := rxs.one
  obtain ⟨its, rv, ⟨⟨cls, dd, data, sl⟩, n, ho, hc, hdn, hd⟩, hlen⟩ := I.list hs
  simp only at hc hd
  subst hc hd
  have fl : (bs.map V.bl).all flatV = true := by rw [List.all_map]; exact List.all_eq_true.mpr fun _ _ => rfl
  refine call_meets PySem.F.slot_list_count ⟨_, ho, rfl⟩ PySem.F.entry_list_count (PySem.F.args_list_count_2 _ _)
    (SeqAt.list_countAt p its.toArray n dd sl u (eqU (.bl true))) ⟨ho, fun y hy => mem_eqAt ru rfl rv fl y (by simpa using hy), ?_⟩
  have ec : its.toArray.toList.countP (eqU (.bl true)) = bs.count true := cnt_eqU rv
  refine ⟨.int (bs.count true : Nat), H, I.tok _, ⟨s.toks, ?_⟩, q⟩
  show Value.int ((its.toArray.toList.countP (eqU (.bl true)) : Nat) : Int) s.toks = Value.int ((bs.count true : Nat) : Int) s.toks
  rw [ec]
end
section
variable {X : Cx}
theorem fst_run {bs : List Bool} {j : Nat} {b : Addr} {K : PySem.W.Frag} {H : Hp} {Q : VK} (hs : SqL K H b (bs.map V.bl)) (e : fstT bs = some j) (q : Q (.int (j : Nat)) H) : rIndex K (.ref b) [.bl true] H Q := by
  obtain ⟨h1, h2⟩ := fstT_ok e
  refine ⟨b, bs.map V.bl, .bl true, j, .bl true, rfl, rfl, hs, rfl, ?_, ?_, ?_, ?_, q⟩
  · rw [List.all_map]; exact List.all_eq_true.mpr fun _ _ => rfl
  · rw [List.getElem?_map, h1]; rfl
  · rfl
  · intro m z hm hz
    rw [List.getElem?_map, h2 m hm] at hz
    cases hz
    rfl
theorem sE_mt {c : Bool} {a : E} {y z : Expr} {ap pos : Pos} (hy : rcvB y = true) (ha : SE X y (ev a)) (hb : SE X z (ev (.cst (.bool true)))) (hs : noStar z = true) (hl : (ap.endLine == pos.line) = true) : SE X (.Call (.Attribute y (Str.ofString (if c = true then "count" else "index")) ap) [z] [] pos) (ev (.mt c a)) := by
  obtain ⟨ta, pa, ha⟩ := ha
  obtain ⟨tb, pb, hb⟩ := hb
  have hB : ∀ env : Nv, ev (.cst (.bool true)) env = some (.val (.bool true), env) := fun env => by simp [ev]
  cases c with
  | true =>
    rw [if_pos rfl]
    refine ⟨_, pe_bm PySem.F.plainAttrs_list PySem.F.slot_list_count PySem.F.type_list_count mt_countB pa (pa_cons pb pa_nil (starE hs)) (ab_ok hy) (by rw [starE hs]; rfl) hl (starE hs), fun F H σ env res env' R e Q q => ?_⟩
    simp only [ev, Option.bind_eq_bind, Option.bind_eq_some_iff, Prod.exists] at e
    obtain ⟨ra, env1, e1, e⟩ := e
    split at e
    · rename_i l0 e0
      simp only [Option.bind_eq_some_iff] at e
      obtain ⟨bs, n1, e⟩ := e
      first | rw [if_pos trivial] at e | rw [if_pos rfl] at e
      cases e
      refine ha F H σ env _ _ R e1 _ fun v F1 H1 R1 s1 r1 p1 => ?_
      obtain ⟨b0, xs0, rfl, h0, _, _⟩ := (RR.bw R1 r1 e0).list
      refine ⟨.inl ⟨rfl, _, h0⟩, ?_⟩
      refine hb F1 H1 σ env' _ _ R1 (hB _) _ fun u F2 H2 R2 s2 r2 p2 => ?_
      obtain ⟨b, xs, eb, h, z, r⟩ := (RR.bw R2 (RR.mono R1 s2 r1) e0).list
      cases eb
      rw [bools_vals r n1] at h
      cases r2
      exact ⟨_, bs, rfl, rfl, h, q _ F2 H2 R2 (s1.trans s2) (Rp.int _) trivial⟩
    · cases e
  | false =>
    rw [if_neg (by decide)]
    refine ⟨_, pe_bm PySem.F.plainAttrs_list PySem.F.slot_list_index PySem.F.type_list_index mt_index pa (pa_cons pb pa_nil (starE hs)) (ab_ok hy) (by rw [starE hs]; rfl) hl (starE hs), fun F H σ env res env' R e Q q => ?_⟩
    simp only [ev, Option.bind_eq_bind, Option.bind_eq_some_iff, Prod.exists] at e
    obtain ⟨ra, env1, e1, e⟩ := e
    split at e
    · rename_i l0 e0
      simp only [Option.bind_eq_some_iff] at e
      obtain ⟨bs, n1, e⟩ := e
      first | rw [if_neg (by decide), Option.bind_eq_some_iff] at e | rw [if_neg (fun z => z), Option.bind_eq_some_iff] at e
      obtain ⟨j, n2, e⟩ := e
      cases e
      refine ha F H σ env _ _ R e1 _ fun v F1 H1 R1 s1 r1 p1 => ?_
      obtain ⟨b0, xs0, rfl, h0, _, _⟩ := (RR.bw R1 r1 e0).list
      refine ⟨.inl ⟨rfl, _, h0⟩, ?_⟩
      refine hb F1 H1 σ env' _ _ R1 (hB _) _ fun u F2 H2 R2 s2 r2 p2 => ?_
      obtain ⟨b, xs, eb, h, z, r⟩ := (RR.bw R2 (RR.mono R1 s2 r1) e0).list
      cases eb
      rw [bools_vals r n1] at h
      cases r2
      exact fst_run h n2 (q _ F2 H2 R2 (s1.trans s2) (Rp.int _) trivial)
    · cases e
end
end Ev

/-! Houses whose worths lie in a tuple that has no dict of its own: made, read, asked for the place of a worth. -/
namespace Ev
open PySem PySem.Spec PyProof.Rows L2
theorem dlvP_eq {d : D} {p : Int × List D} (h : dlvP d = some p) : d = dlD p.1 p.2 := by
  unfold dlvP at h
  split at h
  · cases h; rfl
  · cases h
section
variable {X : Cx}
theorem cr_tupF : CallR X (.type "tuple") (fun xs H Q => ∃ p ys, xs = [.ref p] ∧ SqL X.K H p ys ∧ ∀ (l : Addr) (o : Obj), o.cls = .type "tuple" → o.dict = none → H l = none → Q (.ref l) (upd H l (.frz o (.tup ys)))) := by
  intro pins s σ H xs us Q I r h
  obtain ⟨p, ys, rfl, hq, q⟩ := h
  obtain ⟨u, rfl, rx⟩ := vals1 r
  cases rx
  obtain ⟨its, r', pl, hz⟩ := I.list hq
  have hlen := r'.length
  refine call_tuple_list pl.isList (fun h' kp => ?_) (by simp only [List.size_toArray] <;> omega)
  have I1 : Inv X pins σ H { s with heap := h' } := I.kept (t' := s.toks) kp
  have I2 : Inv X pins σ (upd H h'.objs.size (.frz { cls := .type "tuple", data := .seq its.toArray } (.tup ys))) { s with heap := h'.push { cls := .type "tuple", data := .seq its.toArray } } :=
    I1.laid (t' := s.toks) (fun b o e => Heap.get?_push_of_some _ e) (Nat.le_refl _) (show ObjOk X.prog X.w _ _ _ (.frz _ (.tup ys)) from ⟨Heap.get?_push_size _ rfl, hz, its, r', IsTup.new _ _⟩)
  exact ⟨.ref h'.objs.size, _, I2, rfl, q _ _ rfl rfl (I1.hok.fresh (Nat.le_refl _))⟩
def tyVF (x : V) (H : Hp) : Prop := ∃ (b : Addr) (o : Obj) (xs : List V), x = .ref b ∧ H b = some (.frz o (.tup xs)) ∧ o.cls = .type "tuple" ∧ o.dict = none
def tBMF (r : V → List V → Hp → VK → Prop) (to : TE) (t : TA) : TE := fun σ H Q => to σ H fun x H1 => tyVF x H1 ∧ t σ H1 fun xs H2 => r x xs H2 Q
theorem pe_bmF {o e : Expr} {es : List Expr} {to : TE} {t : TA} {name : Str} {apos cpos : Pos} {id : String} {r : V → List V → Hp → VK → Prop}
    (pa : PlainAttrs "tuple") (slot : PySem.Slot "tuple" name id) (hty : typeOf (.builtin id) = pure (.type "method_descriptor")) (hm : MtR X id r) (ho : PE X o to) (ha : PA X (e :: es) t)
    (hbase : attributeBase o name X.env (eval o X.env) = eval o X.env)
    (hfew : ((backTo cpos (starEach (e :: es) X.env)).all (fun x => !x.1) && (backToKw cpos (keywordEach [] X.env)).all (fun x => x.1.isSome)
      && decide ((e :: es).length + ([] : List Keyword).length + (if ([] : List Keyword).isEmpty then 0 else 1) < 30)) = true)
    (hline : (apos.endLine == cpos.line) = true) (hs : starEach (e :: es) X.env = (false, eval e X.env) :: starEach es X.env) (hplain : (backTo cpos (starEach es X.env)).any (·.1) = false) :
    PE X (.Call (.Attribute o name apos) (e :: es) [] cpos) (tBMF r to t) := by
  refine ⟨fun pins s σ H Q I h => ?_⟩
  refine wpAny_Call_method_late hbase hfew hline rfl (thn (ho.run pins s σ H _ I h) fun v s1 ⟨x, H1, I1, r1, ty, q1⟩ => ?_)
  obtain ⟨b, ob, xs, rfl, hb, hc, hd⟩ := ty
  cases r1
  have hk := (show ObjOk X.prog X.w H1 s1.heap b (.frz ob (.tup xs)) from I1.hok b _ hb).1
  refine ⟨"tuple", id, pa, slot, hty, ⟨ob, hk, hc⟩, fun a e => by cases e; exact ⟨ob, hk, hd⟩, ?_⟩
  have hA := ha.run cpos pins s1 σ H1 _ I1 q1
  rw [hs] at hA ⊢
  refine Calls.callWith_builtin (by show (false || (backTo cpos (starEach es X.env)).any (·.1)) = false; rw [hplain] <;> rfl) (Calls.evalArgs_plain ?_)
  exact thn hA fun us s2 ⟨vs, H2, I2, r2, q2⟩ => hm pins s2 σ H2 (.ref b) vs (.ref b) us Q I2 rfl r2 q2
def rIndexT (K : PySem.W.Frag) : V → List V → Hp → VK → Prop := fun x xs H Q => ∃ (a : Addr) (ys : List V) (y : V) (j : Nat) (z : V), x = V.ref a ∧ xs = [y] ∧ SqT K H a ys ∧ flatV y = true ∧ ys.all flatV = true ∧ ys[j]? = some z ∧ eqV z y = true ∧
  (∀ (m : Nat) (z' : V), m < j → ys[m]? = some z' → eqV z' y = false) ∧ Q (.int (j : Nat)) H
theorem mt_indexT : MtR X "tuple.index" (rIndexT X.K) := by
  intro pins s σ H x xs v us Q I rx rxs h
  obtain ⟨a, ys, y, j, z, rfl, rfl, hs, fy, fys, hz, hzj, hno, q⟩ := h
  cases rx
  cases rxs with
  | cons ry rt =>
    rename_i uy ut
    cases rt
    obtain ⟨its, rv, pl, hlen⟩ := I.tuple hs
    obtain ⟨⟨cls, dd, data, sl⟩, ho, hc, n, hd⟩ := pl
    simp only at hc hd
    subst hc hd
    obtain ⟨u, hu, ru⟩ := rv.get hz
    obtain ⟨hjl, hje⟩ := List.getElem?_eq_some_iff.mp hu
    have hvl := rv.length
    have hj : j < its.toArray.size := by simpa using hjl
    refine call_meets PySem.F.slot_tuple_index ⟨_, ho, rfl⟩ PySem.F.entry_tuple_index (PySem.F.args_tuple_index_2 _ _)
      (TI.tuple_indexAt a its.toArray n dd sl uy (eqU y) j hj ?_ ?_) ⟨ho, fun u' hu' => mem_eqAt ry fy rv fys u' (by simpa using hu'), ?_⟩
    · have e1 : its.toArray[j] = u := by simpa using hje
      rw [e1, eqU_of ru (flat_at fys hz)]
      exact hzj
    · intro m hm hmj
      have hml : m < its.length := by simpa using hm
      have hmy : m < ys.length := by omega
      have hy' : ys[m]? = some ys[m] := List.getElem?_eq_getElem hmy
      obtain ⟨u2, hu2, ru2⟩ := rv.get hy'
      obtain ⟨_, hme⟩ := List.getElem?_eq_some_iff.mp hu2
      have e1 : its.toArray[m] = u2 := by simpa using hme
      rw [e1, eqU_of ru2 (flat_at fys hy')]
      exact hno m _ hmj hy'
    · exact ⟨.int (j : Nat), H, I.tok _, ⟨_, rfl⟩, q⟩
end
section
variable {X : Cx} {N : List Str} {sc : Scope} {k : Nat}
theorem keys_rp {K : PySem.W.Frag} {F : Addr → Prop} {H : Hp} : ∀ {xs : List V} {l : List D} {ns : List Int}, RpL K F H xs l → keysD l = some ns → ∃ ps : List Addr, xs = ps.map V.ref ∧ Paired (fun p (kv : Key × V) => SqT K H p [kV kv.1, kv.2]) ps (ns.map fun n => ((.inl n : Key), V.bl true))
  | _, _, ns, .nil, e => by cases e; exact ⟨[], rfl, .nil⟩
  | _, _, ns, .cons (v := v) (vs := vs) (d := d) (ds := ds) h r, e => by
    unfold keysD at e
    split at e
    · rename_i heq; cases heq
    · rename_i i r' heq
      injection heq with h1 h2
      subst h1 h2
      rw [Option.map_eq_some_iff] at e
      obtain ⟨ms, e, rfl⟩ := e
      obtain ⟨ps, rfl, hp⟩ := keys_rp r e
      cases h with
      | tup hq z rr =>
        cases rr with
        | cons h1 rr => cases rr with
          | cons h2 rr => cases rr with
            | nil =>
              cases h1
              cases h2
              exact ⟨_ :: ps, rfl, .cons hq hp⟩
    · cases e
theorem valV_merge (v : V) (m : Int) : ∀ (ns : List Int) (kvs : List (Key × V)), (valV (mergeK kvs (ns.map fun n => ((.inl n : Key), v))) (.inl m)).isSome = ((valV kvs (.inl m)).isSome || decide (m ∈ ns))
  | [], kvs => by simp [mergeK]
  | n :: ns, kvs => by
    have ih := valV_merge v m ns (putK kvs (.inl n) v)
    rw [List.map_cons]
    show (valV (mergeK (putK kvs (.inl n) v) _) _).isSome = _
    rw [ih, valV_put]
    by_cases h : m = n
    · subst h; simp
    · have : ¬ ((.inl m : Key) = .inl n) := fun z => h (Sum.inl.inj z)
      simp [h, this]
theorem sE_dctP (g : Gd X N sc k) {a : E} {y : Expr} {x : Str} {p pos : Pos} (hx : blB sc x "dict" = true) (hm : X.mg "dict" = none) (ha : SE X y (ev a)) (hs : noStar y = true) :
    SE X (.Call (.Name x p) [y] [] pos) (ev (.dctP a)) := by
  obtain ⟨rfl, hg⟩ := bl_ok g.z hx
  obtain ⟨ta, pa, ha⟩ := ha
  refine ⟨_, pe_callTy (p := p) (pos := pos) (call_dictP g.calm) hg hm (by decide +kernel) (pa_cons pa pa_nil (starE hs)) (by decide) (by decide) (starE hs), fun F H σ env res env' R e Q q => ?_⟩
  simp only [ev, Option.bind_eq_bind, Option.bind_eq_some_iff, Prod.exists] at e
  obtain ⟨ra, env1, e1, da, e2, e3⟩ := e
  split at e3
  · simp only [Option.bind_eq_some_iff] at e3
    obtain ⟨ns, e4, e5⟩ := e3
    split at e5
    · cases e5
    · rename_i hne
      cases e5
      refine ha F H σ env _ _ R e1 _ fun v F1 H1 R1 s1 r1 p1 => ?_
      obtain ⟨b0, xs, rfl, h0, z0, r0⟩ := (RR.bw R1 r1 e2).list
      obtain ⟨ps, rfl, hp⟩ := keys_rp r0 e4
      refine ⟨b0, ps, _, rfl, h0, hp, fun w hw => ?_⟩
      obtain ⟨a1, a2, a3, a4⟩ := fin1 (r := .val (kdV ns)) R1 (same_upd hw) (Rp.kd (kvs := mergeK [] (ns.map fun n => ((.inl n : Key), V.bl true))) upd_same hne fun n => by
        rw [valV_merge]; simp [valV])
      exact q _ F1 _ a1 (s1.trans a2) a3 trivial
  · cases e3
theorem sE_dlh (g : Gd X N sc k) {a b : E} {y z : Expr} {x : Str} {p pos pos2 : Pos} {n : Nat} (hx : blB sc x "tuple" = true) (hm : X.mg "tuple" = none) (ha : SE X y (ev a)) (hb : SE X z (ev b)) (h1 : noStar y = true) (h2 : noStar z = true) :
    SE X (.Tuple [y, .Call (.Name x p) [z] [] pos2] n pos) (ev (.dlh a b)) := by
  obtain ⟨rfl, hg⟩ := bl_ok g.z hx
  obtain ⟨ta, pa, ha⟩ := ha
  obtain ⟨tb, pb, hb⟩ := hb
  have pt := pe_callTy (p := p) (pos := pos2) cr_tupF hg hm (by decide +kernel) (pa_cons pb pa_nil (starE h2)) (by decide) (by decide) (starE h2)
  refine ⟨_, pe_tup (pa_cons pa (pa_cons pt pa_nil (starE rfl)) (starE h1)), fun F H σ env res env' R e Q q => ?_⟩
  simp only [ev, Option.bind_eq_bind, Option.bind_eq_some_iff, Prod.exists] at e
  obtain ⟨ra, env1, e1, e2⟩ := e
  split at e2
  · rename_i i
    simp only [Option.bind_eq_bind, Option.bind_eq_some_iff, Prod.exists] at e2
    obtain ⟨rb, env2, e3, e4⟩ := e2
    split at e4
    · rename_i l hl
      cases e4
      refine ha F H σ env _ _ R e1 _ fun v F1 H1 R1 s1 r1 p1 => ?_
      have ev1 : v = .int i := (Bw.rp r1).int
      subst ev1
      refine hb F1 H1 σ env1 _ _ R1 e3 _ fun u F2 H2 R2 s2 r2 p2 => ?_
      obtain ⟨b0, xs, rfl, h0, z0, r0⟩ := (RR.bw R2 r2 hl).list
      refine ⟨b0, xs, rfl, h0, fun c o hc hd hn => ⟨by show 2 ≤ sizeLine; decide, fun w hw => ?_⟩⟩
      have cw : c ≠ w := fun e => by subst e; rw [upd_same] at hw; cases hw
      have sm : Same H2 (upd (upd H2 c (.frz o (.tup xs))) w (.tup [.int i, .ref c])) := fun x u q => same_upd hw x u (same_upd hn x u q)
      obtain ⟨a1, a2, a3, a4⟩ := fin1 (r := .val (dlD i l)) (v := .ref w) R2 sm (Rp.dl (.inl (.inl upd_same)) (by rw [upd_ne cw]; exact upd_same) hc hd z0 (RpL.same sm r0))
      exact q _ F2 _ a1 ((s1.trans s2).trans a2) a3 trivial
    · cases e4
  · cases e2
theorem Rp.dlT {K : PySem.W.Frag} {F : Addr → Prop} {H : Hp} {v : V} {i : Int} {ds : List D} (h : Rp K F H v (dlD i ds)) : ∃ (a b : Addr) (o : Obj) (xs : List V), v = .ref a ∧ SqT K H a [.int i, .ref b] ∧ H b = some (.frz o (.tup xs)) ∧ o.cls = .type "tuple" ∧ o.dict = none ∧ xs.length ≤ sizeLine ∧ RpL K F H xs ds := by
  cases h with
  | dct _ _ _ _ hs => cases hs
  | dl h1 h2 c n z r => exact ⟨_, _, _, _, rfl, h1, h2, c, n, z, r⟩
theorem sE_undl {a : E} {y : Expr} (ha : SE X y (ev a)) : SE X y (ev (.undl a)) := by
  obtain ⟨ta, pa, ha⟩ := ha
  refine ⟨ta, pa, fun F H σ env res env' R e Q q => ?_⟩
  simp only [ev, Option.bind_eq_bind, Option.bind_eq_some_iff, Prod.exists] at e
  obtain ⟨ra, env1, e1, e2⟩ := e
  split at e2
  · rename_i d
    simp only [Option.bind_eq_bind, Option.bind_eq_some_iff, Prod.exists] at e2
    obtain ⟨i, ds, e3, e4⟩ := e2
    cases e4
    refine ha F H σ env _ _ R e1 _ fun v F1 H1 R1 s1 r1 p1 => ?_
    have ed := dlvP_eq e3
    subst ed
    obtain ⟨a0, b0, o, xs, rfl, h1, h2, hc, hn, z, r⟩ := Rp.dlT r1
    exact q _ F1 H1 R1 s1 (Rp.tup h1 (by show 2 ≤ sizeLine; decide) (.cons (.int i) (.cons (.tup (.inl (.inr ⟨o, h2⟩)) z r) .nil))) trivial
  · cases e2
theorem sE_dli {a c b : E} {y i z : Expr} {sp ap pos : Pos} (ha : SE X y (ev a)) (hc : SE X i (ev c)) (hb : SE X z (ev b)) (hs : noSlice i = true) (h2 : noStar z = true) (hl : (ap.endLine == pos.line) = true) :
    SE X (.Call (.Attribute (.Subscript y i sp) "index" ap) [z] [] pos) (ev (.dli a c b)) := by
  obtain ⟨ta, pa, ha⟩ := ha
  obtain ⟨tc, pc, hc⟩ := hc
  obtain ⟨tb, pb, hb⟩ := hb
  refine ⟨_, pe_bmF PySem.F.plainAttrs_tuple PySem.F.slot_tuple_index PySem.F.type_tuple_index mt_indexT (pe_ix (pos := sp) ix_tup pa pc (plainIx hs)) (pa_cons pb pa_nil (starE h2)) rfl (by rw [starE h2]; rfl) hl (starE h2) rfl, fun F H σ env res env' R e Q q => ?_⟩
  simp only [ev, Option.bind_eq_bind, Option.bind_eq_some_iff, Prod.exists] at e
  obtain ⟨ra, env1, e1, e2⟩ := e
  split at e2
  · rename_i d
    simp only [Option.bind_eq_bind, Option.bind_eq_some_iff, Prod.exists] at e2
    obtain ⟨i0, ds, e3, rc, env2, e4, e5⟩ := e2
    have ed := dlvP_eq e3
    subst ed
    split at e5
    · rename_i n
      split at e5
      · cases e5
      · rename_i hn
        have hn : n = 1 := Classical.byContradiction hn
        subst hn
        simp only [Option.bind_eq_bind, Option.bind_eq_some_iff, Prod.exists] at e5
        obtain ⟨rb, env3, e6, e7⟩ := e5
        split at e7
        · rename_i k0
          simp only [Option.bind_eq_bind, Option.bind_eq_some_iff] at e7
          obtain ⟨ns, e8, j, e9, e10⟩ := e7
          cases e10
          refine ha F H σ env _ _ R e1 _ fun v F1 H1 R1 s1 r1 p1 => ?_
          refine hc F1 H1 σ env1 _ _ R1 e4 _ fun u F2 H2 R2 s2 r2 p2 => ?_
          have eu : u = .int 1 := (Bw.rp r2).int
          subst eu
          have r1' : Rp X.K F2 H2 v (dlD i0 ds) := RR.mono (r := .val (dlD i0 ds)) R1 s2 r1
          obtain ⟨a0, b0, o, xs, rfl, h1, h2', hcl, hn, z0, r0⟩ := Rp.dlT r1'
          refine ⟨a0, _, 1, .ref b0, rfl, rfl, h1, rfl, ⟨b0, o, xs, rfl, h2', hcl, hn⟩, ?_⟩
          refine hb F2 H2 σ env2 _ _ R2 e6 _ fun t F3 H3 R3 s3 r3 p3 => ?_
          have et : t = .int k0 := (Bw.rp r3).int
          subst et
          have h3 : H3 b0 = some (.frz o (.tup xs)) := s3.k b0 _ h2' (fun q => by
            obtain ⟨ys, q⟩ := R2.ok.ol _ q
            have q : H2 b0 = some (.lst ys) := q
            rw [h2'] at q; cases q) fun _ z => nomatch z
          have r5 : RpL X.K F3 H3 xs ds := RpL.mono (a := wd σ env2 F2 H2) (b := wd σ _ F3 H3) s3 R2.ok r0
          obtain ⟨exs, _⟩ := r5.ints_ e8
          subst exs
          obtain ⟨k1, k2⟩ := idxI_ok e9
          refine ⟨b0, ns.map V.int, .int k0, j, .int k0, rfl, rfl, .inl (.inr ⟨o, h3⟩), rfl, ?_, ?_, ?_, ?_, q _ F3 H3 R3 ((s1.trans s2).trans s3) (Rp.int _) trivial⟩
          · rw [List.all_map]; exact List.all_eq_true.mpr fun _ _ => rfl
          · rw [List.getElem?_map, k1]; rfl
          · exact decide_eq_true rfl
          · intro m z hm hz
            rw [List.getElem?_map, Option.map_eq_some_iff] at hz
            obtain ⟨i, hi, rfl⟩ := hz
            exact decide_eq_false fun e => k2 m hm (by rw [hi, e])
        · cases e7
    · cases e5
  · cases e2
end
end Ev

/-! A verified evaluator over the hand layer, part 9: calls of defs. -/
namespace Ev
open PySem L2

inductive Ar (asg : List Nat) (env : Nv) (k : Nat) : Res → Slot → Prop
  | val (d : D) : Ar asg env k (.val d) (.val d)
  | fr (l : List D) : Ar asg env k (.fr l) (.own l)
  | pv {i : Nat} {d : D} : sAt env i = .val d → Ar asg env k (.pl i) (.val d)
  | pl {i : Nat} {l : List D} : sAt env i = .lent l → Ar asg env k (.pl i) (.lent l)
  | po {i : Nat} {l : List D} : sAt env i = .own l → asg.contains k = false → Ar asg env k (.pl i) (.own l)
  | pa {i : Nat} {l : List D} : sAt env i = .own l → asg.contains k = true → Ar asg env k (.pl i) (.lent l)
theorem argS_ar {asg : List Nat} {env : Nv} : ∀ {rs : List Res} {k : Nat} {as : List Slot}, argS asg k env rs = some as → as.length = rs.length ∧ ∀ (j : Nat) (s : Slot), as[j]? = some s → ∃ r, rs[j]? = some r ∧ Ar asg env (k + j) r s
  | [], k, as, e => by
    simp only [argS, Option.some.injEq] at e
    subst e
    exact ⟨rfl, fun j s h => by simp at h⟩
  | r :: rs, k, as, e => by
    have key : ∀ (s0 : Slot) (bs : List Slot), argS asg (k + 1) env rs = some bs → Ar asg env k r s0 → as = s0 :: bs → as.length = (r :: rs).length ∧ ∀ (j : Nat) (s : Slot), as[j]? = some s → ∃ r', (r :: rs)[j]? = some r' ∧ Ar asg env (k + j) r' s := fun s0 bs e1 e2 e3 => by
      subst e3
      obtain ⟨h1, h2⟩ := argS_ar e1
      refine ⟨by rw [List.length_cons, List.length_cons, h1], fun j s h => ?_⟩
      cases j with
      | zero =>
        simp only [List.getElem?_cons_zero, Option.some.injEq] at h
        subst h
        exact ⟨r, rfl, e2⟩
      | succ j =>
        simp only [List.getElem?_cons_succ] at h
        obtain ⟨r', q1, q2⟩ := h2 j s h
        refine ⟨r', by simpa using q1, ?_⟩
        rw [show k + (j + 1) = k + 1 + j from by omega]
        exact q2
    cases r with
    | val d =>
      simp only [argS, Option.map_eq_some_iff] at e
      obtain ⟨bs, e1, e2⟩ := e
      exact key _ bs e1 (.val d) e2.symm
    | fr l =>
      simp only [argS, Option.map_eq_some_iff] at e
      obtain ⟨bs, e1, e2⟩ := e
      exact key _ bs e1 (.fr l) e2.symm
    | pl i =>
      simp only [argS] at e
      split at e
      · cases e
      · simp only [Option.map_eq_some_iff] at e
        obtain ⟨bs, e1, e2⟩ := e
        exact key _ bs e1 (.pv (by assumption)) e2.symm
      · simp only [Option.map_eq_some_iff] at e
        obtain ⟨bs, e1, e2⟩ := e
        exact key _ bs e1 (.pl (by assumption)) e2.symm
      · simp only [Option.map_eq_some_iff] at e
        obtain ⟨bs, e1, e2⟩ := e
        cases hc : asg.contains k with
        | true =>
          rw [hc, if_pos rfl] at e2
          exact key _ bs e1 (.pa (by assumption) hc) e2.symm
        | false =>
          rw [hc, if_neg Bool.false_ne_true] at e2
          exact key _ bs e1 (.po (by assumption) hc) e2.symm
theorem dup_at : ∀ {rs : List Res} {i p q : Nat}, dupPl rs = false → rs[p]? = some (.pl i) → rs[q]? = some (.pl i) → p = q
  | [], _, _, _, _, h, _ => by simp at h
  | r :: rs, i, p, q, e, h1, h2 => by
    have tail : dupPl rs = false := by
      cases r with
      | val _ => exact e
      | fr _ => exact e
      | pl j =>
        simp only [dupPl, Bool.or_eq_false_iff] at e
        exact e.2
    have hd : ∀ n : Nat, r = .pl i → rs[n]? = some (.pl i) → False := fun n er hn => by
      subst er
      simp only [dupPl, Bool.or_eq_false_iff] at e
      have := List.any_eq_false.mp e.1 _ (List.mem_of_getElem? hn)
      simp at this
    cases p with
    | zero =>
      cases q with
      | zero => rfl
      | succ q =>
        simp only [List.getElem?_cons_zero, Option.some.injEq, List.getElem?_cons_succ] at h1 h2
        exact (hd q h1 h2).elim
    | succ p =>
      cases q with
      | zero =>
        simp only [List.getElem?_cons_zero, Option.some.injEq, List.getElem?_cons_succ] at h1 h2
        exact (hd p h2 h1).elim
      | succ q =>
        simp only [List.getElem?_cons_succ] at h1 h2
        rw [dup_at tail h1 h2]
theorem putB_at {asg : List Nat} {env0 : Nv} : ∀ {rs : List Res} {ss : List Slot} {k : Nat} {env : Nv}, ss.length = rs.length → (putB asg env0 k env rs ss).length = env.length ∧ ∀ i t, (putB asg env0 k env rs ss)[i]? = some t →
    (∃ p l, rs[p]? = some (.pl i) ∧ sAt env0 i = .own l ∧ asg.contains (k + p) = false ∧ ss[p]? = some t) ∨
    ((∀ p l, rs[p]? = some (.pl i) → sAt env0 i = .own l → asg.contains (k + p) = true) ∧ env[i]? = some t)
  | [], ss, k, env, hl => by
    have e : putB asg env0 k env [] ss = env := by cases ss <;> rfl
    rw [e]
    exact ⟨rfl, fun i t h => .inr ⟨fun p l q => by simp at q, h⟩⟩
  | r :: rs, [], k, env, hl => by simp at hl
  | r :: rs, s :: ss, k, env, hl => by
    have hl' : ss.length = rs.length := by simpa using hl
    have skip : ∀ env', (∀ i l, r = .pl i → sAt env0 i = .own l → asg.contains k = true) → env' = env → (putB asg env0 (k + 1) env' rs ss).length = env.length ∧ ∀ i t, (putB asg env0 (k + 1) env' rs ss)[i]? = some t →
        (∃ p l, (r :: rs)[p]? = some (.pl i) ∧ sAt env0 i = .own l ∧ asg.contains (k + p) = false ∧ (s :: ss)[p]? = some t) ∨
        ((∀ p l, (r :: rs)[p]? = some (.pl i) → sAt env0 i = .own l → asg.contains (k + p) = true) ∧ env[i]? = some t) := fun env' hr he => by
      subst he
      obtain ⟨h1, h2⟩ := putB_at (asg := asg) (env0 := env0) (k := k + 1) (env := env') hl'
      refine ⟨h1, fun i t h => ?_⟩
      rcases h2 i t h with ⟨p, l, a, b, c, d⟩ | ⟨a, b⟩
      · exact .inl ⟨p + 1, l, by simpa using a, b, by rw [show k + (p + 1) = k + 1 + p from by omega]; exact c, by simpa using d⟩
      · refine .inr ⟨fun p l q1 q2 => ?_, b⟩
        cases p with
        | zero => exact hr i l (by simpa using q1) q2
        | succ p =>
          rw [show k + (p + 1) = k + 1 + p from by omega]
          exact a p l (by simpa using q1) q2
    cases r with
    | val d => exact skip env (fun _ _ z => nomatch z) rfl
    | fr d => exact skip env (fun _ _ z => nomatch z) rfl
    | pl j =>
      cases hj : sAt env0 j with
      | un =>
        have e : putB asg env0 k env (.pl j :: rs) (s :: ss) = putB asg env0 (k + 1) env rs ss := by simp only [putB, hj]
        rw [e]
        exact skip env (fun i l z w => by cases z; rw [hj] at w; cases w) rfl
      | val d =>
        have e : putB asg env0 k env (.pl j :: rs) (s :: ss) = putB asg env0 (k + 1) env rs ss := by simp only [putB, hj]
        rw [e]
        exact skip env (fun i l z w => by cases z; rw [hj] at w; cases w) rfl
      | lent d =>
        have e : putB asg env0 k env (.pl j :: rs) (s :: ss) = putB asg env0 (k + 1) env rs ss := by simp only [putB, hj]
        rw [e]
        exact skip env (fun i l z w => by cases z; rw [hj] at w; cases w) rfl
      | own l0 =>
        have e : putB asg env0 k env (.pl j :: rs) (s :: ss) = putB asg env0 (k + 1) (if asg.contains k then env else env.set j s) rs ss := by simp only [putB, hj]
        rw [e]
        cases hc : asg.contains k with
        | true =>
          rw [if_pos rfl]
          exact skip env (fun i l z w => hc) rfl
        | false =>
          rw [if_neg Bool.false_ne_true]
          obtain ⟨h1, h2⟩ := putB_at (asg := asg) (env0 := env0) (k := k + 1) (env := env.set j s) hl'
          refine ⟨by rw [h1, List.length_set], fun i t h => ?_⟩
          rcases h2 i t h with ⟨p, l, a, b, c, d⟩ | ⟨a, b⟩
          · exact .inl ⟨p + 1, l, by simpa using a, b, by rw [show k + (p + 1) = k + 1 + p from by omega]; exact c, by simpa using d⟩
          · rcases set_get b with ⟨rfl, rfl⟩ | ⟨hi, b⟩
            · exact .inl ⟨0, l0, rfl, hj, hc, rfl⟩
            · refine .inr ⟨fun p l q1 q2 => ?_, b⟩
              cases p with
              | zero =>
                simp only [List.getElem?_cons_zero, Option.some.injEq, Res.pl.injEq] at q1
                exact absurd q1.symm hi
              | succ p =>
                rw [show k + (p + 1) = k + 1 + p from by omega]
                exact a p l (by simpa using q1) q2

section
variable {K : PySem.W.Frag} {F F' : Addr → Prop} {H H' : Hp} {σ : L2.St} {env env' : Nv} {asg : List Nat} {rs : List Res} {vs : List V} {as bs : List Slot}
theorem map_some {vs : List V} {j : Nat} {ov : Option V} (h : (vs.map some)[j]? = some ov) : ∃ v, vs[j]? = some v ∧ ov = some v := by
  rw [List.getElem?_map] at h
  cases e : vs[j]? with
  | none => rw [e] at h; cases h
  | some v => rw [e] at h; cases h; exact ⟨v, rfl, rfl⟩
theorem map_some' {vs : List V} {j : Nat} {v : V} (h : vs[j]? = some v) : (vs.map some)[j]? = some (some v) := by
  rw [List.getElem?_map, h]; rfl
theorem Paired.at {α β : Type} {G : α → β → Prop} {xs : List α} {ys : List β} (h : Paired G xs ys) {i : Nat} {x : α} (e : xs[i]? = some x) : ∃ y, ys[i]? = some y ∧ G x y := by
  have hl : xs.length = ys.length := Paired.length h
  have hi := (List.getElem?_eq_some_iff.mp e).1
  exact ⟨ys[i], List.getElem?_eq_getElem (by omega), PairedGet h e (List.getElem?_eq_getElem (by omega))⟩
theorem ownA_args (R : ER K F H σ env) (ra : argS asg 0 env rs = some as) (r : RRL K F H σ env rs vs) {x : Addr} (h : OwnA (vs.map some) as x) :
    (∃ (i p : Nat) (l : List D), rs[p]? = some (.pl i) ∧ sAt env i = .own l ∧ asg.contains p = false ∧ σ[i]? = some (some (.ref x)) ∧ vs[p]? = some (.ref x)) ∨ ∃ (p : Nat) (l : List D), rs[p]? = some (.fr l) ∧ vs[p]? = some (.ref x) := by
  obtain ⟨p, l, e1, e2⟩ := h
  obtain ⟨v, e3, e4⟩ := map_some e2
  cases e4
  obtain ⟨res, q1, q2⟩ := (argS_ar ra).2 p _ e1
  obtain ⟨v', q3, q4⟩ := Paired.at r q1
  rw [e3] at q3; cases q3
  rw [Nat.zero_add] at q2
  cases q2 with
  | fr l => exact .inr ⟨p, l, q1, e3⟩
  | po a b => exact .inl ⟨_, p, _, q1, a, b, q4, e3⟩
theorem args_er (R : ER K F H σ env) (ra : argS asg 0 env rs = some as) (r : RRL K F H σ env rs vs) (dp : dupPl rs = false) (ds : Dis rs vs) : ER K F H (vs.map some) as := by
  obtain ⟨hl, har⟩ := argS_ar ra
  have hv : rs.length = vs.length := Paired.length r
  have at_ : ∀ (j : Nat) (s : Slot), as[j]? = some s → ∃ res v, rs[j]? = some res ∧ vs[j]? = some v ∧ RR K F H σ env res v ∧ Ar asg env j res s := fun j s e => by
    obtain ⟨res, q1, q2⟩ := har j s e
    obtain ⟨v, q3, q4⟩ := Paired.at r q1
    rw [Nat.zero_add] at q2
    exact ⟨res, v, q1, q3, q4, q2⟩
  refine ⟨by rw [List.length_map, hl, hv], fun j s e => ?_, fun i j a e1 e2 e3 e4 => ?_, R.tr, R.tb⟩
  · obtain ⟨res, v, q1, q2, q3, q4⟩ := at_ j s e
    refine ⟨some v, map_some' q2, ?_⟩
    cases q4 with
    | val d => exact .val q3
    | fr l =>
      obtain ⟨a, xs, rfl, h1, z, r1, n1, _⟩ := q3
      exact .own h1 z r1 n1
    | pv h =>
      obtain ⟨v', w1, w2⟩ := R.val h
      have q3 : σ[_]? = some (some v) := q3
      rw [q3] at w1; cases w1
      exact .val w2
    | pl h =>
      obtain ⟨a, xs, w1, h1, z, r1, n1, _⟩ := R.lent h
      have q3 : σ[_]? = some (some v) := q3
      rw [q3] at w1; cases w1
      exact .lent h1 z r1 n1
    | po h c =>
      obtain ⟨a, xs, w1, h1, z, r1, n1, _⟩ := R.own h
      have q3 : σ[_]? = some (some v) := q3
      rw [q3] at w1; cases w1
      exact .own h1 z r1 n1
    | pa h c =>
      obtain ⟨a, xs, w1, h1, z, r1, n1, _⟩ := R.own h
      have q3 : σ[_]? = some (some v) := q3
      rw [q3] at w1; cases w1
      exact .lent h1 z r1 n1
  · -- a result, and where its list lies
    have other : ∀ {j : Nat}, (∃ l, as[j]? = some (Slot.own l) ∨ as[j]? = some (Slot.lent l)) → (vs.map some)[j]? = some (some (V.ref a)) → ∃ res', rs[j]? = some res' ∧ vs[j]? = some (V.ref a) ∧ RR K F H σ env res' (.ref a) ∧ ((∃ m, res' = .fr m) ∨ ∃ i', res' = .pl i' ∧ ∃ m, env[i']? = some (Slot.own m) ∨ env[i']? = some (Slot.lent m)) := fun {j} ⟨l', e4⟩ e3 => by
      obtain ⟨v2, w3, w4⟩ := map_some e3
      cases w4
      rcases e4 with e4 | e4
      · obtain ⟨res', v', p1, p2, p3, p4⟩ := at_ j _ e4
        rw [w3] at p2; cases p2
        cases p4 with
        | fr l => exact ⟨_, p1, w3, p3, .inl ⟨_, rfl⟩⟩
        | po h c => exact ⟨_, p1, w3, p3, .inr ⟨_, rfl, _, .inl (sAt_get h (fun z => nomatch z))⟩⟩
      · obtain ⟨res', v', p1, p2, p3, p4⟩ := at_ j _ e4
        rw [w3] at p2; cases p2
        cases p4 with
        | pl h => exact ⟨_, p1, w3, p3, .inr ⟨_, rfl, _, .inr (sAt_get h (fun z => nomatch z))⟩⟩
        | pa h c => exact ⟨_, p1, w3, p3, .inr ⟨_, rfl, _, .inl (sAt_get h (fun z => nomatch z))⟩⟩
    have inOL : ∀ (i' : Nat), (∃ m, env[i']? = some (Slot.own m) ∨ env[i']? = some (Slot.lent m)) → σ[i']? = some (some (V.ref a)) → OwnA σ env a ∨ LenA σ env a := fun i' ⟨m, h⟩ e => by
      rcases h with h | h
      · exact .inl ⟨i', m, h, e⟩
      · exact .inr ⟨i', m, h, e⟩
    obtain ⟨r1, q1, w1, q3, k1⟩ := other e1 e2
    obtain ⟨r2, p1, w2, p3, k2⟩ := other e4 e3
    rcases k1 with ⟨m, rfl⟩ | ⟨i0, rfl, h⟩
    · rcases k2 with ⟨m', rfl⟩ | ⟨i', rfl, h'⟩
      · exact ds i j _ _ a q1 p1 w1 w2
      · obtain ⟨b, xs, eb, h1, z, r1, n1, n2, n3⟩ := q3
        cases eb
        rcases inOL i' h' p3 with w | w
        · exact absurd w n2
        · exact absurd w n3
    · rcases k2 with ⟨m', rfl⟩ | ⟨i', rfl, h'⟩
      · obtain ⟨b, xs, eb, h1, z, r1, n1, n2, n3⟩ := p3
        cases eb
        rcases inOL i0 h q3 with w | w
        · exact absurd w n2
        · exact absurd w n3
      · have ei : i0 = i' := R.inj i0 i' a h q3 p3 h'
        subst ei
        exact dup_at dp q1 p1
theorem call_back {w0 : Wd} {res : Res} {v : V} (R : ER K F H σ env) (s0 : Stp w0 (wd σ env F H)) (ra : argS asg 0 env rs = some as) (r : RRL K F H σ env rs vs) (pr : ProvL w0 rs vs) (dp : dupPl rs = false) (hb : bs.length = as.length)
    (Rb : ER K F' H' (vs.map some) bs) (sb : Stp (wd (vs.map some) as F H) (wd (vs.map some) bs F' H')) (rb : RR K F' H' (vs.map some) bs res v) (pb : Prov (wd (vs.map some) as F H) res v) (np : ∀ i, res ≠ .pl i) (ds : Dis rs vs) :
    ER K F' H' σ (putB asg env 0 env rs bs) ∧ Stp w0 (wd σ (putB asg env 0 env rs bs) F' H') ∧ RR K F' H' σ (putB asg env 0 env rs bs) res v ∧ Prov w0 res v := by
  have Ra := args_er R ra r dp ds
  have oka := Ra.ok
  obtain ⟨hl, har⟩ := argS_ar ra
  obtain ⟨pl, pat⟩ := putB_at (asg := asg) (env0 := env) (rs := rs) (ss := bs) (k := 0) (env := env) (by rw [hb, hl])
  generalize putB asg env 0 env rs bs = env2 at pl pat ⊢
  -- the callee's own lists, seen from the start
  have on0 : ∀ x, OwnA (vs.map some) as x → w0.O x ∨ w0.H x = none := fun x h => by
    rcases ownA_args R ra r h with ⟨i, p, l, q1, q2, q3, q4, q5⟩ | ⟨p, l, q1, q2⟩
    · exact s0.o x ⟨i, l, sAt_get q2 (fun z => nomatch z), q4⟩
    · exact PairedGet pr q1 q2 x rfl
  -- what the caller has kept is none of the callee's own
  have notO : ∀ (i : Nat) (s : Slot) (x : Addr), env[i]? = some s → ((∃ l, s = .own l) ∨ ∃ l, s = .lent l) → σ[i]? = some (some (.ref x)) → (∀ p l, rs[p]? = some (.pl i) → sAt env i = .own l → asg.contains (0 + p) = true) → ¬ OwnA (vs.map some) as x := fun i s x e hs e1 hn h => by
    rcases ownA_args R ra r h with ⟨i', p, l, q1, q2, q3, q4, q5⟩ | ⟨p, l, q1, q2⟩
    · have ei : i' = i := R.inj i' i x ⟨l, .inl (sAt_get q2 (fun z => nomatch z))⟩ q4 e1 (by
        rcases hs with ⟨l', rfl⟩ | ⟨l', rfl⟩
        · exact ⟨l', .inl e⟩
        · exact ⟨l', .inr e⟩)
      subst ei
      have := hn p l q1 q2
      rw [Nat.zero_add, q3] at this
      cases this
    · obtain ⟨b, xs, eb, h1, z, r1, n1, n2, n3⟩ := PairedGet r q1 q2
      cases eb
      rcases hs with ⟨l', rfl⟩ | ⟨l', rfl⟩
      · exact n2 ⟨i, l', e, e1⟩
      · exact n3 ⟨i, l', e, e1⟩
  -- a slot behind the call
  have slot2 : ∀ (i : Nat) (t : Slot), env2[i]? = some t → (∃ (p : Nat) (x : V), rs[p]? = some (.pl i) ∧ vs[p]? = some x ∧ σ[i]? = some (some x) ∧ bs[p]? = some t ∧ ∀ a, x = .ref a → OwnA (vs.map some) as a) ∨
      ((∀ p l, rs[p]? = some (.pl i) → sAt env i = .own l → asg.contains (0 + p) = true) ∧ env[i]? = some t) := fun i t h => by
    rcases pat i t h with ⟨p, l, a, b, c, d⟩ | q
    · obtain ⟨x, q1, q2⟩ := Paired.at r a
      refine .inl ⟨p, x, a, q1, q2, d, fun y ey => ?_⟩
      have hp := (List.getElem?_eq_some_iff.mp a).1
      have ha : as[p]? = some as[p] := List.getElem?_eq_getElem (by omega)
      obtain ⟨res', w1, w2⟩ := har p _ ha
      rw [a] at w1; cases w1
      refine ⟨p, l, ?_, by rw [ey] at q1; exact map_some' q1⟩
      rw [ha]
      generalize as[p] = t0 at w2
      cases w2 with
      | pv h' => rw [b] at h'; cases h'
      | pl h' => rw [b] at h'; cases h'
      | po h' c' => rw [b] at h'; cases h'; rfl
      | pa h' c' => rw [c'] at c; cases c
    · exact .inr q
  have stay : ∀ (i : Nat) (s : Slot) (x : Addr) (xs : List V), env[i]? = some s → ((∃ l, s = .own l) ∨ ∃ l, s = .lent l) → σ[i]? = some (some (.ref x)) → (∀ p l, rs[p]? = some (.pl i) → sAt env i = .own l → asg.contains (0 + p) = true) → H x = some (.lst xs) → ¬ F x → H' x = some (.lst xs) ∧ ¬ F' x :=
    fun i s x xs e hs e1 hn h1 nf => by
      have no := notO i s x e hs e1 hn
      refine ⟨sb.k x _ h1 no nt_lst, fun q => ?_⟩
      rcases sb.g x q with q | q | q
      · exact nf q
      · exact no q
      · have q : H x = none := q
        rw [h1] at q; cases q
  have R2 : ER K F' H' σ env2 := by
    refine ⟨by rw [pl]; exact R.len, fun i t h => ?_, fun i j a e1 e2 e3 e4 => ?_, Rb.tr, Rb.tb⟩
    · rcases slot2 i t h with ⟨p, x, a, q1, q2, q3, _⟩ | ⟨hn, e⟩
      · obtain ⟨ov, w1, w2⟩ := Rb.sl p t q3
        rw [map_some' q1] at w1; cases w1
        exact ⟨_, q2, w2⟩
      · obtain ⟨ov, e1, q⟩ := R.sl i t e
        refine ⟨ov, e1, ?_⟩
        cases q with
        | un => exact .un
        | val rp => exact .val (Rp.mono (a := wd (vs.map some) as F H) (b := wd (vs.map some) bs F' H') sb oka rp)
        | own h1 z r1 n =>
          obtain ⟨q1, q2⟩ := stay i _ _ _ e (.inl ⟨_, rfl⟩) e1 hn h1 n
          exact .own q1 z (RpL.mono (a := wd (vs.map some) as F H) (b := wd (vs.map some) bs F' H') sb oka r1) q2
        | lent h1 z r1 n =>
          obtain ⟨q1, q2⟩ := stay i _ _ _ e (.inr ⟨_, rfl⟩) e1 hn h1 n
          exact .lent q1 z (RpL.mono (a := wd (vs.map some) as F H) (b := wd (vs.map some) bs F' H') sb oka r1) q2
    · have kd : ∀ {j : Nat}, (∃ l, env2[j]? = some (Slot.own l) ∨ env2[j]? = some (Slot.lent l)) → ∃ t, env2[j]? = some t ∧ ((∃ l, t = .own l) ∨ ∃ l, t = .lent l) := fun {j} ⟨l', e4⟩ => by
        rcases e4 with e4 | e4
        · exact ⟨_, e4, .inl ⟨_, rfl⟩⟩
        · exact ⟨_, e4, .inr ⟨_, rfl⟩⟩
      have bk : ∀ {j : Nat} {t : Slot} {en : Nv}, en[j]? = some t → ((∃ l, t = .own l) ∨ ∃ l, t = .lent l) → ∃ l, en[j]? = some (Slot.own l) ∨ en[j]? = some (Slot.lent l) := fun {j t en} e hk => by
        rcases hk with ⟨l', rfl⟩ | ⟨l', rfl⟩
        · exact ⟨l', .inl e⟩
        · exact ⟨l', .inr e⟩
      obtain ⟨t, ht, hk⟩ := kd e4
      obtain ⟨u, hu, hv⟩ := kd e1
      rcases slot2 i _ hu with ⟨p, x, a1, q1, q2, q3, q4⟩ | ⟨hn, e⟩
      · rw [e2] at q2; cases q2
        have oa := q4 a rfl
        rcases slot2 j t ht with ⟨p', x', a1', q1', q2', q3', q4'⟩ | ⟨hn', e'⟩
        · rw [e3] at q2'; cases q2'
          have ep : p = p' := Rb.inj p p' a (bk q3 hv) (map_some' q1) (map_some' q1') (bk q3' hk)
          subst ep
          rw [a1] at a1'; cases a1'
          rfl
        · exact absurd oa (notO j t a e' hk e3 hn')
      · rcases slot2 j t ht with ⟨p', x', a1', q1', q2', q3', q4'⟩ | ⟨hn', e'⟩
        · rw [e3] at q2'; cases q2'
          exact absurd (q4' a rfl) (notO i u a e hv e2 hn)
        · exact R.inj i j a (bk e hv) e2 e3 (bk e' hk)
  have S2 : Stp w0 (wd σ env2 F' H') := by
    refine ⟨fun x o h n nt => ?_, fun x o h => ?_, fun x h => ?_, fun x h => ?_, fun x h => sb.f x (s0.f x h), fun x h => ?_⟩
    · refine sb.k x o (s0.k x o h n nt) (fun q => ?_) nt
      rcases on0 x q with q | q
      · exact n q
      · rw [h] at q; cases q
    · obtain ⟨o', h'⟩ := s0.t x o h
      exact sb.t x o' h'
    · obtain ⟨i, l, e1, e2⟩ := h
      rcases slot2 i _ e1 with ⟨p, y, a1, q1, q2, q3, q4⟩ | ⟨hn, e⟩
      · rw [e2] at q2; cases q2
        exact on0 x (q4 x rfl)
      · exact s0.o x ⟨i, l, e, e2⟩
    · obtain ⟨i, l, e1, e2⟩ := h
      rcases slot2 i _ e1 with ⟨p, y, a1, q1, q2, q3, q4⟩ | ⟨hn, e⟩
      · rw [e2] at q2; cases q2
        exact .inr (on0 x (q4 x rfl))
      · exact s0.l x ⟨i, l, e, e2⟩
    · rcases sb.g x h with q | q | q
      · exact s0.g x q
      · exact .inr (on0 x q)
      · exact .inr (.inr (s0.new q))
  refine ⟨R2, S2, ?_, ?_⟩
  · cases res with
    | val d => exact rb
    | pl i => exact absurd rfl (np i)
    | fr l =>
      obtain ⟨a, xs, rfl, h1, z, r1, n1, n2, n3⟩ := rb
      have pa := pb a rfl
      have kept : ∀ (i : Nat) (t : Slot), env[i]? = some t → ((∃ l, t = .own l) ∨ ∃ l, t = .lent l) → σ[i]? = some (some (.ref a)) → (∀ p l, rs[p]? = some (.pl i) → sAt env i = .own l → asg.contains (0 + p) = true) → False := fun i t e hs e1 hn => by
        rcases pa with w | w
        · exact notO i t a e hs e1 hn w
        · obtain ⟨ov, e2, q⟩ := R.sl i t e
          rw [e1] at e2; cases e2
          have w : H a = none := w
          rcases hs with ⟨l', rfl⟩ | ⟨l', rfl⟩
          · cases q with
            | own h2 _ _ _ => rw [h2] at w; cases w
          · cases q with
            | lent h2 _ _ _ => rw [h2] at w; cases w
      refine ⟨a, xs, rfl, h1, z, r1, n1, fun ⟨i, l', e1, e2⟩ => ?_, fun ⟨i, l', e1, e2⟩ => ?_⟩
      · rcases slot2 i _ e1 with ⟨p, y, a1, q1, q2, q3, q4⟩ | ⟨hn, e⟩
        · rw [e2] at q2; cases q2
          exact n2 ⟨p, l', q3, map_some' q1⟩
        · exact kept i _ e (.inl ⟨_, rfl⟩) e2 hn
      · rcases slot2 i _ e1 with ⟨p, y, a1, q1, q2, q3, q4⟩ | ⟨hn, e⟩
        · rw [e2] at q2; cases q2
          exact n3 ⟨p, l', q3, map_some' q1⟩
        · exact kept i _ e (.inr ⟨_, rfl⟩) e2 hn
  · cases res with
    | val d => trivial
    | pl i => trivial
    | fr l =>
      intro a ea
      rcases pb a ea with q | q
      · exact on0 a q
      · exact .inr (s0.new q)
end

section
variable {X : Cx} {N : List Str} {sc : Scope} {k : Nat}
theorem call_body {f : Fn} {es : EL} {t : TA} (hL : ∀ (F : Addr → Prop) (H : Hp) (σ : L2.St) (env : Nv) (rs : List Res) (env' : Nv), ER X.K F H σ env → evL es env = some (rs, env') →
    ∀ Q : List V → Hp → Prop, (∀ vs F' H', ER X.K F' H' σ env' → Stp (wd σ env F H) (wd σ env' F' H') → RRL X.K F' H' σ env' rs vs → ProvL (wd σ env F H) rs vs → Dis rs vs → Q vs H') → t σ H Q) (hl : es.length = f.ps.length) :
    ∀ (F : Addr → Prop) (H : Hp) (σ : L2.St) (env : Nv) (res : Res) (env' : Nv), ER X.K F H σ env → ev (.call f es) env = some (res, env') → ∀ Q : VK, (∀ v F' H', ER X.K F' H' σ env' → Stp (wd σ env F H) (wd σ env' F' H') → RR X.K F' H' σ env' res v → Prov (wd σ env F H) res v → Q v H') →
      t σ H fun vs H1 => spOf X.K f (vs ++ []) H1 Q E0 := by
  intro F H σ env res env' R e Q q
  simp only [ev, Option.bind_eq_bind, Option.bind_eq_some_iff, Prod.exists] at e
  obtain ⟨rs, env1, e1, e2⟩ := e
  split at e2
  · cases e2
  · rename_i dp
    simp only [Option.bind_eq_some_iff, Prod.exists] at e2
    obtain ⟨as, e3, r, bs, e4, e5⟩ := e2
    have np : ∀ i, r ≠ .pl i := fun i z => by subst z; cases e5
    have e6 : res = r ∧ env' = putB f.asg env1 0 env1 rs bs := by
      cases r with
      | pl i => exact absurd rfl (np i)
      | val d => cases e5; exact ⟨rfl, rfl⟩
      | fr d => cases e5; exact ⟨rfl, rfl⟩
    obtain ⟨rfl, rfl⟩ := e6
    have dp : dupPl rs = false := by simpa using dp
    refine hL F H σ env rs env1 R e1 _ fun vs F1 H1 R1 s1 rr pr ds => ?_
    rw [List.append_nil]
    have Ra := args_er R1 e3 rr dp ds
    have hlen : as.length = f.ps.length := by
      have q1 := Ra.len
      have evl : ∀ (es : EL) (env : Nv) (rs : List Res) (env' : Nv), evL es env = some (rs, env') → rs.length = es.length := by
        intro es
        induction es using EL.rec (motive_1 := fun _ => True) with
        | nil => intro env ds env' e; simp only [evL, Option.some.injEq, Prod.mk.injEq] at e; rw [← e.1]; rfl
        | cons x xs _ ih =>
          intro env ds env' e
          simp only [evL, Option.bind_eq_bind, Option.bind_eq_some_iff, Prod.exists] at e
          obtain ⟨_, _, _, rs2, _, e3, e4⟩ := e
          cases e4
          rw [List.length_cons, ih _ _ _ e3]
          rfl
        | _ => trivial
      have q2 := evl _ _ _ _ e1
      have q3 := (argS_ar e3).1
      rw [q3, q2, hl]
    refine ⟨F1, as, res, bs, hlen, Ra, e4, fun v F' H' Rb sb rb pb => ?_⟩
    have hb : bs.length = as.length := by rw [Rb.len, Ra.len]
    obtain ⟨c1, c2, c3, c4⟩ := call_back R1 s1 e3 rr pr dp hb Rb sb rb pb np ds
    exact q v F' H' c1 c2 c3 c4
theorem sE_call (g : Gd X N sc k) {f : Fn} {es : EL} {xs : List Expr} {x : Str} {p pos : Pos} (hx : blB sc x f.name = true) (hd : (x == ("__debug__" : Str)) = false) (hf : FnG X k f) (ha : SL3 X xs es) (hl : es.length = f.ps.length) (hs : xs.all noStar = true) (hne : xs.isEmpty = false) :
    SE X (.Call (.Name x p) xs [] pos) (ev (.call f es)) := by
  obtain ⟨rfl, hg⟩ := bl_ok g.z hx
  obtain ⟨⟨a, fd, m1, m2, m3, m4⟩, lv⟩ := hf
  obtain ⟨t, pt, _, hL⟩ := ha
  have body := call_body (X := X) hL hl
  cases xs with
  | nil => cases hne
  | cons y ys =>
    rw [List.all_cons, Bool.and_eq_true] at hs
    exact ⟨_, pe_call m4 (g.room.mono lv) hg m1 m2 m3 .nil pass0 pt hd (starE hs.1) (starAny hs.2), body⟩
end
end Ev

/-! A verified evaluator over the hand layer, part 9b: defs and errors as values. -/
namespace Ev
open PySem L2

theorem errOf_eq {d : D} {x : Str} (h : errOf d = some x) : ∃ l, d = .dict ((.none, .str x) :: l) := by
  unfold errOf at h
  split at h
  · cases h; exact ⟨_, rfl⟩
  · cases h
theorem fnOf_eq {d : D} {x : Str} (h : fnOf d = some x) : d = fnD x := by
  unfold fnOf at h
  split at h
  · cases h; rfl
  · cases h
theorem fnAt_ok {K : PySem.W.Frag} {F : Addr → Prop} {H : Hp} {σ : L2.St} {env : Nv} {i : Nat} {x : Str} (R : ER K F H σ env) (h : fnAt env i = some x) : σ[i]? = some (some (.ref (He.ga K x))) := by
  unfold fnAt at h
  split at h
  · rename_i d hd
    have hd' := fnOf_eq h
    subst hd'
    obtain ⟨v, e1, rp⟩ := R.val hd
    cases rp with
    | dct _ _ _ _ hs => cases hs
    | fn => exact e1
  · cases h
section
variable {prog : Program} {w : World} {A : Around} {R : Value → Shared → Prop} {s : Shared} {K : PySem.W.Frag} {x D : Addr} {ox : Obj}
open PySem.Spec PySem.Calls PyProof.Rows PySem.W
theorem fo_data {C : Addr} {od : Option Obj} {n : Str} {a g : Value} (hc : (clsIn K C).isSome = true) (ha : findIn K (.ref C) n = some (some a)) (hg : specialIn K a "__get__" = some (some g)) (ht : takesIn K a = some true) : findObj K C od n = some (.bind g a) := by
  obtain ⟨cd, hc⟩ := Option.isSome_iff_exists.mp hc
  unfold findObj
  rw [hc, Option.bind_some, ha, Option.bind_some]
  simp [hg, ht]
theorem er_class {od : Option Obj} {Q : Option Value → Shared → Prop} (C : ExcC K D) (X : K.In s.heap) (I : InstAt s.heap x ox D od) (h : Q (some (.ref D)) { s with toks := s.toks + 1 }) : wpAny (model prog w) A (getAttr? (.ref x) "__class__") Q R s := by
  have hf : findObj K D od "__class__" = some (.bind (.builtin "getset_descriptor.__get__") (.builtin "object.__class__")) := fo_data (by obtain ⟨cd, hc, _⟩ := any_some C.hd; rw [hc]; rfl) C.ha C.hn C.ht
  obtain ⟨hp, g, d, t, os⟩ := s
  have T := I.type (M := model prog w)
  have own : (Value.builtin "BaseException.__getattribute__" == Value.builtin "object.__getattribute__") = false := by decide +kernel
  have own2 : (onTheHeap (Value.ref D) && Value.builtin "BaseException.__getattribute__" == Value.builtin "object.__getattribute__") = false := by rw [own]; rfl
  have far : (false && onTheHeap (Value.builtin "BaseException.__getattribute__")) = false := rfl
  unfold getAttr? getAttrBy? getAttrBy
  refine wpAny_bind (wpAny_mkText (wpAny_bind (wpAny_attempt (wpAny_holding (wpAny_bind (T.at (wpAny_bind ((looks_findIn X C.hg).at ?_))))))))
  show wpAny _ _ (if (onTheHeap (Value.ref D) && Value.builtin "BaseException.__getattribute__" == Value.builtin "object.__getattribute__") = true then _ else _) _ _ _
  rw [own2, if_neg Bool.false_ne_true]
  unfold getAttrByItsOwn hookBefore
  refine wpAny_bind ?_
  rw [if_pos (show onTheHeap (Value.ref D) = true from rfl)]
  refine (looks_findIn X C.hk).at (wpAny_bind (wpAny_attempt (wpAny_holding ?_)))
  unfold callGetattribute
  rw [far, if_neg Bool.false_ne_true]
  unfold boundAndCalled
  rw [PySem.F.excAttr_ValueError.ga.bind (.ref x)]
  refine wpAny_bind (wpAny_pure ?_)
  show wpAny _ _ (call (.builtin "BaseException.__getattribute__") [.ref x, .str "__class__" t]) _ _ _
  refine wpAny_call (codeAny_call_builtin PySem.F.excAttr_ValueError.ga.plain PySem.F.entry_bexc_ga ?_)
  refine @check_slot (model prog w) _ _ ⟨hp, g, d, t + 1, os⟩ "BaseException.__getattribute__" "BaseException" "__getattribute__" (.ref x) [.str "__class__" t] [] _ (by decide +kernel) (by decide +kernel) (T.andThen (looks_subIn X C.hs)) (PySem.F.args_bexc_ga (.ref x) (.str "__class__" t)) ?_
  unfold Builtin.«object.__getattribute__»
  refine wpAny_bind (wpAny_of_eq (a := ((Value.ref x : Value), [Value.str "__class__" t])) (by first | rfl | (simp only [slotArgs]; rfl)) ?_)
  refine wpAny_bind (wpAny_pure (wpAny_bind (T.at (wpAny_bind ((looks_find X I hf).at ?_)))))
  show wpAny _ _ (holding [Value.builtin "object.__class__"] (call (.builtin "getset_descriptor.__get__") [.builtin "object.__class__", .ref x, .ref D]) >>= ret) _ _ _
  refine wpAny_bind (wpAny_holding (wpAny_call (class_get (s := ⟨hp, g, d, t + 1, os⟩) (ox := ox) (od := od) X I C.hm ?_)))
  refine wpAny_pure ?_
  show wpAny _ _ (handedOut (.ref D)) _ _ _
  rw [handedOut_of (v := .ref D) rfl]
  first
    | exact wpAny_pure (wpAny_pure h)
    | exact wpAny_pure h
    | exact wpAny_pure (wpAny_bind (wpAny_pure (wpAny_pure h)))
theorem er_kit {od : Option Obj} (C : ExcC K D) : KitX K (.ref x) (.ref D) (fun h => InstAt h x ox D od) :=
  let Z := handS_kitx_exc (x := x) (ox := ox) C.hg C.hk C.hs C.hd C.ha C.hn C.ht C.hm
  { ty := fun _ _ _ I => I.type, it := fun M h X I => by
      obtain ⟨cdD, hcD, _⟩ := any_some C.hd
      unfold clsIn at hcD
      split at hcD
      · rename_i c' d' cd' sl' ho
        intro A' Q' E' s' k q
        unfold isType loadHead
        exact wpAny_bind (wpAny_loadPart (k _ _ (X _ _ ho)) (wpAny_pure q))
      · cases hcD
    ne := Z.ne, ca := fun X I k => er_class C X I k }
end
def ErAt (K : PySem.W.Frag) (H : Hp) (D a : Addr) : Prop := H a = some (ErO (.ref D) a) ∨ ∃ d fs, H a = some (ErOF (.ref D) d a) ∧ H d = some (.xd fs)
theorem err_bw {K : PySem.W.Frag} {F : Addr → Prop} {H : Hp} {v : V} {x : Str} {l : List (D × D)} (b : Bw K F H v (.dict ((.none, .str x) :: l))) : ∃ a, v = .ref a ∧ ErAt K H (He.ga K x) a ∧ ErG K x := by
  cases b with
  | rp h =>
    cases h with
    | dct _ _ _ _ hs => cases hs
    | err h g => exact ⟨_, rfl, .inl h, g⟩
    | errF h1 h2 nd hl g xf no r => exact ⟨_, rfl, .inr ⟨_, _, h1, h2⟩, g⟩
def rIsK (K : PySem.W.Frag) (D a : Addr) : List V → Hp → VK → Prop := fun xs H Q => ErAt K H D a ∧ rIsE K D a xs H Q
theorem er_inst {X : Cx} {pins : List (Addr × Obj)} {σ : List (Option V)} {H : Hp} {s : Shared} {a D : Addr} (I : L2.Inv X pins σ H s) (h : ErAt X.K H D a) : ∃ oe od, PySem.W.InstAt s.heap a oe D od := by
  rcases h with h | ⟨d, fs, h, hd⟩
  · obtain ⟨⟨oe, vs, hget, hz, hv⟩, _⟩ := (show ObjOk X.prog X.w H s.heap a (ErO (.ref D) a) from I.hok a _ h)
    refine ⟨oe, none, ?_⟩
    obtain ⟨oc, od, oda, osl⟩ := oe
    obtain ⟨h1, h2⟩ := hz
    dsimp only at h1 h2 hv
    subst h1 h2 hv
    exact ⟨hget, rfl, rfl, trivial⟩
  · obtain ⟨⟨oe, vs, hget, hz, hv⟩, _⟩ := (show ObjOk X.prog X.w H s.heap a (ErOF (.ref D) d a) from I.hok a _ h)
    obtain ⟨mA, hns, hr⟩ := (show ObjOk X.prog X.w H s.heap d (.xd fs) from I.hok d _ hd)
    obtain ⟨od, ho, hl⟩ := lookIn_ns hns
    exact ⟨oe, some od, hget, hz.1, by unfold PySem.W.notCls; rw [hv] <;> rfl, by rw [hz.2]; exact ho⟩
def tFld (K : PySem.W.Frag) (n : Str) (te : TE) : TE := fun σ H Q => te σ H fun x H1 => ∃ (a C dd : Addr) (fs : List (Str × V)) (v : V), x = .ref a ∧ XfC K C ∧ PySem.W.findIn K (.ref C) n = some none ∧ H1 a = some (ErOF (.ref C) dd a) ∧ H1 dd = some (.xd fs) ∧ fs.lookup n = some v ∧ Q v H1
theorem pe_fld {X : Cx} {e : Expr} {te : TE} {pos : Pos} {n : Str} (he : PE X e te) (hb : attributeBase e n X.env (eval e X.env) = eval e X.env := by rfl) : PE X (.Attribute e n pos) (tFld X.K n te) := by
  refine ⟨fun pins s σ H Q I h => ?_⟩
  refine attr_of hb (thn (he.run pins s σ H _ I h) fun u s1 hh => ?_)
  obtain ⟨x, H1, I1, rx, a, C, dd, fs, v, ex, T, hno, ha, hd, l, q⟩ := hh
  subst ex
  obtain rfl : u = Value.ref a := rx
  obtain ⟨⟨oe, vs, hget, hz, hv⟩, _⟩ := (show ObjOk X.prog X.w H1 s1.heap a (ErOF (.ref C) dd a) from I1.hok a _ ha)
  obtain ⟨mA, hns, hr⟩ := (show ObjOk X.prog X.w H1 s1.heap dd (.xd fs) from I1.hok dd _ hd)
  obtain ⟨od, ho, hl⟩ := lookIn_ns hns
  obtain ⟨u, hu, ru⟩ := RelO.some_of (v := v) (o := mA n) (by rw [← l]; exact hr n)
  have J : PySem.W.InstAt s1.heap a oe C (some od) := ⟨hget, hz.1, by unfold PySem.W.notCls; rw [hv] <;> rfl, by rw [hz.2]; exact ho⟩
  exact HandSPX.exc_get I1.kIn J T.ga T.gg T.exC (PySem.W.findObj_own T.hdC hno rfl (by rw [hl, hu])) (handed_of ru) ⟨v, H1, I1.tok _, ru, q⟩
theorem fldIn_at {K : PySem.W.Frag} {F : Addr → Prop} {H : Hp} {f : Str} {d : D} : ∀ {ns : List Str} {vs : List V} {ds : List D}, ns.length = vs.length → RpL K F H vs ds → fldIn f ((ns.map PyData.str).zip ds) = some d → ∃ (i : Nat) (v : V), ns[i]? = some f ∧ vs[i]? = some v ∧ Rp K F H v d
  | [], _, _, _, _, h => by simp [fldIn] at h
  | n :: ns, [], _, hl, _, _ => by simp at hl
  | n :: ns, v :: vs, _, hl, .cons h r, e => by
    rw [List.map_cons, List.zip_cons_cons, fldIn] at e
    split at e
    · rename_i hn
      cases e
      exact ⟨0, v, by rw [hn]; rfl, rfl, h⟩
    · obtain ⟨i, v', q1, q2, q3⟩ := fldIn_at (by simpa using hl) r e
      exact ⟨i + 1, v', by simpa using q1, by simpa using q2, q3⟩
theorem zip_lookup {f : Str} {v : V} : ∀ {ns : List Str} {vs : List V} {i : Nat}, ns.Nodup → ns[i]? = some f → vs[i]? = some v → ((ns.zip vs).reverse).lookup f = some v := fun {ns vs i} nd h1 h2 => by
  have key : ∀ (l : List (Str × V)), (∀ p ∈ l, ∀ q ∈ l, p.1 = q.1 → p = q) → (f, v) ∈ l → l.lookup f = some v := by
    intro l
    induction l with
    | nil => intro _ h; cases h
    | cons p l ih =>
      intro hu h
      rw [List.lookup_cons]
      by_cases hp : f = p.1
      · have : (f, v) = p := hu _ h _ List.mem_cons_self hp
        subst this
        simp
      · have hb : (f == p.1) = false := by simpa using hp
        rw [hb]
        refine ih (fun p hp q hq => hu p (List.mem_cons_of_mem _ hp) q (List.mem_cons_of_mem _ hq)) ?_
        rcases List.mem_cons.mp h with e | e
        · exact absurd (by rw [← e]) hp
        · exact e
  have at_ : ∀ p ∈ (ns.zip vs).reverse, ∃ j, ns[j]? = some p.1 ∧ vs[j]? = some p.2 := fun p hp => by
    obtain ⟨j, hj⟩ := List.getElem?_of_mem (List.mem_reverse.mp hp)
    rw [List.getElem?_zip_eq_some] at hj
    exact ⟨j, hj.1, hj.2⟩
  refine key _ (fun p hp q hq e => ?_) ?_
  · obtain ⟨j, a1, a2⟩ := at_ p hp
    obtain ⟨k, b1, b2⟩ := at_ q hq
    have hjk : j = k := by
      obtain ⟨hj, ej⟩ := List.getElem?_eq_some_iff.mp a1
      obtain ⟨hk, ek⟩ := List.getElem?_eq_some_iff.mp b1
      have pw := List.pairwise_iff_getElem.mp nd
      rcases Nat.lt_trichotomy j k with q | q | q
      · exact absurd (by rw [ej, ek, e]) (pw j k hj hk q)
      · exact q
      · exact absurd (by rw [ej, ek, e]) (pw k j hk hj q)
    subst hjk
    have e2 : p.2 = q.2 := Option.some.inj (a2.symm.trans b2)
    exact Prod.ext e e2
  · rw [List.mem_reverse]
    exact List.mem_of_getElem? (l := ns.zip vs) (i := i) (by rw [List.getElem?_zip_eq_some]; exact ⟨h1, h2⟩)
theorem call_isK {X : Cx} {a D : Addr} (C : ExcC X.K D) : CallR X (.builtin "isinstance") (rIsK X.K D a) := by
  intro pins s σ H xs us Q I r h
  obtain ⟨ha, c, cv, b, rfl, hcv, e, q⟩ := h
  obtain ⟨u1, u2, rfl, r1, r2⟩ := vals2 r
  cases r1
  have ec := hcv _ r2
  subst ec
  obtain ⟨oe, od, J⟩ := er_inst I ha
  exact PySem.W.kia_one (er_kit C) I.kIn J e (fun z => nomatch z) fun tk => ⟨.bl b, H, I.tok tk, rfl, q⟩
def rIsX (K : PySem.W.Frag) : List V → Hp → VK → Prop := fun xs H Q => ∃ D a, ExcC K D ∧ rIsK K D a xs H Q
theorem call_isX {X : Cx} : CallR X (.builtin "isinstance") (rIsX X.K) := by
  intro pins s σ H xs us Q I r h
  obtain ⟨D, a, C, h⟩ := h
  exact call_isK C pins s σ H xs us Q I r h

section
variable {X : Cx} {N : List Str} {sc : Scope} {k : Nat}
theorem sE_isx (g : Gd0 X N sc k) {a : E} {c : Str} {x u : Str} {y : Expr} {p1 p2 pos : Pos} (hx : blB sc x "isinstance" = true) (hm : X.mg "isinstance" = none) (ha : SE X y (ev a)) (hs : noStar y = true) (hu : blB sc u c = true) (hc : errCl.contains c = true) (hd : (u == ("__debug__" : Str)) = false) (q0 : GlG X c (fnD c)) :
    SE X (.Call (.Name x p1) [y, .Name u p2] [] pos) (ev (.isx a c)) := by
  obtain ⟨rfl, hg⟩ := bl_ok g.z hx
  obtain ⟨rfl, hg2⟩ := bl_ok g.z hu
  obtain ⟨ta, pa, ha⟩ := ha
  have pt : PE X (.Name u p2) (tC (.ref (He.ga X.K u))) := pe_glob (X := X) hg2 q0.fn rfl hd
  refine ⟨_, pe_callB call_isX hg hm (by decide +kernel) (pa_cons pa (pa_cons pt pa_nil (starE rfl)) (starE hs)) (by decide) (by decide) (starE hs) (starAny rfl), fun F H σ env res env' R e Q q => ?_⟩
  simp only [ev, Option.bind_eq_bind, Option.bind_eq_some_iff, Prod.exists] at e
  obtain ⟨ra, env1, e1, da, e2, nm, e3, e4⟩ := e
  cases e4
  refine ha F H σ env _ _ R e1 _ fun v F1 H1 R1 s1 r1 p1 => ?_
  obtain ⟨l, ed⟩ := errOf_eq e3
  subst ed
  obtain ⟨b, rfl, h1, gE⟩ := err_bw (RR.bw R1 r1 e2)
  exact ⟨_, b, gE.ec, h1, .ref (He.ga X.K u), .ref (He.ga X.K u), _, rfl, fun w r => r, gE.is u (List.contains_iff_mem.mp hc), q _ F1 H1 R1 s1 (Rp.bl _) trivial⟩
theorem cs_pa (g : Gd0 X N sc k) : ∀ {cs : List Str} {es : List Expr}, chCs sc cs es = true → (∀ y ∈ cs, GlG X y (fnD y)) →
    es.all noStar = true ∧ ∃ t : TA, PA X es t ∧ (∀ c ∈ cs, c ∈ errCl) ∧ ∀ (σ : L2.St) (H : Hp) (Q : List V → Hp → Prop), Q (cs.map fun c => .ref (He.ga X.K c)) H → t σ H Q
  | [], [], _, _ => ⟨rfl, tNil, pa_nil, (fun _ h => nomatch h), fun _ _ _ q => q⟩
  | c :: cs, [], h, _ => by simp [chCs] at h
  | [], e :: es, h, _ => by simp [chCs] at h
  | c :: cs, e :: es, h, hG => by
    unfold chCs at h
    split at h
    · rename_i heq1 heq2
      cases heq1
    · rename_i heq1 heq2
      cases heq1
      cases heq2
      simp only [Bool.and_eq_true, Bool.not_eq_true'] at h
      obtain ⟨h1, h2, h3, h4⟩ := h
      obtain ⟨rfl, hg⟩ := bl_ok g.z h1
      obtain ⟨a1, t, p2, a3, q2⟩ := cs_pa g h4 fun y hy => hG y (List.mem_cons_of_mem _ hy)
      have p1 := fun p => pe_glob (X := X) (pos := p) hg (hG _ List.mem_cons_self).fn (v := .ref (He.ga X.K _)) rfl h3
      refine ⟨by rw [List.all_cons, a1]; rfl, _, pa_cons (p1 _) p2 (starE rfl), fun y hy => ?_, fun σ H Q q => q2 σ H _ q⟩
      rcases List.mem_cons.mp hy with rfl | hy
      · exact List.contains_iff_mem.mp h2
      · exact a3 y hy
    · cases h
theorem kitAny_of {K : PySem.W.Frag} {nm : Str} (gE : ErG K nm) : ∀ {cs : List Str}, (∀ c ∈ cs, c ∈ errCl) → PySem.W.kitAny K (.ref (He.ga K nm)) (cs.map fun c => .ref (He.ga K c)) = some (cs.any (subE nm))
  | [], _ => rfl
  | c :: cs, h => by
    rw [List.map_cons, List.any_cons]
    refine kitAny_cons (gE.is c (h c List.mem_cons_self)) (fun e => ?_) (fun e => ?_)
    · rw [e]; exact kitAny_of gE fun y hy => h y (List.mem_cons_of_mem _ hy)
    · rw [e]; rfl
theorem clsV_refs {K : PySem.W.Frag} : ∀ cs : List Str, Paired ClsV (cs.map fun c => V.ref (He.ga K c)) (cs.map fun c => Value.ref (He.ga K c))
  | [] => .nil
  | c :: cs => .cons (.own _) (clsV_refs cs)
def rIsU (K : PySem.W.Frag) : List V → Hp → VK → Prop := fun xs H Q => ∃ (D a tp : Addr) (cs : List V) (us : List Value) (b : Bool), ExcC K D ∧ ErAt K H D a ∧ xs = [.ref a, .ref tp] ∧ H tp = some (.tup cs) ∧ Paired ClsV cs us ∧ PySem.W.kitAny K (.ref D) us = some b ∧ Q (.bl b) H
theorem call_isU {X : Cx} : CallR X (.builtin "isinstance") (rIsU X.K) := by
  intro pins s σ H xs us Q I r h
  obtain ⟨D, a, tp, cs, ws, b, C, ha, rfl, hT, k, e, q⟩ := h
  obtain ⟨u1, u2, rfl, r1, r2⟩ := vals2 r
  cases r1
  cases (show u2 = Value.ref tp from r2)
  obtain ⟨oe, od, J⟩ := er_inst I ha
  obtain ⟨_, its, rv, o, h1, h2, n, h3⟩ := (show ObjOk X.prog X.w H s.heap tp (.tup cs) from I.hok tp _ hT)
  have e3 := ClsV.all k rv
  subst e3
  obtain ⟨oc, od, dt, sl⟩ := o
  simp only at h2 h3
  subst h2 h3
  exact PySem.W.kia_tup (er_kit C) I.kIn J h1 e (fun z => nomatch z) fun tk => ⟨.bl b, H, I.tok tk, rfl, q⟩
theorem ErAt.same {K : PySem.W.Frag} {H H' : Hp} {D a : Addr} (h : ErAt K H D a) (s : Same H H') : ErAt K H' D a := by
  rcases h with h | ⟨d, fs, h1, h2⟩
  · exact .inl (s _ _ h)
  · exact .inr ⟨d, fs, s _ _ h1, s _ _ h2⟩
theorem sE_isxT (g : Gd0 X N sc k) {a : E} {cs : List Str} {x : Str} {y : Expr} {es : List Expr} {n : Nat} {p1 p2 pos : Pos} (hx : blB sc x "isinstance" = true) (hm : X.mg "isinstance" = none) (ha : SE X y (ev a)) (hs : noStar y = true) (hc : chCs sc cs es = true) (hl : cs.length ≤ 1000) (q0 : ∀ y ∈ cs, GlG X y (fnD y)) :
    SE X (.Call (.Name x p1) [y, .Tuple es n p2] [] pos) (ev (.isxT a cs)) := by
  obtain ⟨rfl, hg⟩ := bl_ok g.z hx
  obtain ⟨a1, t, pt, a3, qt⟩ := cs_pa g hc q0
  obtain ⟨ta, pa, ha⟩ := ha
  refine ⟨_, pe_callB call_isU hg hm (by decide +kernel) (pa_cons pa (pa_cons (pe_tup pt) pa_nil (starE rfl)) (starE hs)) (by decide) (by decide) (starE hs) (starAny rfl), fun F H σ env res env' R e Q q => ?_⟩
  simp only [ev, Option.bind_eq_bind, Option.bind_eq_some_iff, Prod.exists] at e
  obtain ⟨ra, env1, e1, da, e2, nm, e3, e4⟩ := e
  cases e4
  refine ha F H σ env _ _ R e1 _ fun v F1 H1 R1 s1 r1 p1 => ?_
  obtain ⟨l, ed⟩ := errOf_eq e3
  subst ed
  obtain ⟨b, rfl, h1, gE⟩ := err_bw (RR.bw R1 r1 e2)
  refine qt _ _ _ ⟨by rw [List.length_map, sizeLine_eq]; omega, fun p hp => ?_⟩
  exact ⟨_, b, p, _, _, _, gE.ec, h1.same (same_upd hp), rfl, upd_same, clsV_refs cs, kitAny_of gE a3, q _ F1 _ (R1.same (same_upd hp)) (s1.trans (Same.stp (same_upd hp))) (Rp.bl _) trivial⟩
theorem sE_isv (g : Gd0 X N sc k) {a : E} {x u : Str} {y : Expr} {p1 p2 pos : Pos} (hx : blB sc x "isinstance" = true) (hm : X.mg "isinstance" = none) (ha : SE X y (ev a)) (hs : noStar y = true) (hu : blB sc u "ValueError" = true) (hv : X.mg "ValueError" = none) :
    SE X (.Call (.Name x p1) [y, .Name u p2] [] pos) (ev (.isv a)) := by
  obtain ⟨rfl, hg⟩ := bl_ok g.z hx
  obtain ⟨rfl, hg2⟩ := bl_ok g.z hu
  obtain ⟨ta, pa, ha⟩ := ha
  have pt : PE X (.Name "ValueError" p2) (tC (.ty "ValueError")) := pe_bltn (X := X) hg2 hv (by decide +kernel) rfl (by decide) (by decide)
  refine ⟨_, pe_callB call_isX hg hm (by decide +kernel) (pa_cons pa (pa_cons pt pa_nil (starE rfl)) (starE hs)) (by decide) (by decide) (starE hs) (starAny rfl), fun F H σ env res env' R e Q q => ?_⟩
  simp only [ev, Option.bind_eq_bind, Option.bind_eq_some_iff, Prod.exists] at e
  obtain ⟨ra, env1, e1, da, e2, nm, e3, e4⟩ := e
  cases e4
  refine ha F H σ env _ _ R e1 _ fun v F1 H1 R1 s1 r1 p1 => ?_
  obtain ⟨l, ed⟩ := errOf_eq e3
  subst ed
  obtain ⟨b, rfl, h1, gE⟩ := err_bw (RR.bw R1 r1 e2)
  exact ⟨_, b, gE.ec, h1, .ty "ValueError", .type "ValueError", _, rfl, fun w r => r, gE.ve, q _ F1 H1 R1 s1 (Rp.bl _) trivial⟩
theorem evL_len' : ∀ (es : EL) (env : Nv) (rs : List Res) (env' : Nv), evL es env = some (rs, env') → rs.length = es.length := by
  intro es
  induction es using EL.rec (motive_1 := fun _ => True) with
  | nil => intro env ds env' e; simp only [evL, Option.some.injEq, Prod.mk.injEq] at e; rw [← e.1]; rfl
  | cons x xs _ ih =>
    intro env ds env' e
    simp only [evL, Option.bind_eq_bind, Option.bind_eq_some_iff, Prod.exists] at e
    obtain ⟨_, _, _, rs2, _, e3, e4⟩ := e
    cases e4
    rw [List.length_cons, ih _ _ _ e3]
    rfl
  | _ => trivial
theorem callE_ok {f : Fn} {es : EL} {t : TA} (hL : ∀ (F : Addr → Prop) (H : Hp) (σ : L2.St) (env : Nv) (rs : List Res) (env' : Nv), ER X.K F H σ env → evL es env = some (rs, env') →
    ∀ Q : List V → Hp → Prop, (∀ vs F' H', ER X.K F' H' σ env' → Stp (wd σ env F H) (wd σ env' F' H') → RRL X.K F' H' σ env' rs vs → ProvL (wd σ env F H) rs vs → Dis rs vs → Q vs H') → t σ H Q) (hl : es.length = f.ps.length)
    {F : Addr → Prop} {H : Hp} {σ : L2.St} {env env1 : Nv} {rs : List Res} {res : Res} {env' : Nv} (R : ER X.K F H σ env) (e1 : evL es env = some (rs, env1)) (e2 : callE f rs env1 = some (res, env')) (Q : VK)
    (q : ∀ v F' H', ER X.K F' H' σ env' → Stp (wd σ env F H) (wd σ env' F' H') → RR X.K F' H' σ env' res v → Prov (wd σ env F H) res v → Q v H') :
    t σ H fun vs H1 => spOf X.K f (vs ++ []) H1 Q E0 := by
  unfold callE at e2
  split at e2
  · cases e2
  rename_i dp
  have dp : dupPl rs = false := by simpa using dp
  split at e2
  · cases e2
  rename_i as e3
  have main : ∀ bs, f.run as = some (res, bs) → (∀ i, res ≠ .pl i) → env' = putB f.asg env1 0 env1 rs bs → t σ H fun vs H1 => spOf X.K f (vs ++ []) H1 Q E0 := by
    rintro bs e4 np rfl
    refine hL F H σ env rs env1 R e1 _ fun vs F1 H1 R1 s1 rr pr ds => ?_
    rw [List.append_nil]
    have Ra := args_er R1 e3 rr dp ds
    have hlen : as.length = f.ps.length := by
      rw [(argS_ar e3).1, evL_len' _ _ _ _ e1, hl]
    refine ⟨F1, as, res, bs, hlen, Ra, e4, fun v F' H' Rb sb rb pb => ?_⟩
    have hb : bs.length = as.length := by rw [Rb.len, Ra.len]
    obtain ⟨c1, c2, c3, c4⟩ := call_back R1 s1 e3 rr pr dp hb Rb sb rb pb np ds
    exact q v F' H' c1 c2 c3 c4
  split at e2
  · rename_i d bs e4
    cases e2
    exact main bs e4 (fun _ z => nomatch z) rfl
  · rename_i d bs e4
    cases e2
    exact main bs e4 (fun _ z => nomatch z) rfl
  · cases e2
theorem nm_at (g : Gd0 X N sc k) {i : Nat} {x : Str} (h : nmB N sc i x = true) : X.N[i]? = some x ∧ Vis X.env.scope x ∧ (x == ("__debug__" : Str)) = false ∧ (x == ("__classdict__" : Str)) = false := by
  unfold nmB visB at h
  simp only [Bool.and_eq_true, decide_eq_true_eq, Bool.or_eq_true, Bool.not_eq_true'] at h
  obtain ⟨⟨⟨h1, h2⟩, h3⟩, h4⟩ := h
  refine ⟨by rw [g.nn]; exact h1, ?_, h3, h4⟩
  unfold Vis
  rw [g.ss]
  rcases h2 with (h | h) | h
  · exact .inl h
  · exact .inr (.inl h)
  · exact .inr (.inr h)
theorem sE_fld (g : Gd0 X N sc k) {i : Nat} {x f : Str} {p pos : Pos} (hn : nmB N sc i x = true) : SE X (.Attribute (.Name x p) f pos) (ev (.fld i f)) := by
  obtain ⟨n1, n2, n3, n4⟩ := nm_at g.z hn
  refine ⟨_, pe_fld (pe_var (pos := p) n1 n2 n3 n4) rfl, fun F H σ env res env' R e Q q => ?_⟩
  simp only [ev, Option.bind_eq_bind, Option.bind_eq_some_iff, Prod.exists, Option.some.injEq, Prod.mk.injEq] at e
  obtain ⟨da, e1, d, e2, rfl, rfl⟩ := e
  unfold fldOf at e2
  split at e2
  · rename_i y l
    have hs : sAt env i = .val (.dict ((.none, .str y) :: l)) := by
      have e1 : (sAt env i).get = some (.dict ((.none, .str y) :: l)) := e1
      cases hq : sAt env i with
      | val d0 =>
        rw [hq] at e1
        cases e1
        rfl
      | _ => rw [hq] at e1; cases e1
    obtain ⟨v, w1, rp⟩ := R.val hs
    generalize hD : PyData.dict ((PyData.none, PyData.str y) :: l) = D0 at rp
    cases rp with
    | dct _ _ _ _ hs => cases hD; cases hs
    | err h g0 =>
      cases hD
      cases e2
    | @errF a0 dd x0 ns vs ds h1 h2 nd hl g0 xf no r =>
      have hl2 : l = (ns.map PyData.str).zip ds := by
        have := PyData.dict.inj hD
        exact (List.cons.inj this).2
      subst hl2
      obtain ⟨j, u, q1, q2, q3⟩ := fldIn_at hl r e2
      exact ⟨.ref a0, w1, a0, _, dd, _, u, rfl, xf, no f (List.mem_of_getElem? q1), h1, h2, zip_lookup nd q1 q2, q u F H R (Stp.refl _) q3 trivial⟩
    | _ => cases hD
  · cases e2
def tCallF (K : PySem.W.Frag) (i : Nat) (fs : List Fn) (es : EL) (t : TA) : TE := fun σ H Q => ∃ f, f ∈ fs ∧ σ[i]? = some (some (.ref (He.ga K f.name))) ∧ t σ H fun vs H1 => spOf K f (vs ++ []) H1 Q E0
theorem sE_callv (g : Gd X N sc k) {i : Nat} {fs : List Fn} {es : EL} {xs : List Expr} {x : Str} {p pos : Pos} (hn : nmB N sc i x = true) (hF : ∀ f, f ∈ fs → FnG X k f ∧ GlG X f.name (fnD f.name)) (ha : SL3 X xs es) (hs : xs.all noStar = true) (hne : xs.isEmpty = false) :
    SE X (.Call (.Name x p) xs [] pos) (ev (.callv i fs es)) := by
  obtain ⟨n1, n2, n3, n4⟩ := nm_at g.z hn
  obtain ⟨t, pt, _, hL⟩ := ha
  cases xs with
  | nil => cases hne
  | cons y ys =>
    rw [List.all_cons, Bool.and_eq_true] at hs
    have pe : PE X (.Call (.Name x p) (y :: ys) [] pos) (tCallF X.K i fs es t) := ⟨fun pins s σ H Q I h => by
      obtain ⟨f, hf, hσ, ht⟩ := h
      obtain ⟨⟨⟨a, fd, m1, m2, m3, m4⟩, lv⟩, gl⟩ := hF f hf
      have ea : a = He.ga X.K f.name := by
        have := m1.symm.trans gl.fn
        cases this
        rfl
      subst ea
      exact (pe_callL (i := i) m4 (g.room.mono lv) n1 n2 m2 m3 .nil pass0 pt n3 n4 (starE hs.1) (starAny hs.2)).run pins s σ H Q I ⟨hσ, ht⟩⟩
    refine ⟨_, pe, fun F H σ env res env' R e Q q => ?_⟩
    simp only [ev, Option.bind_eq_bind, Option.bind_eq_some_iff, Prod.exists] at e
    obtain ⟨nm, e0, f, ef, e⟩ := e
    split at e
    · rename_i hl
      simp only [Option.bind_eq_some_iff, Prod.exists] at e
      obtain ⟨rs, env1, e1, e2⟩ := e
      have hf := List.mem_of_find?_eq_some ef
      have hn' : f.name = nm := by
        have := List.find?_some ef
        exact of_decide_eq_true this
      subst hn'
      exact ⟨f, hf, fnAt_ok R e0, callE_ok hL hl R e1 e2 Q q⟩
    · cases e
theorem ownL_at {K : PySem.W.Frag} {F : Addr → Prop} {H : Hp} {σ : L2.St} {env : Nv} {i : Nat} {l : List D} (R : ER K F H σ env) (h : ownL env i = some l) : sAt env i = .own l ∧ ∃ a xs, σ[i]? = some (some (.ref a)) ∧ H a = some (.lst xs) := by
  unfold ownL at h
  split at h
  · rename_i l' hs
    cases h
    obtain ⟨a, xs, e1, h1, _⟩ := R.own hs
    exact ⟨hs, a, xs, e1, h1⟩
  · cases h
theorem rpl_at {K : PySem.W.Frag} {F : Addr → Prop} {H : Hp} : ∀ {vs : List V} {ds : List D}, RpL K F H vs ds → ∀ {j : Nat} {t : Slot}, (ds.map Slot.val)[j]? = some t → ∃ v d, (vs.map some)[j]? = some (some v) ∧ t = .val d ∧ Rp K F H v d
  | _, _, .nil, j, t, e => by simp at e
  | _, _, .cons h r, 0, t, e => by
    simp only [List.map_cons, List.getElem?_cons_zero, Option.some.injEq] at e
    subst e
    exact ⟨_, _, rfl, rfl, h⟩
  | _, _, .cons h r, j + 1, t, e => rpl_at r (by simpa using e)
theorem sE_callP (g : Gd X N sc k) {f : Fn} {i : Nat} {as es : EL} {ys xs : List Expr} {x y : Str} {n : Nat} {p p1 p2 pos : Pos} (hx : blB sc x f.name = true) (hd : (x == ("__debug__" : Str)) = false) (hn : nmB N sc i y = true) (hf : FnG X k f) (ha : SL2 X ys as) (he : SL2 X xs es) (hy : ys.all noStar = true) (hs : xs.all noStar = true) (hl1 : as.length ≤ 1000) :
    SE X (.Call (.Name x p) (.Tuple (.Name y p1 :: ys) n p2 :: xs) [] pos) (ev (.callP f i as es)) := by
  obtain ⟨rfl, hg⟩ := bl_ok g.z hx
  obtain ⟨⟨a0, fd, m1, m2, m3, m4⟩, lv⟩ := hf
  obtain ⟨n1, n2, n3, n4⟩ := nm_at g.z hn
  obtain ⟨t1, pt1, hK1, _⟩ := ha
  obtain ⟨t2, pt2, hK2, _⟩ := he
  have pn : PE X (.Name y p1) (tVar i) := pe_var n1 n2 n3 n4
  refine ⟨_, pe_call m4 (g.room.mono lv) hg m1 m2 m3 .nil pass0 (pa_cons (pe_tup (pa_cons pn pt1 (starE rfl))) pt2 (starE rfl)) hd (starE rfl) (starAny hs), fun F H σ env res env' R e Q q => ?_⟩
  simp only [ev, Option.bind_eq_bind, Option.bind_eq_some_iff, Prod.exists] at e
  obtain ⟨l0, e0, d1, env1, e1, d2, env2, e2, l, e3, e4⟩ := e
  split at e4
  · rename_i hlen
    simp only [Option.bind_eq_some_iff, Prod.exists, Option.some.injEq, Prod.mk.injEq] at e4
    obtain ⟨r, bs, e5, d, e6, rfl, rfl⟩ := e4
    obtain ⟨_, a, _, ea, _⟩ := ownL_at R e0
    refine ⟨.ref a, ea, hK1 F H σ env d1 env1 R e1 _ fun vs1 F1 H1 R1 s1 r1 => ?_⟩
    refine ⟨by rw [List.length_cons, r1.length, evK_len _ _ _ _ e1, sizeLine_eq]; omega, fun pp hp => ?_⟩
    have R1' := R1.same (same_upd (o := HO.tup (.ref a :: vs1)) hp)
    have s1' := s1.trans (Same.stp (same_upd (o := HO.tup (.ref a :: vs1)) hp))
    refine hK2 F1 _ σ env1 d2 env2 R1' e2 _ fun vs2 F2 H2 R2 s2 r2 => ?_
    have nO : ¬ OwnA σ env1 pp := fun ⟨j, l', q1, q2⟩ => by
      have hs : sAt env1 j = .own l' := by
        unfold sAt
        rw [List.getD_eq_getElem?_getD, q1]
        rfl
      obtain ⟨b, ys, q3, q4, _⟩ := R1.own hs
      rw [q2] at q3
      cases q3
      rw [hp] at q4
      cases q4
    have htup : H2 pp = some (.tup (.ref a :: vs1)) := s2.k pp _ upd_same nO fun _ z => nomatch z
    obtain ⟨hs3, a', xs', ea', hx'⟩ := ownL_at R2 e3
    have haa : a' = a := by
      rw [ea] at ea'
      cases ea'
      rfl
    subst haa
    obtain ⟨F3, R3, s3, rl, fm⟩ := keep_ok (r := .pl i) (d := .list l) (env' := env2.set i (.val (.list l))) R2 (show RR X.K F2 H2 σ env2 (.pl i) (.ref a') from ea) (Stp.refl _) trivial (by show keepS i env2 (sAt env2 i) = _; rw [hs3]; rfl)
    have r1b : RpL X.K F2 H2 vs1 d1 := (r1.same (same_upd hp)).mono s2 R1'.ok
    have r1c : RpL X.K F3 H2 vs1 d1 := r1b.mono s3 R2.ok
    have r2c : RpL X.K F3 H2 vs2 d2 := r2.mono s3 R2.ok
    have hz : (V.ref a' :: vs1).length ≤ sizeLine := by rw [List.length_cons, r1.length, evK_len _ _ _ _ e1, sizeLine_eq]; omega
    have rt : Rp X.K F3 H2 (.ref pp) (.tuple (.list l :: d1)) := .tup (.of htup) hz (.cons rl r1c)
    have vsl : ∀ (vs : List V) (ds : List D), RpL X.K F3 H2 vs ds → ER X.K F3 H2 (vs.map some) (ds.map Slot.val) := fun vs ds rr => by
      refine ⟨by rw [List.length_map, List.length_map, rr.length], fun j t e => ?_, fun j m b q1 _ _ _ => ?_, R3.tr, R3.tb⟩
      · obtain ⟨v, d, q1, rfl, q2⟩ := rpl_at rr e
        exact ⟨_, q1, .val q2⟩
      · obtain ⟨l', q1⟩ := q1
        rcases q1 with q1 | q1 <;> (obtain ⟨_, _, _, z, _⟩ := rpl_at rr q1; cases z)
    have Ra := vsl (.ref pp :: vs2) (.tuple (.list l :: d1) :: d2) (.cons rt r2c)
    show spOf X.K f ((V.ref pp :: vs2) ++ []) H2 Q E0
    rw [List.append_nil]
    refine ⟨F3, .val (.tuple (.list l :: d1)) :: d2.map .val, r, bs, by rw [List.length_cons, List.length_map]; exact hlen, Ra, e5, fun v F' H' Rb sb rb pb => ?_⟩
    have same : SameN H2 H' := sameN_of sb fun _ ⟨j, l', q1, q2⟩ => by
      have q1 : ((PyData.tuple (.list l :: d1) :: d2).map Slot.val)[j]? = some (.own l') := q1
      rw [List.getElem?_map, Option.map_eq_some_iff] at q1
      obtain ⟨_, _, z⟩ := q1
      cases z
    have R4 := R2.sameN same Rb.tb
    have s4 := (s1'.trans s2).trans (SameN.stp (σ := σ) (env := env2) (F := F2) same)
    have rv : RR X.K F2 H' σ env2 (.val d) v := by
      unfold atomR at e6
      split at e6
      · cases e6
        have rb : Rp X.K F' H' v _ := rb
        obtain rfl := (Bw.rp rb).int
        exact Rp.int _
      · cases e6
        have rb : Rp X.K F' H' v _ := rb
        obtain rfl := (Bw.rp rb).bl
        exact Rp.bl _
      · cases e6
        have rb : Rp X.K F' H' v _ := rb
        obtain rfl := (Bw.rp rb).non
        exact Rp.non
      · cases e6
    exact q v F2 H' R4 s4 rv trivial
  · cases e4
end
end Ev

/-! A verified evaluator over the hand layer, part 10: and, or; what is walked. -/
namespace Ev
open PySem L2

section
variable {X : Cx} {N : List Str} {sc : Scope} {k : Nat}
def bopO (conj : Bool) : BoolOp := if conj then .And else .Or
def SBV (X : Cx) (conj : Bool) (xs : List Expr) (es : EL) : Prop := ∀ pos, ∃ t, PE X (.BoolOp (bopO conj) xs pos) t ∧ ∀ (F : Addr → Prop) (H : Hp) (σ : L2.St) (env : Nv) (b : Bool) (env' : Nv), ER X.K F H σ env → evB conj es env = some (b, env') →
  ∀ Q : VK, (∀ F' H', ER X.K F' H' σ env' → Stp (wd σ env F H) (wd σ env' F' H') → Q (.bl b) H') → t σ H Q
def SBW (X : Cx) (conj : Bool) (xs : List Expr) (es : EL) : Prop := ∀ pos, ∃ t, PW X (.BoolOp (bopO conj) xs pos) t ∧ ∀ (F : Addr → Prop) (H : Hp) (σ : L2.St) (env : Nv) (b : Bool) (env' : Nv), ER X.K F H σ env → evB conj es env = some (b, env') →
  ∀ Q : Bool → Hp → Prop, (∀ F' H', ER X.K F' H' σ env' → Stp (wd σ env F H) (wd σ env' F' H') → Q b H') → t σ H Q
theorem evC_of {e : E} {env env' : Nv} {b : Bool} (h : ev e env = some (.val (.bool b), env')) : evC false (ev e) env = some (b, env') := by
  simp only [evC, h, Bool.false_eq_true, if_false, Option.bind_eq_bind, Option.bind_some]
theorem sBV_one {conj : Bool} {e : E} {x : Expr} (h : SE X x (ev e)) : SBV X conj [x] (.cons e .nil) := by
  intro pos
  obtain ⟨t, pt, ht⟩ := h
  refine ⟨t, pe_one pt, fun F H σ env b env' R ee Q q => ?_⟩
  simp only [evB, Option.bind_eq_bind, Option.bind_eq_some_iff, Prod.exists] at ee
  obtain ⟨r, env1, e1, e2⟩ := ee
  split at e2
  · cases e2
    refine ht F H σ env _ _ R e1 _ fun v F1 H1 R1 s1 r1 _ => ?_
    rw [(Bw.rp r1).bl]
    exact q F1 H1 R1 s1
  · cases e2
theorem sBW_one {conj : Bool} {e : E} {x : Expr} (h : ST X x (evC false (ev e))) : SBW X conj [x] (.cons e .nil) := by
  intro pos
  obtain ⟨t, pt, ht⟩ := h
  have main : ∀ (F : Addr → Prop) (H : Hp) (σ : L2.St) (env : Nv) (b : Bool) (env' : Nv), ER X.K F H σ env → evB conj (.cons e .nil) env = some (b, env') →
    ∀ Q : Bool → Hp → Prop, (∀ F' H', ER X.K F' H' σ env' → Stp (wd σ env F H) (wd σ env' F' H') → Q b H') → t σ H Q := fun F H σ env b env' R ee Q q => by
    simp only [evB, Option.bind_eq_bind, Option.bind_eq_some_iff, Prod.exists] at ee
    obtain ⟨r, env1, e1, e2⟩ := ee
    split at e2
    · cases e2
      exact ht F H σ env _ _ R (evC_of e1) _ q
    · cases e2
  cases conj with
  | true => exact ⟨t, pw_and1 pt, main⟩
  | false => exact ⟨t, pw_or1 pt, main⟩
theorem evB_cons {conj : Bool} {e e2 : E} {es : EL} {env env' : Nv} {b : Bool} (h : evB conj (.cons e (.cons e2 es)) env = some (b, env')) : ∃ c env1, ev e env = some (.val (.bool c), env1) ∧ ((c = conj ∧ evB conj (.cons e2 es) env1 = some (b, env')) ∨ (c = !conj ∧ b = c ∧ env1 = env')) := by
  rw [evB] at h
  simp only [Option.bind_eq_bind, Option.bind_eq_some_iff, Prod.exists] at h
  obtain ⟨r, env1, e1, h⟩ := h
  split at h
  · rename_i c
    refine ⟨c, env1, e1, ?_⟩
    by_cases hc : c = conj
    · rw [if_pos hc] at h
      exact .inl ⟨hc, h⟩
    · rw [if_neg hc] at h
      cases h
      exact .inr ⟨by cases b <;> cases conj <;> simp at hc ⊢, rfl, rfl⟩
  · cases h
theorem sBV_cons {conj : Bool} {e e2 : E} {es : EL} {x x2 : Expr} {xs : List Expr} (h : SE X x (ev e)) (h2 : SBV X conj (x2 :: xs) (.cons e2 es)) : SBV X conj (x :: x2 :: xs) (.cons e (.cons e2 es)) := by
  intro pos
  obtain ⟨t, pt, ht⟩ := h
  obtain ⟨u, pu, hu⟩ := h2 pos
  cases conj with
  | true =>
    refine ⟨_, pe_and pt pu, fun F H σ env b env' R ee Q q => ?_⟩
    obtain ⟨c, env1, e1, h⟩ := evB_cons ee
    refine ht F H σ env _ _ R e1 _ fun v F1 H1 R1 s1 r1 _ => ?_
    refine ⟨c, (Bw.rp r1).bl, ?_⟩
    rcases h with ⟨rfl, h⟩ | ⟨rfl, rfl, rfl⟩
    · rw [if_pos rfl]
      exact hu F1 H1 σ env1 b env' R1 h Q fun F' H' R' s' => q F' H' R' (s1.trans s')
    · rw [if_neg (by decide)]
      exact q F1 H1 R1 s1
  | false =>
    refine ⟨_, pe_or pt pu, fun F H σ env b env' R ee Q q => ?_⟩
    obtain ⟨c, env1, e1, h⟩ := evB_cons ee
    refine ht F H σ env _ _ R e1 _ fun v F1 H1 R1 s1 r1 _ => ?_
    refine ⟨c, (Bw.rp r1).bl, ?_⟩
    rcases h with ⟨rfl, h⟩ | ⟨rfl, rfl, rfl⟩
    · rw [if_neg (by decide)]
      exact hu F1 H1 σ env1 b env' R1 h Q fun F' H' R' s' => q F' H' R' (s1.trans s')
    · rw [if_pos (by decide)]
      exact q F1 H1 R1 s1
theorem sBW_cons {conj : Bool} {e e2 : E} {es : EL} {x x2 : Expr} {xs : List Expr} (h : ST X x (evC false (ev e))) (h2 : SBW X conj (x2 :: xs) (.cons e2 es)) : SBW X conj (x :: x2 :: xs) (.cons e (.cons e2 es)) := by
  intro pos
  obtain ⟨t, pt, ht⟩ := h
  obtain ⟨u, pu, hu⟩ := h2 pos
  cases conj with
  | true =>
    refine ⟨_, pw_and pt pu, fun F H σ env b env' R ee Q q => ?_⟩
    obtain ⟨c, env1, e1, h⟩ := evB_cons ee
    refine ht F H σ env _ _ R (evC_of e1) _ fun F1 H1 R1 s1 => ?_
    rcases h with ⟨rfl, h⟩ | ⟨rfl, rfl, rfl⟩
    · rw [if_pos rfl]
      exact hu F1 H1 σ env1 b env' R1 h Q fun F' H' R' s' => q F' H' R' (s1.trans s')
    · rw [if_neg (by decide)]
      exact q F1 H1 R1 s1
  | false =>
    refine ⟨_, pw_or pt pu, fun F H σ env b env' R ee Q q => ?_⟩
    obtain ⟨c, env1, e1, h⟩ := evB_cons ee
    refine ht F H σ env _ _ R (evC_of e1) _ fun F1 H1 R1 s1 => ?_
    rcases h with ⟨rfl, h⟩ | ⟨rfl, rfl, rfl⟩
    · rw [if_neg (by decide)]
      exact hu F1 H1 σ env1 b env' R1 h Q fun F' H' R' s' => q F' H' R' (s1.trans s')
    · rw [if_pos (by decide)]
      exact q F1 H1 R1 s1
theorem sE_bop {conj : Bool} {es : EL} {xs : List Expr} {pos : Pos} (h : SBV X conj xs es) : SE X (.BoolOp (bopO conj) xs pos) (ev (.bop conj es)) := by
  obtain ⟨t, pt, ht⟩ := h pos
  refine ⟨t, pt, fun F H σ env res env' R e Q q => ?_⟩
  simp only [ev, Option.bind_eq_bind, Option.bind_eq_some_iff, Prod.exists] at e
  obtain ⟨b, env1, e1, e2⟩ := e
  cases e2
  exact ht F H σ env b _ R e1 Q fun F' H' R' s' => q _ F' H' R' s' (Rp.bl b) trivial
theorem sT_bop {conj : Bool} {es : EL} {xs : List Expr} {pos : Pos} (h : SBW X conj xs es) : ST X (.BoolOp (bopO conj) xs pos) (evC false fun env => ev (.bop conj es) env) := by
  obtain ⟨t, pt, ht⟩ := h pos
  refine ⟨t, pt.pt, fun F H σ env b env' R e Q q => ?_⟩
  simp only [evC, ev, Bool.false_eq_true, if_false, Option.bind_eq_bind, Option.bind_eq_some_iff, Prod.exists] at e
  obtain ⟨r, env1, ⟨c, env2, e1, e2⟩, e3⟩ := e
  cases e2
  cases e3
  exact ht F H σ env _ _ R e1 Q q
end

/-! ### lending -/
section
variable {K : PySem.W.Frag} {F F' : Addr → Prop} {H H' : Hp} {σ : L2.St} {env env' : Nv}
theorem own_lent (R : ER K F H σ env) {i : Nat} {l : List D} (e : sAt env i = .own l) : ER K F H σ (env.set i (.lent l)) ∧ Stp (wd σ env F H) (wd σ (env.set i (.lent l)) F H) := by
  have eg := sAt_get e (fun z => nomatch z)
  have back : ∀ {p : Nat}, (∃ l', (env.set i (.lent l))[p]? = some (.own l') ∨ (env.set i (.lent l))[p]? = some (.lent l')) → ∃ l', env[p]? = some (.own l') ∨ env[p]? = some (.lent l') := fun {p} ⟨l3, e5⟩ => by
    rcases e5 with e5 | e5
    · rcases set_get e5 with ⟨_, e5⟩ | ⟨_, e5⟩
      · cases e5
      · exact ⟨l3, .inl e5⟩
    · rcases set_get e5 with ⟨rfl, e5⟩ | ⟨_, e5⟩
      · exact ⟨l, .inl eg⟩
      · exact ⟨l3, .inr e5⟩
  refine ⟨⟨by rw [List.length_set]; exact R.len, fun j s h => ?_, fun j m b e2 e3 e4 e5 => R.inj j m b (back e2) e3 e4 (back e5), R.tr, R.tb⟩, fun x o h _ _ => h, fun x o h => ⟨o, h⟩, fun x o => ?_, fun x o => ?_, fun x f => f, fun x f => .inl f⟩
  · rcases set_get h with ⟨rfl, rfl⟩ | ⟨_, h⟩
    · obtain ⟨ov, e1, r⟩ := R.sl j _ eg
      refine ⟨ov, e1, ?_⟩
      cases r with
      | own h1 z r n => exact .lent h1 z r n
    · exact R.sl j s h
  · obtain ⟨j, l2, q1, q2⟩ := o
    rcases set_get q1 with ⟨_, q1⟩ | ⟨_, q1⟩
    · cases q1
    · exact .inl ⟨j, l2, q1, q2⟩
  · obtain ⟨j, l2, q1, q2⟩ := o
    rcases set_get q1 with ⟨rfl, _⟩ | ⟨_, q1⟩
    · exact .inr (.inl ⟨j, l, eg, q2⟩)
    · exact .inl ⟨j, l2, q1, q2⟩
theorem lend_ok : ∀ (ln : List Nat) {env : Nv}, ER K F H σ env → ER K F H σ (lendE env ln) ∧ Stp (wd σ env F H) (wd σ (lendE env ln) F H) ∧
    (∀ j : Nat, (∀ l, env[j]? ≠ some (Slot.own l)) → ∀ l, (lendE env ln)[j]? ≠ some (Slot.own l)) ∧ ∀ i ∈ ln, ∀ l, (lendE env ln)[i]? ≠ some (Slot.own l)
  | [], env, R => ⟨R, Stp.refl _, fun j h => h, fun i h => by simp at h⟩
  | i :: is, env, R => by
    unfold lendE
    cases hs : sAt env i with
    | own l =>
      obtain ⟨R1, s1⟩ := own_lent R hs
      obtain ⟨R2, s2, k2, h2⟩ := lend_ok is R1
      refine ⟨R2, s1.trans s2, fun j hj => k2 j fun l2 z => ?_, fun j hj => ?_⟩
      · rcases set_get z with ⟨_, z⟩ | ⟨_, z⟩
        · cases z
        · exact hj _ z
      · rcases List.mem_cons.mp hj with rfl | hj
        · exact k2 j fun l2 z => by
            rcases set_get z with ⟨_, z⟩ | ⟨h, z⟩
            · cases z
            · exact h rfl
        · exact h2 j hj
    | _ =>
      obtain ⟨R2, s2, k2, h2⟩ := lend_ok is R
      refine ⟨R2, s2, k2, fun j hj => ?_⟩
      rcases List.mem_cons.mp hj with rfl | hj
      · exact k2 j fun l2 z => by rw [sAt_some z] at hs; cases hs
      · exact h2 j hj
theorem lent_own (R : ER K F H σ env) {i : Nat} {l : List D} (e : sAt env i = .lent l) : ER K F H σ (env.set i (.own l)) ∧ (∀ x, OwnA σ (env.set i (.own l)) x → OwnA σ env x ∨ σ[i]? = some (some (.ref x))) ∧ ∀ x, LenA σ (env.set i (.own l)) x → LenA σ env x := by
  have eg := sAt_get e (fun z => nomatch z)
  have back : ∀ {p : Nat}, (∃ l', (env.set i (.own l))[p]? = some (.own l') ∨ (env.set i (.own l))[p]? = some (.lent l')) → ∃ l', env[p]? = some (.own l') ∨ env[p]? = some (.lent l') := fun {p} ⟨l3, e5⟩ => by
    rcases e5 with e5 | e5
    · rcases set_get e5 with ⟨rfl, e5⟩ | ⟨_, e5⟩
      · exact ⟨l, .inr eg⟩
      · exact ⟨l3, .inl e5⟩
    · rcases set_get e5 with ⟨_, e5⟩ | ⟨_, e5⟩
      · cases e5
      · exact ⟨l3, .inr e5⟩
  refine ⟨⟨by rw [List.length_set]; exact R.len, fun j s h => ?_, fun j m b e2 e3 e4 e5 => R.inj j m b (back e2) e3 e4 (back e5), R.tr, R.tb⟩, fun x o => ?_, fun x o => ?_⟩
  · rcases set_get h with ⟨rfl, rfl⟩ | ⟨_, h⟩
    · obtain ⟨ov, e1, r⟩ := R.sl j _ eg
      refine ⟨ov, e1, ?_⟩
      cases r with
      | lent h1 z r n => exact .own h1 z r n
    · exact R.sl j s h
  · obtain ⟨j, l2, q1, q2⟩ := o
    rcases set_get q1 with ⟨rfl, q1⟩ | ⟨_, q1⟩
    · exact .inr q2
    · exact .inl ⟨j, l2, q1, q2⟩
  · obtain ⟨j, l2, q1, q2⟩ := o
    rcases set_get q1 with ⟨_, q1⟩ | ⟨_, q1⟩
    · cases q1
    · exact ⟨j, l2, q1, q2⟩
theorem unlend_ok : ∀ (ln : List Nat) {env : Nv}, ER K F H σ env → ER K F H σ (unlendE env ln) ∧ (∀ x, OwnA σ (unlendE env ln) x → OwnA σ env x ∨ ∃ i ∈ ln, σ[i]? = some (some (.ref x))) ∧ (∀ x, LenA σ (unlendE env ln) x → LenA σ env x) ∧
    ∀ x, OwnA σ (unlendE env ln) x ∨ LenA σ (unlendE env ln) x → OwnA σ env x ∨ LenA σ env x
  | [], env, R => ⟨R, fun x h => .inl h, fun x h => h, fun x h => h⟩
  | i :: is, env, R => by
    unfold unlendE
    cases hs : sAt env i with
    | lent l =>
      obtain ⟨R1, o1, l1⟩ := lent_own R hs
      obtain ⟨R2, o2, l2, k2⟩ := unlend_ok is R1
      have eg := sAt_get hs (fun z => nomatch z)
      refine ⟨R2, fun x h => ?_, fun x h => l1 x (l2 x h), fun x h => ?_⟩
      · rcases o2 x h with h | ⟨j, hj, h⟩
        · rcases o1 x h with h | h
          · exact .inl h
          · exact .inr ⟨i, List.mem_cons_self, h⟩
        · exact .inr ⟨j, List.mem_cons_of_mem _ hj, h⟩
      · rcases k2 x h with h | h
        · rcases o1 x h with h | h
          · exact .inl h
          · exact .inr ⟨i, l, eg, h⟩
        · exact .inr (l1 x h)
    | _ =>
      obtain ⟨R2, o2, l2, k2⟩ := unlend_ok is R
      refine ⟨R2, fun x h => ?_, l2, k2⟩
      rcases o2 x h with h | ⟨j, hj, h⟩
      · exact .inl h
      · exact .inr ⟨j, List.mem_cons_of_mem _ hj, h⟩
theorem lend1_own {env : Nv} {r : Res} {i : Nat} (h : i ∈ lend1 env r) : r = .pl i ∧ ∃ l, env[i]? = some (.own l) := by
  cases r with
  | val _ => simp [lend1] at h
  | fr _ => simp [lend1] at h
  | pl j =>
    have h : i ∈ (match sAt env j with | .own _ => [j] | _ => []) := h
    cases e : sAt env j with
    | own l =>
      rw [e] at h
      have : i = j := by simpa using h
      subst this
      exact ⟨rfl, l, sAt_get e (fun z => nomatch z)⟩
    | _ => rw [e] at h; cases h
theorem RR.unlend {r : Res} {v : V} {ln : List Nat} (R : ER K F H σ env) (h : RR K F H σ env r v) : RR K F H σ (unlendE env ln) r v := by
  cases r with
  | val d => exact h
  | pl i => exact h
  | fr l =>
    obtain ⟨a, xs, e, h1, z, r, n1, n2, n3⟩ := h
    obtain ⟨_, _, _, k⟩ := unlend_ok ln R
    refine ⟨a, xs, e, h1, z, r, n1, fun q => ?_, fun q => ?_⟩
    · rcases k a (.inl q) with q | q
      · exact n2 q
      · exact n3 q
    · rcases k a (.inr q) with q | q
      · exact n2 q
      · exact n3 q
theorem back_stp {σ' : L2.St} {ln : List Nat} {w0 : Wd} (s0 : Stp w0 (wd σ env F H)) (ho : ∀ i ∈ ln, ∃ l, env[i]? = some (.own l)) (hσ : ∀ i ∈ ln, σ'[i]? = σ[i]?) (s : Stp w0 (wd σ' env' F' H')) (R : ER K F' H' σ' env') : Stp w0 (wd σ' (unlendE env' ln) F' H') := by
  obtain ⟨R2, o2, l2, _⟩ := unlend_ok ln R
  refine ⟨s.k, s.t, fun x h => ?_, fun x h => s.l x (l2 x h), s.f, s.g⟩
  rcases o2 x h with h | ⟨i, hi, h⟩
  · exact s.o x h
  · obtain ⟨l, e⟩ := ho i hi
    rw [hσ i hi] at h
    exact s0.o x ⟨i, l, e, h⟩
end

/-! ### what is walked -/
structure Wk (K : PySem.W.Frag) (J : It) (its : List D) (w : Wd) : Prop where
  go : ∀ w', Stp w w' → ∀ i, i < its.length → J.go i w'.H
  stop : ∀ w', Stp w w' → ∀ i, its.length ≤ i → i ≤ its.length → J.stop i w'.H
  yld : ∀ w', Stp w w' → ∀ i x H', J.yld i w'.H x H' → ∀ d, its[i]? = some d → Same w'.H H' ∧ Rp K w'.F H' x d
section
variable {K : PySem.W.Frag} {w w' : Wd}
theorem Stp.sqL (s : Stp w w') (ok : w.Ok) {p : Addr} {xs : List V} (n : ¬ w.O p) (h : SqL K w.H p xs) : SqL K w'.H p xs := by
  rcases h with (h | ⟨o, h⟩) | h
  · exact .inl (.inl (s.k p _ h n nt_lst))
  · exact .inl (.inr ⟨o, s.k p _ h n fun _ z => nomatch z⟩)
  · exact .inr h
theorem wk_list {a : Addr} {xs : List V} {l : List D} (ok : w.Ok) (h : ∀ w', Stp w w' → SqL K w'.H a xs) (r : RpL K w.F w.H xs l) : Wk K (Itl K a) l w where
  go := fun w' s i hi => ⟨xs, xs[i]'(by rw [r.length]; exact hi), h w' s, List.getElem?_eq_getElem _⟩
  stop := fun w' s i hi _ => ⟨xs, h w' s, by rw [r.length]; exact hi⟩
  yld := fun w' s i x H' y d hd => by
    obtain ⟨rfl, y⟩ := y
    have hx := y xs (h w' s)
    obtain ⟨d', e1, rp⟩ := (RpL.mono s ok r).getV hx
    rw [hd] at e1; cases e1
    exact ⟨Same.refl _, rp⟩
theorem wk_tup {a : Addr} {xs : List V} {l : List D} (ok : w.Ok) (h : SqT K w.H a xs) (r : RpL K w.F w.H xs l) : Wk K (Itt K a) l w where
  go := fun w' s i hi => ⟨xs, xs[i]'(by rw [r.length]; exact hi), s.sqT ok h, List.getElem?_eq_getElem _⟩
  stop := fun w' s i hi _ => ⟨xs, s.sqT ok h, by rw [r.length]; exact hi⟩
  yld := fun w' s i x H' y d hd => by
    obtain ⟨rfl, y⟩ := y
    have hx := y xs (s.sqT ok h)
    obtain ⟨d', e1, rp⟩ := (RpL.mono s ok r).getV hx
    rw [hd] at e1; cases e1
    exact ⟨Same.refl _, rp⟩
theorem wk_rng {lo : Int} {n : Nat} : Wk K (Itr lo n) ((List.range n).map fun (i : Nat) => .int (lo + (i : Int))) w where
  go := fun w' s i hi => by rw [List.length_map, List.length_range] at hi; exact hi
  stop := fun w' s i hi _ => by rw [List.length_map, List.length_range] at hi; exact hi
  yld := fun w' s i x H' y d hd => by
    obtain ⟨rfl, rfl⟩ := y
    rw [List.getElem?_map] at hd
    cases e : (List.range n)[i]? with
    | none => rw [e] at hd; cases hd
    | some j =>
      rw [e] at hd
      cases hd
      have : j = i := by
        obtain ⟨h, q⟩ := List.getElem?_eq_some_iff.mp e
        rw [List.getElem_range] at q
        exact q.symm
      subst this
      exact ⟨Same.refl _, .int _⟩
theorem get_rev {α : Type} {l : List α} {i : Nat} (h : i < l.length) : l.reverse[i]? = l[l.length - 1 - i]? := by
  rw [List.getElem?_reverse h]
theorem wk_rev {a : Addr} {xs : List V} {l : List D} (ok : w.Ok) (h : ∀ w', Stp w w' → SqL K w'.H a xs) (r : RpL K w.F w.H xs l) : Wk K (Itv K a xs.length) l.reverse w where
  go := fun w' s i hi => by
    rw [List.length_reverse, ← r.length] at hi
    exact ⟨hi, xs, xs[xs.length - 1 - i]'(by omega), h w' s, List.getElem?_eq_getElem _⟩
  stop := fun w' s i hi _ => by
    rw [List.length_reverse, ← r.length] at hi
    exact hi
  yld := fun w' s i x H' y d hd => by
    obtain ⟨rfl, y⟩ := y
    have hx := y xs (h w' s)
    obtain ⟨d', e1, rp⟩ := (RpL.mono s ok r).getV hx
    have hi : i < l.length := by
      have := (List.getElem?_eq_some_iff.mp hd).1
      rwa [List.length_reverse] at this
    rw [get_rev hi, ← r.length, e1] at hd; cases hd
    exact ⟨Same.refl _, rp⟩
theorem wk_revT {a : Addr} {xs : List V} {l : List D} (ok : w.Ok) (h : SqT K w.H a xs) (r : RpL K w.F w.H xs l) : Wk K (RT.ItvT K a xs.length) l.reverse w where
  go := fun w' s i hi => by
    rw [List.length_reverse, ← r.length] at hi
    exact ⟨hi, xs, xs[xs.length - 1 - i]'(by omega), s.sqT ok h, List.getElem?_eq_getElem _⟩
  stop := fun w' s i hi _ => by
    rw [List.length_reverse, ← r.length] at hi
    exact hi
  yld := fun w' s i x H' y d hd => by
    obtain ⟨rfl, y⟩ := y
    have hx := y xs (s.sqT ok h)
    obtain ⟨d', e1, rp⟩ := (RpL.mono s ok r).getV hx
    have hi : i < l.length := by
      have := (List.getElem?_eq_some_iff.mp hd).1
      rwa [List.length_reverse] at this
    rw [get_rev hi, ← r.length, e1] at hd; cases hd
    exact ⟨Same.refl _, rp⟩
theorem enumL_length : ∀ (n : Nat) (l : List D), (enumL n l).length = l.length
  | _, [] => rfl
  | n, d :: r => by rw [enumL, List.length_cons, List.length_cons, enumL_length]
theorem enumL_get : ∀ (n : Nat) (l : List D) (i : Nat), (enumL n l)[i]? = (l[i]?).map fun d => .tuple [.int ((n + i : Nat) : Int), d]
  | _, [], _ => by simp [enumL]
  | n, d :: r, 0 => by simp [enumL]
  | n, d :: r, i + 1 => by
    simp only [enumL, List.getElem?_cons_succ]
    rw [enumL_get (n + 1) r i, show n + 1 + i = n + (i + 1) from by omega]
theorem wk_enum {u : Kd} {a : Addr} {xs : List V} {l : List D} (ok : w.Ok) (h : ∀ w', Stp w w' → SqK K u w'.H a xs) (r : RpL K w.F w.H xs l) : Wk K (IteK K u a) (enumL 0 l) w where
  go := fun w' s i hi => ⟨xs, xs[i]'(by rw [r.length]; rw [enumL_length] at hi; exact hi), h w' s, List.getElem?_eq_getElem _⟩
  stop := fun w' s i hi _ => ⟨xs, h w' s, by rw [r.length]; rw [enumL_length] at hi; exact hi⟩
  yld := fun w' s i x H' y d hd => by
    obtain ⟨T, y0, rfl, hT, rfl, y⟩ := y
    have hx := y xs (h w' s)
    obtain ⟨d', e1, rp⟩ := (RpL.mono s ok r).getV hx
    rw [enumL_get, e1] at hd
    cases hd
    have sm : Same w'.H (upd w'.H T (.tup [.int (i : Nat), y0])) := same_upd hT
    refine ⟨sm, .tup (.of upd_same) (by rw [sizeLine_eq]; simp) (.cons ?_ (.cons (Rp.same sm rp) .nil))⟩
    rw [Nat.zero_add]
    exact .int _
theorem zipL_length : ∀ (l m : List D), (zipL l m).length = min l.length m.length
  | [], m => by cases m <;> simp [zipL]
  | a :: r, [] => by simp [zipL]
  | a :: r, b :: s => by simp only [zipL, List.length_cons, zipL_length r s]; omega
theorem zipL_get : ∀ (l m : List D) (i : Nat) (d : D), (zipL l m)[i]? = some d → ∃ x y, l[i]? = some x ∧ m[i]? = some y ∧ d = .tuple [x, y]
  | [], m, i, d, h => by cases m <;> simp [zipL] at h
  | a :: r, [], i, d, h => by simp [zipL] at h
  | a :: r, b :: s, 0, d, h => by simp [zipL] at h; exact ⟨a, b, rfl, rfl, h.symm⟩
  | a :: r, b :: s, i + 1, d, h => by
    simp only [zipL, List.getElem?_cons_succ] at h
    obtain ⟨x, y, h1, h2, h3⟩ := zipL_get r s i d h
    exact ⟨x, y, by simpa using h1, by simpa using h2, h3⟩
theorem wk_zip {u v : Kd} {a b : Addr} {xs ys : List V} {l m : List D} (ok : w.Ok) (h : ∀ w', Stp w w' → SqK K u w'.H a xs) (h2 : ∀ w', Stp w w' → SqK K v w'.H b ys) (r : RpL K w.F w.H xs l) (r2 : RpL K w.F w.H ys m) : Wk K (ItzK K u v a b) (zipL l m) w where
  go := fun w' s i hi => by
    rw [zipL_length] at hi
    exact ⟨xs, ys, xs[i]'(by rw [r.length]; omega), ys[i]'(by rw [r2.length]; omega), h w' s, h2 w' s, List.getElem?_eq_getElem _, List.getElem?_eq_getElem _⟩
  stop := fun w' s i hi _ => ⟨xs, ys, h w' s, h2 w' s, by rw [zipL_length] at hi; rw [r.length, r2.length]; omega⟩
  yld := fun w' s i x H' y d hd => by
    obtain ⟨T, x0, y0, rfl, hT, rfl, f1, f2⟩ := y
    obtain ⟨d1, e1, rp1⟩ := (RpL.mono s ok r).getV (f1 xs (h w' s))
    obtain ⟨d2, e2, rp2⟩ := (RpL.mono s ok r2).getV (f2 ys (h2 w' s))
    obtain ⟨u1, u2, q1, q2, rfl⟩ := zipL_get l m i d hd
    rw [e1] at q1; cases q1
    rw [e2] at q2; cases q2
    have sm : Same w'.H (upd w'.H T (.tup [x0, y0])) := same_upd hT
    exact ⟨sm, .tup (.of upd_same) (by rw [sizeLine_eq]; simp) (.cons (Rp.same sm rp1) (.cons (Rp.same sm rp2) .nil))⟩
theorem zipL3_length : ∀ (l m n : List D), (zipL3 l m n).length = min l.length (min m.length n.length)
  | [], m, n => by simp [zipL3]
  | a :: r, [], n => by simp [zipL3]
  | a :: r, b :: s, [] => by simp [zipL3]
  | a :: r, b :: s, c :: t => by simp only [zipL3, List.length_cons, zipL3_length r s t]; omega
theorem zipL3_get : ∀ (l m n : List D) (i : Nat) (d : D), (zipL3 l m n)[i]? = some d → ∃ x y z, l[i]? = some x ∧ m[i]? = some y ∧ n[i]? = some z ∧ d = .tuple [x, y, z]
  | [], m, n, i, d, h => by simp [zipL3] at h
  | a :: r, [], n, i, d, h => by simp [zipL3] at h
  | a :: r, b :: s, [], i, d, h => by simp [zipL3] at h
  | a :: r, b :: s, c :: t, 0, d, h => by simp [zipL3] at h; exact ⟨a, b, c, rfl, rfl, rfl, h.symm⟩
  | a :: r, b :: s, c :: t, i + 1, d, h => by
    simp only [zipL3, List.getElem?_cons_succ] at h
    obtain ⟨x, y, z, h1, h2, h3, h4⟩ := zipL3_get r s t i d h
    exact ⟨x, y, z, by simpa using h1, by simpa using h2, by simpa using h3, h4⟩
theorem wk_zip3 {u v t : Kd} {a b c : Addr} {xs ys zs : List V} {l m n : List D} (ok : w.Ok) (h : ∀ w', Stp w w' → SqK K u w'.H a xs) (h2 : ∀ w', Stp w w' → SqK K v w'.H b ys) (h3 : ∀ w', Stp w w' → SqK K t w'.H c zs)
    (r : RpL K w.F w.H xs l) (r2 : RpL K w.F w.H ys m) (r3 : RpL K w.F w.H zs n) : Wk K (Itz3 K u v t a b c) (zipL3 l m n) w where
  go := fun w' s i hi => by
    rw [zipL3_length] at hi
    exact ⟨xs, ys, zs, xs[i]'(by rw [r.length]; omega), ys[i]'(by rw [r2.length]; omega), zs[i]'(by rw [r3.length]; omega), h w' s, h2 w' s, h3 w' s, List.getElem?_eq_getElem _, List.getElem?_eq_getElem _, List.getElem?_eq_getElem _⟩
  stop := fun w' s i hi hj => by
    rw [zipL3_length] at hi hj
    exact ⟨xs, ys, zs, h w' s, h2 w' s, h3 w' s, by rw [r.length]; omega, by rw [r2.length]; omega, by rw [r3.length]; omega, by rw [r.length, r2.length, r3.length]; omega⟩
  yld := fun w' s i x H' y d hd => by
    obtain ⟨T, x0, y0, z0, rfl, hT, rfl, f1, f2, f3⟩ := y
    obtain ⟨d1, e1, rp1⟩ := (RpL.mono s ok r).getV (f1 xs (h w' s))
    obtain ⟨d2, e2, rp2⟩ := (RpL.mono s ok r2).getV (f2 ys (h2 w' s))
    obtain ⟨d3, e3, rp3⟩ := (RpL.mono s ok r3).getV (f3 zs (h3 w' s))
    obtain ⟨u1, u2, u3, q1, q2, q3, rfl⟩ := zipL3_get l m n i d hd
    rw [e1] at q1; cases q1
    rw [e2] at q2; cases q2
    rw [e3] at q3; cases q3
    have sm : Same w'.H (upd w'.H T (.tup [x0, y0, z0])) := same_upd hT
    exact ⟨sm, .tup (.of upd_same) (by rw [sizeLine_eq]; simp) (.cons (Rp.same sm rp1) (.cons (Rp.same sm rp2) (.cons (Rp.same sm rp3) .nil)))⟩
end
end Ev

/-! A verified evaluator over the hand layer, part 11: iterators, targets, comprehensions. -/
namespace Ev
open PySem PySem.Spec PyProof.Rows L2

section
variable {X : Cx} {tg : Expr}
def iAny (K : PySem.W.Frag) (tl : TE) : TI := fun σ H R => tl σ H fun x H1 => (∃ a, x = .ref a ∧ (∃ xs, SqL K H1 a xs) ∧ R (Itl K a) H1) ∨ ∃ a, x = .ref a ∧ (∃ xs, SqT K H1 a xs) ∧ R (Itt K a) H1
theorem pi_any {l : Expr} {tl : TE} (hl : PE X l tl) : PI X tg l (iAny X.K tl) := by
  refine ⟨fun pins s σ H R I h => ?_⟩
  refine thn (hl.run pins s σ H _ I h) fun v s1 ⟨x, H1, I1, r1, q1⟩ => ?_
  rcases q1 with ⟨a, e, ⟨xs, hq⟩, q⟩ | ⟨a, e, ⟨xs, hq⟩, q⟩
  · subst e
    cases r1
    obtain ⟨its, rv, p, hz⟩ := I1.list hq
    refine wpAny_pyIter_list p.isList ?_
    refine ⟨s1.heap.objs.size, [s1.heap.objs.size], _, _, H1, rfl, I1.kept (t' := s1.toks) fun b o e => Heap.get?_push_of_some _ e, turn_list a _, ⟨_, Heap.get?_push_size _ rfl, rfl, rfl⟩, fun b hb => ?_, q⟩
    have e : b = s1.heap.objs.size := by simpa using hb
    subst e
    exact I1.fpOk (Nat.le_refl _) (I1.hok.fresh (Nat.le_refl _))
  · subst e
    cases r1
    obtain ⟨its, rv, p, hz⟩ := I1.tuple hq
    refine wpAny_pyIter_tuple (show s1.heap.IsTuple a its.toArray from p) ?_
    refine ⟨s1.heap.objs.size, [s1.heap.objs.size], _, _, H1, rfl, I1.kept (t' := s1.toks) fun b o e => Heap.get?_push_of_some _ e, turn_tuple a _, ⟨_, Heap.get?_push_size _ rfl, rfl, rfl⟩, fun b hb => ?_, q⟩
    have e : b = s1.heap.objs.size := by simpa using hb
    subst e
    exact I1.fpOk (Nat.le_refl _) (I1.hok.fresh (Nat.le_refl _))
end

section
variable {X : Cx} {N : List Str} {sc : Scope} {k : Nat}
def lends (env : Nv) (ra rb : Res) : List Nat := lend1 env ra ++ lend1 env rb
abbrev SIt (X : Cx) (ik : IK) (fa fb : Nv → Option (Res × Nv)) (wi : TI) : Prop := ∀ (F : Addr → Prop) (H : Hp) (σ : L2.St) (env : Nv) (ra : Res) (env1 : Nv) (rb : Res) (env2 : Nv) (d1 d2 : D) (its : List D), ER X.K F H σ env → fa env = some (ra, env1) → evD ik fb env1 = some (rb, env2) →
  rd env2 ra = some d1 → rd env2 rb = some d2 → iterV ik d1 d2 = some its →
  ∀ R : It → Hp → Prop, (∀ J F' H', ER X.K F' H' σ env2 → Stp (wd σ env F H) (wd σ env2 F' H') → Wk X.K J its (wd σ (lendE env2 (lends env2 ra rb)) F' H') → R J H') → wi σ H R
def SI (X : Cx) (tg it : Expr) (ik : IK) (fa fb : Nv → Option (Res × Nv)) : Prop := ∃ wi : TI, PI X tg it wi ∧ SIt X ik fa fb wi
theorem src_l {K : PySem.W.Frag} {F : Addr → Prop} {H : Hp} {σ : L2.St} {env : Nv} {r : Res} {v : V} {l : List D} {ln : List Nat} (R : ER K F H σ env) (h : RR K F H σ env r v) (e : rd env r = some (.list l)) (hln : ∀ i ∈ lend1 env r, i ∈ ln) :
    ∃ a xs, v = .ref a ∧ RpL K F H xs l ∧ (∀ w', Stp (wd σ (lendE env ln) F H) w' → SqL K w'.H a xs) := by
  obtain ⟨RL, sL, kL, nL⟩ := lend_ok ln R
  have ok := RL.ok
  have use : ∀ a xs, H a = some (.lst xs) → ¬ OwnA σ (lendE env ln) a → ∀ w', Stp (wd σ (lendE env ln) F H) w' → SqL K w'.H a xs := fun a xs h1 n w' s => s.sqL ok n (.of h1)
  cases r with
  | val d =>
    cases e
    cases h with
    | lst f h1 z r => exact ⟨_, _, rfl, r, use _ _ h1 (ok.fo _ f)⟩
    | cst h1 z r => exact ⟨_, _, rfl, r, fun w' s => (s.cst ok h1).sq⟩
  | fr m =>
    cases e
    obtain ⟨a, xs, rfl, h1, z, r, n1, n2, n3⟩ := h
    refine ⟨a, xs, rfl, r, use a xs h1 fun q => ?_⟩
    rcases sL.o a q with q | q
    · exact n2 q
    · have q : H a = none := q
      rw [h1] at q; cases q
  | pl i =>
    have h : σ[i]? = some (some v) := h
    have e : (sAt env i).get = some (.list l) := e
    cases q : sAt env i with
    | un => rw [q] at e; cases e
    | val c =>
      rw [q] at e
      cases e
      obtain ⟨v', e1, r⟩ := R.val q
      rw [h] at e1; cases e1
      cases r with
      | lst f h1 z r => exact ⟨_, _, rfl, r, use _ _ h1 (ok.fo _ f)⟩
      | cst h1 z r => exact ⟨_, _, rfl, r, fun w' s => (s.cst ok h1).sq⟩
    | own m =>
      rw [q] at e
      cases e
      obtain ⟨a, xs, e1, h1, z, r, nf, oa⟩ := R.own q
      rw [h] at e1; cases e1
      refine ⟨a, xs, rfl, r, use a xs h1 fun ⟨j, l2, q1, q2⟩ => ?_⟩
      have hi : i ∈ ln := hln i (by show i ∈ (match sAt env i with | .own _ => [i] | _ => []); rw [q]; exact List.mem_singleton.mpr rfl)
      have ej : env[j]? = some (.own l2) := by
        cases ej : env[j]? with
        | none => exact absurd q1 (kL j (fun l z => by rw [ej] at z; cases z) l2)
        | some s =>
          have all : ∀ (l : List D), env[j]? = some (.own l) → j ∉ ln := fun l z hj => nL j hj l2 q1
          by_cases hs : ∃ l, s = .own l
          · obtain ⟨l, rfl⟩ := hs
            exact absurd hi (fun _ => by
              have := R.inj i j a ⟨_, .inl (sAt_get q (fun z => nomatch z))⟩ h q2 ⟨_, .inl ej⟩
              subst this
              exact all l ej hi)
          · exact absurd q1 (kL j (fun l z => by rw [ej] at z; exact hs ⟨l, Option.some.inj z⟩) l2)
      have := R.inj i j a ⟨_, .inl (sAt_get q (fun z => nomatch z))⟩ h q2 ⟨_, .inl ej⟩
      subst this
      exact nL i hi l2 q1
    | lent m =>
      rw [q] at e
      cases e
      obtain ⟨a, xs, e1, h1, z, r, nf, oa⟩ := R.lent q
      rw [h] at e1; cases e1
      refine ⟨a, xs, rfl, r, use a xs h1 fun w => ?_⟩
      rcases sL.o a w with w | w
      · exact R.ok.lo a oa w
      · have w : H a = none := w
        rw [h1] at w; cases w
theorem src_t {K : PySem.W.Frag} {F : Addr → Prop} {H : Hp} {σ : L2.St} {env : Nv} {r : Res} {v : V} {l : List D} (R : ER K F H σ env) (h : RR K F H σ env r v) (e : rd env r = some (.tuple l)) :
    ∃ a xs, v = .ref a ∧ RpL K F H xs l ∧ SqT K H a xs := by
  obtain ⟨a, xs, q1, q2, _, q3⟩ := (RR.bw R h e).tup
  exact ⟨a, xs, q1, q3, q2⟩
theorem evD_val {fb : Nv → Option (Res × Nv)} {ik : IK} {env env' : Nv} {r : Res} (h1 : ik ≠ .r2) (h2 : ik ≠ .zip) (e : evD ik fb env = some (r, env')) : r = .val .none ∧ env' = env := by
  cases ik with
  | r2 => exact absurd rfl h1
  | zip => exact absurd rfl h2
  | _ => cases e; exact ⟨rfl, rfl⟩
theorem sI_seq {t it : Expr} {fa fb : Nv → Option (Res × Nv)} (ha : SE X it fa) : SI X t it .seq fa fb := by
  obtain ⟨ta, pa, ha⟩ := ha
  refine ⟨_, pi_any pa, fun F H σ env ra env1 rb env2 d1 d2 its R e1 e2 e3 e4 e5 Q q => ?_⟩
  obtain ⟨rfl, rfl⟩ := evD_val (ik := .seq) (fun z => nomatch z) (fun z => nomatch z) e2
  refine ha F H σ env _ _ R e1 _ fun v F1 H1 R1 s1 r1 _ => ?_
  obtain ⟨RL, sL, _⟩ := lend_ok (lends env2 ra (.val .none)) R1
  cases d1 <;> simp only [iterV, items, reduceCtorEq] at e5
  · cases e5
    obtain ⟨a, xs, rfl, rl, st⟩ := src_l (ln := lends env2 ra (.val .none)) R1 r1 e3 (fun i hi => List.mem_append_left _ hi)
    exact .inl ⟨a, rfl, ⟨xs, st _ (Stp.refl _)⟩, q _ F1 H1 R1 s1 (wk_list RL.ok st rl)⟩
  · cases e5
    obtain ⟨a, xs, rfl, rl, st⟩ := src_t R1 r1 e3
    exact .inr ⟨a, rfl, ⟨xs, st⟩, q _ F1 H1 R1 s1 (wk_tup RL.ok st rl)⟩
theorem sI_rev (g : Gd X N sc k) {t y : Expr} {x : Str} {p pos : Pos} {fa fb : Nv → Option (Res × Nv)} (hx : blB sc x "reversed" = true) (hm : X.mg "reversed" = none) (ha : SE X y fa) (hs : noStar y = true) : SI X t (.Call (.Name x p) [y] [] pos) .rev fa fb := by
  obtain ⟨rfl, hg⟩ := bl_ok g.z hx
  obtain ⟨ta, pa, ha⟩ := ha
  refine ⟨_, RT.pi_revA hg hm pa (starE hs), fun F H σ env ra env1 rb env2 d1 d2 its R e1 e2 e3 e4 e5 Q q => ?_⟩
  obtain ⟨rfl, rfl⟩ := evD_val (ik := .rev) (fun z => nomatch z) (fun z => nomatch z) e2
  refine ha F H σ env _ _ R e1 _ fun v F1 H1 R1 s1 r1 _ => ?_
  obtain ⟨RL, sL, _⟩ := lend_ok (lends env2 ra (.val .none)) R1
  cases d1 <;> simp only [iterV, reduceCtorEq] at e5
  · cases e5
    obtain ⟨a, xs, rfl, rl, st⟩ := src_l (ln := lends env2 ra (.val .none)) R1 r1 e3 (fun i hi => List.mem_append_left _ hi)
    exact ⟨a, xs, rfl, .inl ⟨st _ (Stp.refl _), q _ F1 H1 R1 s1 (wk_rev RL.ok st rl)⟩⟩
  · cases e5
    obtain ⟨a, xs, rfl, rl, st⟩ := src_t R1 r1 e3
    exact ⟨a, xs, rfl, .inr ⟨st, q _ F1 H1 R1 s1 (wk_revT RL.ok st rl)⟩⟩
theorem sI_r1 (g : Gd X N sc k) {t y : Expr} {x : Str} {p pos : Pos} {fa fb : Nv → Option (Res × Nv)} (hx : blB sc x "range" = true) (hm : X.mg "range" = none) (ha : SE X y fa) (hs : noStar y = true) : SI X t (.Call (.Name x p) [y] [] pos) .r1 fa fb := by
  obtain ⟨rfl, hg⟩ := bl_ok g.z hx
  obtain ⟨ta, pa, ha⟩ := ha
  refine ⟨_, pi_range1 hg hm (pa_cons pa pa_nil (starE hs)) (starE hs), fun F H σ env ra env1 rb env2 d1 d2 its R e1 e2 e3 e4 e5 Q q => ?_⟩
  obtain ⟨rfl, rfl⟩ := evD_val (ik := .r1) (fun z => nomatch z) (fun z => nomatch z) e2
  refine ha F H σ env _ _ R e1 _ fun v F1 H1 R1 s1 r1 _ => ?_
  cases d1 <;> simp only [iterV, reduceCtorEq] at e5
  split at e5
  · rename_i n hn
    cases e5
    refine ⟨n, by rw [(RR.bw R1 r1 e3).int], by omega, by omega, q _ F1 H1 R1 s1 ?_⟩
    have : rngL 0 n = (List.range n.toNat).map fun (i : Nat) => PyData.int (0 + (i : Int)) := by unfold rngL; rw [Int.sub_zero]
    rw [this]
    exact wk_rng
  · cases e5
theorem sI_r2 (g : Gd X N sc k) {t y z : Expr} {x : Str} {p pos : Pos} {fa fb : Nv → Option (Res × Nv)} (hx : blB sc x "range" = true) (hm : X.mg "range" = none) (ha : SE X y fa) (hb : SE X z fb) (hs : noStar y = true) (hs2 : noStar z = true) :
    SI X t (.Call (.Name x p) [y, z] [] pos) .r2 fa fb := by
  obtain ⟨rfl, hg⟩ := bl_ok g.z hx
  obtain ⟨ta, pa, ha⟩ := ha
  obtain ⟨tb, pb, hb⟩ := hb
  refine ⟨_, pi_range2 hg hm (pa_cons pa (pa_cons pb pa_nil (starE hs2)) (starE hs)) (by rw [starE hs, starE hs2]; rfl) (starE hs2), fun F H σ env ra env1 rb env2 d1 d2 its R e1 e2 e3 e4 e5 Q q => ?_⟩
  refine two (l := y) (m := z) ha hb R e1 (show fb env1 = some (rb, env2) from e2) fun u v F1 H1 R1 s1 r1 r2 _ _ => ?_
  cases d1 <;> cases d2 <;> simp only [iterV, reduceCtorEq] at e5
  split at e5
  · rename_i m n hn
    cases e5
    exact ⟨m, n, by rw [(RR.bw R1 r1 e3).int, (RR.bw R1 r2 e4).int], by omega, q _ F1 H1 R1 s1 wk_rng⟩
  · cases e5
theorem sI_enum (g : Gd X N sc k) {es : List Expr} {kk : Nat} {tp : Pos} {y : Expr} {x : Str} {p pos : Pos} {fa fb : Nv → Option (Res × Nv)} (hx : blB sc x "enumerate" = true) (hm : X.mg "enumerate" = none) (ha : SE X y fa) (hs : noStar y = true) :
    SI X (.Tuple es kk tp) (.Call (.Name x p) [y] [] pos) .enum fa fb := by
  obtain ⟨rfl, hg⟩ := bl_ok g.z hx
  obtain ⟨ta, pa, ha⟩ := ha
  refine ⟨_, pi_enumK hg hm (pa_cons pa pa_nil (starE hs)) (starE hs), fun F H σ env ra env1 rb env2 d1 d2 its R e1 e2 e3 e4 e5 Q q => ?_⟩
  obtain ⟨rfl, rfl⟩ := evD_val (ik := .enum) (fun z => nomatch z) (fun z => nomatch z) e2
  refine ha F H σ env _ _ R e1 _ fun v F1 H1 R1 s1 r1 _ => ?_
  obtain ⟨RL, sL, _⟩ := lend_ok (lends env2 ra (.val .none)) R1
  cases d1 <;> simp only [iterV, reduceCtorEq] at e5
  · cases e5
    obtain ⟨a, xs, rfl, rl, st⟩ := src_l (ln := lends env2 ra (.val .none)) R1 r1 e3 (fun i hi => List.mem_append_left _ hi)
    exact ⟨.l, a, xs, rfl, st _ (Stp.refl _), q _ F1 H1 R1 s1 (wk_enum (u := .l) RL.ok st rl)⟩
  · cases e5
    obtain ⟨a, xs, rfl, rl, st⟩ := src_t R1 r1 e3
    exact ⟨.t, a, xs, rfl, st, q _ F1 H1 R1 s1 (wk_enum (u := .t) RL.ok (fun w' s => s.sqT RL.ok st) rl)⟩
theorem sI_zip (g : Gd X N sc k) {es : List Expr} {kk : Nat} {tp : Pos} {y z : Expr} {x : Str} {p pos : Pos} {fa fb : Nv → Option (Res × Nv)} (hx : blB sc x "zip" = true) (hm : X.mg "zip" = none) (ha : SE X y fa) (hb : SE X z fb) (hs : noStar y = true) (hs2 : noStar z = true) :
    SI X (.Tuple es kk tp) (.Call (.Name x p) [y, z] [] pos) .zip fa fb := by
  obtain ⟨rfl, hg⟩ := bl_ok g.z hx
  obtain ⟨ta, pa, ha⟩ := ha
  obtain ⟨tb, pb, hb⟩ := hb
  refine ⟨_, pi_zipK hg hm (pa_cons pa (pa_cons pb pa_nil (starE hs2)) (starE hs)) (starE hs) (starAny (by simp [hs2])), fun F H σ env ra env1 rb env2 d1 d2 its R e1 e2 e3 e4 e5 Q q => ?_⟩
  refine two (l := y) (m := z) ha hb R e1 (show fb env1 = some (rb, env2) from e2) fun u v F1 H1 R1 s1 r1 r2 _ _ => ?_
  obtain ⟨RL, sL, _⟩ := lend_ok (lends env2 ra rb) R1
  cases d1 <;> cases d2 <;> simp only [iterV, reduceCtorEq] at e5
  · cases e5
    obtain ⟨a, xs, rfl, rl, st⟩ := src_l (ln := lends env2 ra rb) R1 r1 e3 (fun i hi => List.mem_append_left _ hi)
    obtain ⟨b, ys, rfl, rl2, st2⟩ := src_l (ln := lends env2 ra rb) R1 r2 e4 (fun i hi => List.mem_append_right _ hi)
    exact ⟨.l, .l, a, b, xs, ys, rfl, st _ (Stp.refl _), st2 _ (Stp.refl _), q _ F1 H1 R1 s1 (wk_zip (u := .l) (v := .l) RL.ok st st2 rl rl2)⟩
  · cases e5
    obtain ⟨a, xs, rfl, rl, st⟩ := src_l (ln := lends env2 ra rb) R1 r1 e3 (fun i hi => List.mem_append_left _ hi)
    obtain ⟨b, ys, rfl, rl2, st2⟩ := src_t R1 r2 e4
    exact ⟨.l, .t, a, b, xs, ys, rfl, st _ (Stp.refl _), st2, q _ F1 H1 R1 s1 (wk_zip (u := .l) (v := .t) RL.ok st (fun w' s => s.sqT RL.ok st2) rl rl2)⟩
  · cases e5
    obtain ⟨a, xs, rfl, rl, st⟩ := src_t R1 r1 e3
    obtain ⟨b, ys, rfl, rl2, st2⟩ := src_l (ln := lends env2 ra rb) R1 r2 e4 (fun i hi => List.mem_append_right _ hi)
    exact ⟨.t, .l, a, b, xs, ys, rfl, st, st2 _ (Stp.refl _), q _ F1 H1 R1 s1 (wk_zip (u := .t) (v := .l) RL.ok (fun w' s => s.sqT RL.ok st) st2 rl rl2)⟩
  · cases e5
    obtain ⟨a, xs, rfl, rl, st⟩ := src_t R1 r1 e3
    obtain ⟨b, ys, rfl, rl2, st2⟩ := src_t R1 r2 e4
    exact ⟨.t, .t, a, b, xs, ys, rfl, st, st2, q _ F1 H1 R1 s1 (wk_zip (u := .t) (v := .t) RL.ok (fun w' s => s.sqT RL.ok st) (fun w' s => s.sqT RL.ok st2) rl rl2)⟩
theorem src_k {K : PySem.W.Frag} {F : Addr → Prop} {H : Hp} {σ : L2.St} {env : Nv} {d : D} {v : V} {l : List D} {ln : List Nat} (R : ER K F H σ env) (h : Rp K F H v d) (e : items d = some l) :
    ∃ (u : Kd) (a : Addr) (xs : List V), v = .ref a ∧ RpL K F H xs l ∧ (∀ w', Stp (wd σ (lendE env ln) F H) w' → SqK K u w'.H a xs) := by
  obtain ⟨RL, _, _, _⟩ := lend_ok ln R
  cases d <;> simp only [items, reduceCtorEq] at e
  · cases e
    obtain ⟨a, xs, q1, q2, q3⟩ := src_l (r := .val (.list l)) (ln := ln) R h rfl (fun i hi => by cases hi)
    exact ⟨.l, a, xs, q1, q2, q3⟩
  · cases e
    obtain ⟨a, xs, q1, q2, q3⟩ := src_t (r := .val (.tuple l)) R h rfl
    exact ⟨.t, a, xs, q1, q2, fun w' s => s.sqT RL.ok q3⟩
theorem it_z3 {ds : List D} {d2 : D} {its : List D} (e : iterV .zip3 (.tuple ds) d2 = some its) : ∃ x y z l m n, ds = [x, y, z] ∧ items x = some l ∧ items y = some m ∧ items z = some n ∧ its = zipL3 l m n := by
  have key : ∀ {o p q : Option (List D)}, zip3V o p q = some its → ∃ l m n, o = some l ∧ p = some m ∧ q = some n ∧ its = zipL3 l m n := fun {o p q} e => by
    cases o <;> cases p <;> cases q <;> first | (cases e; exact ⟨_, _, _, rfl, rfl, rfl, rfl⟩) | cases e
  match ds, e with
  | [x, y, z], e =>
    have e : zip3V (items x) (items y) (items z) = some its := by cases d2 <;> exact e
    obtain ⟨l, m, n, q1, q2, q3, q4⟩ := key e
    exact ⟨x, y, z, l, m, n, rfl, q1, q2, q3, q4⟩
  | [], e => cases d2 <;> cases e
  | [_], e => cases d2 <;> cases e
  | [_, _], e => cases d2 <;> cases e
  | _ :: _ :: _ :: _ :: _, e => cases d2 <;> cases e
theorem sI_zip3 (g : Gd X N sc k) {es0 : List Expr} {kk : Nat} {tp : Pos} {y z q : Expr} {es : EL} {x : Str} {p pos : Pos} {fb : Nv → Option (Res × Nv)} (hx : blB sc x "zip" = true) (hm : X.mg "zip" = none) (ha : SL2 X [y, z, q] es) (hs : noStar y = true) (hs2 : noStar z = true) (hs3 : noStar q = true) :
    SI X (.Tuple es0 kk tp) (.Call (.Name x p) [y, z, q] [] pos) .zip3 (ev (.tup es)) fb := by
  obtain ⟨rfl, hg⟩ := bl_ok g.z hx
  obtain ⟨t, pa, hK, _⟩ := ha
  refine ⟨_, pi_zip3 hg hm pa (starE hs) (starAny (by simp [hs2, hs3])), fun F H σ env ra env1 rb env2 d1 d2 its R e1 e2 e3 e4 e5 Q q => ?_⟩
  obtain ⟨rfl, rfl⟩ := evD_val (ik := .zip3) (fun z => nomatch z) (fun z => nomatch z) e2
  simp only [ev, Option.bind_eq_bind, Option.bind_eq_some_iff, Prod.exists] at e1
  obtain ⟨ds, env1, e1, e6⟩ := e1
  cases e6
  cases e3
  refine hK F H σ env ds _ R e1 _ fun vs F1 H1 R1 s1 rl => ?_
  obtain ⟨RL, sL, _⟩ := lend_ok (lends env2 (.val (.tuple ds)) (.val .none)) R1
  obtain ⟨x, y, z, l, m, n, rfl, i1, i2, i3, rfl⟩ := it_z3 e5
  cases rl with
  | cons r1 rl =>
    cases rl with
    | cons r2 rl =>
      cases rl with
      | cons r3 rl =>
        cases rl
        obtain ⟨u, a, xs, rfl, g1, k1⟩ := src_k (ln := lends env2 (.val (.tuple [x, y, z])) (.val .none)) R1 r1 i1
        obtain ⟨v, b, ys, rfl, g2, k2⟩ := src_k (ln := lends env2 (.val (.tuple [x, y, z])) (.val .none)) R1 r2 i2
        obtain ⟨t, c, zs, rfl, g3, k3⟩ := src_k (ln := lends env2 (.val (.tuple [x, y, z])) (.val .none)) R1 r3 i3
        exact ⟨u, v, t, a, b, c, xs, ys, zs, rfl, k1 _ (Stp.refl _), k2 _ (Stp.refl _), k3 _ (Stp.refl _), q _ F1 H1 R1 s1 (wk_zip3 RL.ok k1 k2 k3 g1 g2 g3)⟩
theorem noFold {e : Expr} {env : Env} (h : noSet e = true) : ∀ x, foldedSetIterable e env x = pure x := fun x => by
  cases e <;> first | rfl | cases h
end

/-! ### targets -/
section
variable {K : PySem.W.Frag} {F F' : Addr → Prop} {H H' : Hp} {σ σ' : L2.St} {env env' : Nv}
theorem setO_get {σ : L2.St} {i j : Nat} {v : Option V} {t : Option V} (h : (σ.set i v)[j]? = some t) : (j = i ∧ t = v) ∨ (j ≠ i ∧ σ[j]? = some t) := by
  by_cases hj : j = i
  · subst hj
    by_cases hl : j < σ.length
    · rw [List.getElem?_set_self hl] at h
      exact .inl ⟨rfl, (Option.some.inj h).symm⟩
    · rw [List.getElem?_eq_none (by simpa using hl)] at h; cases h
  · rw [List.getElem?_set_ne (Ne.symm hj)] at h
    exact .inr ⟨hj, h⟩
theorem set_plain (R : ER K F H σ env) {i : Nat} {ov : Option V} {s0 : Slot} (hp : plainS s0 = true) (h : SlR K F H s0 ov) : ER K F H (σ.set i ov) (env.set i s0) ∧ ∀ w, Stp w (wd σ env F H) → Stp w (wd (σ.set i ov) (env.set i s0) F H) := by
  have own : ∀ {j : Nat} {s : Slot} {a : Addr}, (env.set i s0)[j]? = some s → ((∃ l, s = .own l) ∨ ∃ l, s = .lent l) → (σ.set i ov)[j]? = some (some (.ref a)) → env[j]? = some s ∧ σ[j]? = some (some (.ref a)) := fun {j s a} e hs e2 => by
    rcases set_get e with ⟨rfl, rfl⟩ | ⟨hj, e⟩
    · rcases hs with ⟨l, hs⟩ | ⟨l, hs⟩ <;> (subst hs; cases hp)
    · rw [List.getElem?_set_ne (Ne.symm hj)] at e2
      exact ⟨e, e2⟩
  have kd : ∀ {j : Nat}, (∃ l, (env.set i s0)[j]? = some (Slot.own l) ∨ (env.set i s0)[j]? = some (Slot.lent l)) → ∃ s, (env.set i s0)[j]? = some s ∧ ((∃ l, s = .own l) ∨ ∃ l, s = .lent l) := fun {j} ⟨l', e4⟩ => by
    rcases e4 with e4 | e4
    · exact ⟨_, e4, .inl ⟨_, rfl⟩⟩
    · exact ⟨_, e4, .inr ⟨_, rfl⟩⟩
  have bk : ∀ {j : Nat} {t : Slot}, env[j]? = some t → ((∃ l, t = .own l) ∨ ∃ l, t = .lent l) → ∃ l, env[j]? = some (Slot.own l) ∨ env[j]? = some (Slot.lent l) := fun {j t} e hk => by
    rcases hk with ⟨l', rfl⟩ | ⟨l', rfl⟩
    · exact ⟨l', .inl e⟩
    · exact ⟨l', .inr e⟩
  refine ⟨⟨by rw [List.length_set, List.length_set]; exact R.len, fun j s e => ?_, fun j m b e2 e3 e4 e5 => ?_, R.tr, R.tb⟩, fun w s => ⟨s.k, s.t, fun x o => s.o x ?_, fun x o => s.l x ?_, s.f, s.g⟩⟩
  · rcases set_get e with ⟨rfl, rfl⟩ | ⟨hj, e1⟩
    · have hl : j < σ.length := by
        have := (List.getElem?_eq_some_iff.mp e).1
        rw [List.length_set, R.len] at this
        exact this
      exact ⟨ov, by rw [List.getElem?_set_self hl], h⟩
    · obtain ⟨ov, e2, r⟩ := R.sl j s e1
      exact ⟨ov, by rw [List.getElem?_set_ne (Ne.symm hj)]; exact e2, r⟩
  · obtain ⟨s, es, hs⟩ := kd e2
    obtain ⟨t, et, ht⟩ := kd e5
    obtain ⟨q1, q2⟩ := own es hs e3
    obtain ⟨q3, q4⟩ := own et ht e4
    exact R.inj j m b (bk q1 hs) q2 q4 (bk q3 ht)
  · obtain ⟨j, l, q1, q2⟩ := o
    obtain ⟨q1, q2⟩ := own q1 (.inl ⟨l, rfl⟩) q2
    exact ⟨j, l, q1, q2⟩
  · obtain ⟨j, l, q1, q2⟩ := o
    obtain ⟨q1, q2⟩ := own q1 (.inr ⟨l, rfl⟩) q2
    exact ⟨j, l, q1, q2⟩
theorem set_val (R : ER K F H σ env) {i : Nat} {v : V} {d : D} (h : Rp K F H v d) : ER K F H (σ.set i (some v)) (env.set i (.val d)) ∧ ∀ w, Stp w (wd σ env F H) → Stp w (wd (σ.set i (some v)) (env.set i (.val d)) F H) := set_plain R rfl (.val h)
structure Agr (is : List Nat) (σ σ' : L2.St) : Prop where
  len : σ'.length = σ.length
  at_ : ∀ i, i ∉ is → σ'[i]? = σ[i]?
theorem Agr.refl (is : List Nat) (σ : L2.St) : Agr is σ σ := ⟨rfl, fun _ _ => rfl⟩
theorem Agr.trans {is : List Nat} {a b c : L2.St} (h : Agr is a b) (g : Agr is b c) : Agr is a c := ⟨g.len.trans h.len, fun i n => (g.at_ i n).trans (h.at_ i n)⟩
theorem Agr.mono {is js : List Nat} {a b : L2.St} (h : Agr is a b) (s : ∀ i ∈ is, i ∈ js) : Agr js a b := ⟨h.len, fun i n => h.at_ i fun q => n (s i q)⟩
theorem Agr.set {σ : L2.St} {i : Nat} {v : Option V} : Agr [i] σ (σ.set i v) := ⟨List.length_set, fun j n => List.getElem?_set_ne (fun z => n (by rw [z]; exact List.mem_singleton.mpr rfl))⟩
theorem setMany_ok : ∀ (is : List Nat) {ds : List D} {vs : List V} {σ : L2.St} {env : Nv}, ER K F H σ env → RpL K F H vs ds → ds.length = is.length →
    ∃ σ', (∀ (Q : L2.St → Hp → Prop), Q σ' H → (is.foldr (fun i t => gCons (gName i) t) gNil) vs σ H Q) ∧ ER K F H σ' (setMany is ds env) ∧ (∀ w, Stp w (wd σ env F H) → Stp w (wd σ' (setMany is ds env) F H)) ∧ Agr is σ σ'
  | [], ds, vs, σ, env, R, r, hl => by
    cases r with
    | cons _ _ => cases hl
    | nil => exact ⟨σ, fun Q q => ⟨rfl, q⟩, R, fun w s => s, Agr.refl _ _⟩
  | i :: is, ds, vs, σ, env, R, r, hl => by
    cases r with
    | nil => cases hl
    | @cons v vs d ds h r =>
      obtain ⟨R1, s1⟩ := set_val (i := i) R h
      obtain ⟨σ', a, R2, s2, b⟩ := setMany_ok is R1 r (by simpa using hl)
      refine ⟨σ', fun Q q => ⟨v, vs, rfl, a Q q⟩, R2, fun w s => s2 w (s1 w s), (Agr.set (v := some v)).mono (fun j hj => ?_) |>.trans (b.mono fun j hj => List.mem_cons_of_mem _ hj)⟩
      rw [List.mem_singleton.mp hj]
      exact List.mem_cons_self
end
def canG (K : PySem.W.Frag) (tup : Bool) (tg : List Nat) : TG := fun v σ H Q => ∃ (F : Addr → Prop) (env : Nv) (d : D) (env' : Nv), ER K F H σ env ∧ Rp K F H v d ∧ setTg tup tg d env = some env' ∧
  ∀ σ', ER K F H σ' env' → (∀ w, Stp w (wd σ env F H) → Stp w (wd σ' env' F H)) → Agr tg σ σ' → Q σ' H
section
variable {X : Cx} {N : List Str} {sc : Scope} {k : Nat}
theorem pg_weak {t : Expr} {g g' : TG} (h : PG X t g) (hw : ∀ v σ H Q, g' v σ H Q → g v σ H Q) : PG X t g' := ⟨fun pins s σ H v u Q I r q => h.run pins s σ H v u Q I r (hw v σ H Q q)⟩
theorem sGs (hN : X.N = N) (hd : N.Nodup) (hloc : ∀ x, locB sc x = true → Loc X.env.scope x ∧ (X.fn x = true ∨ X.env.scope.names.lookup x = some .local)) : ∀ (is : List Nat) (es : List Expr), chTs N sc is es = true →
    PGs X es (is.foldr (fun i t => gCons (gName i) t) gNil) ∧ (assignEach es X.env).length = is.length ∧ (assignEach es X.env).findIdx? (·.1) = none
  | [], [], _ => ⟨pgs_nil, rfl, rfl⟩
  | [], _ :: _, h => by cases h
  | _ :: _, [], h => by cases h
  | i :: is, e :: es, h => by
    cases e with
    | Name x p =>
      simp only [chTs, Bool.and_eq_true, decide_eq_true_eq] at h
      obtain ⟨⟨h1, h2⟩, h3⟩ := h
      obtain ⟨q1, q2, q3⟩ := sGs hN hd hloc is es h3
      obtain ⟨l1, l2⟩ := hloc x h2
      refine ⟨pgs_cons (pg_name (by rw [hN]; exact hd) (by rw [hN]; exact h1) l1 l2) q1 rfl, ?_, ?_⟩
      · show (assignEach es X.env).length + 1 = is.length + 1
        rw [q2]
      · show List.findIdx? (·.1) ((false, assign (.Name x p) X.env) :: assignEach es X.env) = none
        rw [List.findIdx?_cons]
        simp [q3]
    | _ => cases h
theorem sG (hN : X.N = N) (hd : N.Nodup) (hc : X.calm = true) (hloc : ∀ x, locB sc x = true → Loc X.env.scope x ∧ (X.fn x = true ∨ X.env.scope.names.lookup x = some .local)) {tup : Bool} {tg : List Nat} {t : Expr} (h : chTg N sc tup tg t = true) : PG X t (canG X.K tup tg) := by
  cases tup with
  | false =>
    cases tg with
    | nil => cases h
    | cons i r =>
      cases r with
      | cons _ _ => cases h
      | nil =>
        cases t with
        | Name x p =>
          simp only [chTg, Bool.and_eq_true, decide_eq_true_eq] at h
          obtain ⟨l1, l2⟩ := hloc x h.2
          refine pg_weak (pg_name (by rw [hN]; exact hd) (by rw [hN]; exact h.1) l1 l2) fun v σ H Q ⟨F, env, d, env', R, r, e, q⟩ => ?_
          cases e
          obtain ⟨R1, s1⟩ := set_val (i := i) R r
          exact q _ R1 s1 Agr.set
        | _ => cases h
  | true =>
    cases t with
    | Tuple es kk p =>
      have h : chTs N sc tg es = true := by cases tg <;> exact h
      obtain ⟨q1, q2, q3⟩ := sGs hN hd hloc tg es h
      refine pg_weak (pg_tup hc q1 q2 q3) fun v σ H Q ⟨F, env, d, env', R, r, e, q⟩ => ?_
      cases d with
      | tuple ds =>
        have e : (if ds.length = tg.length then some (setMany tg ds env) else none) = some env' := by cases tg <;> exact e
        split at e
        · rename_i hl
          cases e
          cases r with
          | @tup a xs _ hq z rl =>
            obtain ⟨σ', a1, R1, s1, ag⟩ := setMany_ok tg R rl hl
            exact ⟨a, xs, rfl, hq, by rw [rl.length]; exact hl, a1 Q (q σ' R1 s1 ag)⟩
        · cases e
      | _ =>
        exfalso
        cases tg with
        | nil => cases e
        | cons i r => cases r <;> cases e
    | _ =>
      exfalso
      cases tg with
      | nil => cases h
      | cons i r => cases r <;> cases h
def canL (K : PySem.W.Frag) (tg : List Nat) : TG := fun v σ H Q => ∃ (F : Addr → Prop) (env : Nv) (l : List D) (a : Addr) (xs : List V), v = .ref a ∧ SqL K H a xs ∧ RpL K F H xs l ∧ ER K F H σ env ∧ l.length = tg.length ∧
  ∀ σ', ER K F H σ' (setMany tg l env) → (∀ w, Stp w (wd σ env F H) → Stp w (wd σ' (setMany tg l env) F H)) → Agr tg σ σ' → Q σ' H
theorem sGL (hN : X.N = N) (hd : N.Nodup) (hc : X.calm = true) (hloc : ∀ x, locB sc x = true → Loc X.env.scope x ∧ (X.fn x = true ∨ X.env.scope.names.lookup x = some .local)) {tg : List Nat} {es : List Expr} {kk : Nat} {p : Pos} (h : chTs N sc tg es = true) : PG X (.Tuple es kk p) (canL X.K tg) := by
  obtain ⟨q1, q2, q3⟩ := sGs hN hd hloc tg es h
  refine pg_weak (pg_lst hc q1 q2 q3) fun v σ H Q ⟨F, env, l, a, xs, ev, hq, rl, R, hl, q⟩ => ?_
  obtain ⟨σ', a1, R1, s1, ag⟩ := setMany_ok tg R rl hl
  exact ⟨a, xs, ev, hq, by rw [rl.length]; exact hl, a1 Q (q σ' R1 s1 ag)⟩
end
end Ev

/-! A verified evaluator over the hand layer, part 12: comprehensions; every expression. -/
namespace Ev
open PySem L2

section
variable {K : PySem.W.Frag} {F F' : Addr → Prop} {H H' : Hp} {σ σ' : L2.St} {env env' old : Nv}
theorem wipe_ok : ∀ (vs : List Nat) {σ : L2.St} {env : Nv}, ER K F H σ env → ER K F H (wipe σ vs) (wipeE env vs) ∧ ∀ w, Stp w (wd σ env F H) → Stp w (wd (wipe σ vs) (wipeE env vs) F H)
  | [], _, _, R => ⟨R, fun _ s => s⟩
  | v :: vs, _, _, R => by
    obtain ⟨R1, s1⟩ := wipe_ok vs R
    obtain ⟨R2, s2⟩ := set_plain (i := v) (ov := none) (s0 := .un) R1 rfl .un
    exact ⟨R2, fun w s => s2 w (s1 w s)⟩
theorem wipe_in {σ : L2.St} {i : Nat} : ∀ {vs : List Nat}, i ∈ vs → i < σ.length → (wipe σ vs)[i]? = some none
  | v :: vs, h, hl => by
    unfold wipe
    by_cases e : v = i
    · subst e
      rw [List.getElem?_set_self (by rw [wipe_length]; exact hl)]
    · rw [List.getElem?_set_ne e]
      rcases List.mem_cons.mp h with h | h
      · exact absurd h.symm e
      · exact wipe_in h hl
theorem wipe_out {σ : L2.St} {i : Nat} : ∀ {vs : List Nat}, i ∉ vs → (wipe σ vs)[i]? = σ[i]?
  | [], _ => rfl
  | v :: vs, h => by
    unfold wipe
    rw [List.getElem?_set_ne (fun e => h (by rw [e]; exact List.mem_cons_self))]
    exact wipe_out fun q => h (List.mem_cons_of_mem _ q)
theorem wipe_agr {vs : List Nat} (h : Agr vs (wipe σ vs) σ') : wipe σ' vs = wipe σ vs := by
  have hl : σ'.length = σ.length := by rw [h.len, wipe_length]
  refine List.ext_getElem? fun i => ?_
  by_cases hi : i ∈ vs
  · by_cases hl' : i < σ.length
    · rw [wipe_in hi hl', wipe_in hi (by rw [hl]; exact hl')]
    · rw [List.getElem?_eq_none (by rw [wipe_length]; omega), List.getElem?_eq_none (by rw [wipe_length]; omega)]
  · rw [wipe_out hi, h.at_ i hi]
theorem backE_get {i : Nat} {s : Slot} : ∀ {vs : List Nat}, (backE old env vs)[i]? = some s → (i ∈ vs ∧ i < env.length ∧ s = sAt old i) ∨ (i ∉ vs ∧ env[i]? = some s)
  | [], h => .inr ⟨by simp, h⟩
  | v :: vs, h => by
    rcases set_get h with ⟨rfl, rfl⟩ | ⟨hj, h⟩
    · refine .inl ⟨List.mem_cons_self, ?_, rfl⟩
      have := (List.getElem?_eq_some_iff.mp h).1
      have hl : ∀ vs : List Nat, (backE old env vs).length = env.length := fun vs => by
        induction vs with
        | nil => rfl
        | cons v vs ih => show ((backE old env vs).set v _).length = _; rw [List.length_set, ih]
      rw [hl] at this
      exact this
    · rcases backE_get h with ⟨a, b, c⟩ | ⟨a, b⟩
      · exact .inl ⟨List.mem_cons_of_mem _ a, b, c⟩
      · refine .inr ⟨fun q => ?_, b⟩
        rcases List.mem_cons.mp q with q | q
        · exact hj q
        · exact a q
theorem backE_length {old env : Nv} : ∀ vs : List Nat, (backE old env vs).length = env.length
  | [] => rfl
  | v :: vs => by show ((backE old env vs).set v _).length = _; rw [List.length_set, backE_length]
theorem back_ok {vs : List Nat} (R0 : ER K F H σ old) (Rw : ER K F' H' (wipe σ vs) env') (st : Stp (wd σ old F H) (wd (wipe σ vs) env' F' H')) (hp : ∀ v ∈ vs, plainS (sAt old v) = true) :
    ER K F' H' σ (backE old env' vs) ∧ (∀ x, OwnA σ (backE old env' vs) x → OwnA (wipe σ vs) env' x) ∧ ∀ x, LenA σ (backE old env' vs) x → LenA (wipe σ vs) env' x := by
  have ol : ∀ {j : Nat} {s : Slot}, (backE old env' vs)[j]? = some s → ((∃ l, s = .own l) ∨ ∃ l, s = .lent l) → env'[j]? = some s ∧ (wipe σ vs)[j]? = σ[j]? := fun {j s} e hs => by
    rcases backE_get e with ⟨a, b, rfl⟩ | ⟨a, b⟩
    · have := hp j a
      rcases hs with ⟨l, hs⟩ | ⟨l, hs⟩ <;> (rw [hs] at this; cases this)
    · exact ⟨b, wipe_out a⟩
  have kd : ∀ {j : Nat}, (∃ l, (backE old env' vs)[j]? = some (Slot.own l) ∨ (backE old env' vs)[j]? = some (Slot.lent l)) → (∃ l, env'[j]? = some (Slot.own l) ∨ env'[j]? = some (Slot.lent l)) ∧ (wipe σ vs)[j]? = σ[j]? := fun {j} ⟨l', e4⟩ => by
    rcases e4 with e4 | e4
    · obtain ⟨q1, q2⟩ := ol e4 (.inl ⟨_, rfl⟩)
      exact ⟨⟨_, .inl q1⟩, q2⟩
    · obtain ⟨q1, q2⟩ := ol e4 (.inr ⟨_, rfl⟩)
      exact ⟨⟨_, .inr q1⟩, q2⟩
  refine ⟨⟨by rw [backE_length, Rw.len, wipe_length], fun i s e => ?_, fun i j a e1 e2 e3 e4 => ?_, Rw.tr, Rw.tb⟩, fun x ⟨j, l, q1, q2⟩ => ?_, fun x ⟨j, l, q1, q2⟩ => ?_⟩
  · rcases backE_get e with ⟨a, b, rfl⟩ | ⟨a, b⟩
    · have hl : i < σ.length := by rw [Rw.len, wipe_length] at b; exact b
      have pl := hp i a
      cases hs : sAt old i with
      | un => exact ⟨σ[i], List.getElem?_eq_getElem hl, .un⟩
      | val d =>
        obtain ⟨v, e1, r⟩ := R0.val hs
        exact ⟨_, e1, .val (Rp.mono (a := wd σ old F H) (b := wd (wipe σ vs) env' F' H') st R0.ok r)⟩
      | own l => rw [hs] at pl; cases pl
      | lent l => rw [hs] at pl; cases pl
    · obtain ⟨ov, e1, r⟩ := Rw.sl i s b
      rw [wipe_out a] at e1
      exact ⟨ov, e1, r⟩
  · obtain ⟨q1, w1⟩ := kd e1
    obtain ⟨q2, w2⟩ := kd e4
    exact Rw.inj i j a q1 (w1.trans e2) (w2.trans e3) q2
  · obtain ⟨a, b⟩ := ol q1 (.inl ⟨_, rfl⟩)
    exact ⟨j, l, a, b.trans q2⟩
  · obtain ⟨a, b⟩ := ol q1 (.inr ⟨_, rfl⟩)
    exact ⟨j, l, a, b.trans q2⟩
theorem upd_new (R : ER K F H σ env) {D : Addr} {xs : List V} (h1 : H D = some (.lst xs)) (nF : ¬ F D) (nO : ¬ OwnA σ env D) (nL : ¬ LenA σ env D) (ys : List V) :
    ER K F (upd H D (.lst ys)) σ env ∧ (∀ w, w.H D = none → Stp w (wd σ env F H) → Stp w (wd σ env F (upd H D (.lst ys)))) ∧ (∀ v d, Rp K F H v d → Rp K F (upd H D (.lst ys)) v d) ∧ ∀ vs ds, RpL K F H vs ds → RpL K F (upd H D (.lst ys)) vs ds := by
  let a : Wd := ⟨fun x => x = D, fun _ => False, F, H⟩
  let b : Wd := ⟨fun x => x = D, fun _ => False, F, upd H D (.lst ys)⟩
  have ok : a.Ok := ⟨fun x e => ⟨xs, by rw [show x = D from e]; exact h1⟩, fun _ z => z.elim, fun x f e => nF (by rw [← show x = D from e]; exact f), fun _ z => z.elim, R.tr⟩
  have st : Stp a b := ⟨fun x o h n _ => by
      show upd H D (.lst ys) x = some o
      rw [upd_ne (show x ≠ D from n)]; exact h, fun x o h => by
      by_cases q : x = D
      · exact ⟨_, by show upd H D (.lst ys) x = _; rw [q]; exact upd_same⟩
      · exact ⟨o, by show upd H D (.lst ys) x = _; rw [upd_ne q]; exact h⟩, fun x h => .inl h, fun x h => h.elim, fun x f => f, fun x f => .inl f⟩
  have m1 : ∀ v d, Rp K F H v d → Rp K F (upd H D (.lst ys)) v d := fun v d r => Rp.mono (a := a) (b := b) st ok r
  have m2 : ∀ vs ds, RpL K F H vs ds → RpL K F (upd H D (.lst ys)) vs ds := fun v d r => RpL.mono (a := a) (b := b) st ok r
  have tb : ∀ P q, LamX.TabS H P q → LamX.TabS (upd H D (.lst ys)) P q := fun P q h => tabS_upd h h1 (fun _ z => nomatch z) fun _ z => nomatch z
  refine ⟨⟨R.len, fun i s e => ?_, R.inj, fun x f => ?_, fun p hp => tb _ _ (R.tb p hp)⟩, fun w hw s => ⟨fun x o h n nt => ?_, fun x o h => ?_, s.o, s.l, s.f, s.g⟩, m1, m2⟩
  · obtain ⟨ov, e1, r⟩ := R.sl i s e
    refine ⟨ov, e1, ?_⟩
    cases r with
    | un => exact .un
    | val r => exact .val (m1 _ _ r)
    | own h z r n => exact .own (by rw [upd_ne (fun q => nO ⟨i, _, e, by rw [← q]; exact e1⟩)]; exact h) z (m2 _ _ r) n
    | lent h z r n => exact .lent (by rw [upd_ne (fun q => nL ⟨i, _, e, by rw [← q]; exact e1⟩)]; exact h) z (m2 _ _ r) n
  · obtain ⟨o, h⟩ := R.tr x f
    exact ⟨o, by rw [upd_ne (fun q => nF (by rw [← q]; exact f))]; exact h⟩
  · show upd H D (.lst ys) x = _
    rw [upd_ne (fun q => by rw [q, hw] at h; cases h)]
    exact s.k x o h n nt
  · obtain ⟨o', h'⟩ := s.t x o h
    exact ⟨o', by show upd H D (.lst ys) x = _; rw [upd_ne (fun q => by rw [q, hw] at h; cases h)]; exact h'⟩
end

/-! ### the same rule in every block -/
def canE (K : PySem.W.Frag) (f : Nv → Option (Res × Nv)) : TE := fun σ H Q => ∃ (F : Addr → Prop) (env : Nv) (r : Res) (env' : Nv), ER K F H σ env ∧ f env = some (r, env') ∧
  ∀ v F' H', ER K F' H' σ env' → Stp (wd σ env F H) (wd σ env' F' H') → RR K F' H' σ env' r v → Prov (wd σ env F H) r v → Q v H'
def canT (K : PySem.W.Frag) (f : Nv → Option (Bool × Nv)) : TT := fun σ H Q => ∃ (F : Addr → Prop) (env : Nv) (b : Bool) (env' : Nv), ER K F H σ env ∧ f env = some (b, env') ∧
  ∀ F' H', ER K F' H' σ env' → Stp (wd σ env F H) (wd σ env' F' H') → Q b H'
section
variable {X : Cx} {N : List Str} {sc : Scope} {k : Nat}
theorem SE.can {x : Expr} {f : Nv → Option (Res × Nv)} (h : SE X x f) : PE X x (canE X.K f) := by
  obtain ⟨t, pt, ht⟩ := h
  exact ⟨fun pins s σ H Q I ⟨F, env, r, env', R, e, q⟩ => pt.run pins s σ H Q I (ht F H σ env r env' R e Q q)⟩
theorem ST.can {x : Expr} {f : Nv → Option (Bool × Nv)} (h : ST X x f) : PT X x (canT X.K f) := by
  obtain ⟨t, pt, ht⟩ := h
  exact ⟨fun pins s σ H Q I ⟨F, env, r, env', R, e, q⟩ => pt.run pins s σ H Q I (ht F H σ env r env' R e Q q)⟩
theorem pts_can0 {f : Nv → Option (Res × Nv)} : PTs X [] (canT X.K (evC true f)) :=
  ⟨fun pins s σ H Q I ⟨F, env, b, env', R, e, q⟩ => pts_nil.run pins s σ H Q I (by
    simp only [evC, if_true, Option.some.injEq, Prod.mk.injEq] at e
    obtain ⟨rfl, rfl⟩ := e
    exact q F H R (Stp.refl _))⟩
theorem Gd.blk (g : Gd X N sc k) {scope : Scope} {s : Shared} {H : Hp} {cl : List (Str × Addr)} {C : Addr} {fp : List Addr} : Gd (X.blk s H scope (compEnvC scope cl C X.env) fp) N (relS scope sc) k :=
  ⟨g.nn, g.nd, by show relS scope X.env.scope = _; rw [g.ss], g.calm, g.room, g.gu, g.lm⟩
theorem blk_loc {scope : Scope} {s : Shared} {H : Hp} {cl : List (Str × Addr)} {C : Addr} {fp : List Addr} (x : Str) (h : locB scope x = true) :
    Loc (X.blk s H scope (compEnvC scope cl C X.env) fp).env.scope x ∧ ((X.blk s H scope (compEnvC scope cl C X.env) fp).fn x = true ∨ (X.blk s H scope (compEnvC scope cl C X.env) fp).env.scope.names.lookup x = some .local) := by
  unfold locB at h
  simp only [Bool.or_eq_true, decide_eq_true_eq] at h
  rcases h with h | h
  · have : (relS scope X.env.scope).names.lookup x = some .local := lookup_relS_keep (fun z => nomatch z) h
    exact ⟨.inl this, .inr this⟩
  · have : (relS scope X.env.scope).names.lookup x = some .cell := lookup_relS_keep (fun z => nomatch z) h
    refine ⟨.inr this, .inl ?_⟩
    show (scope.names.lookup x == some .cell) = true
    rw [h]; rfl
theorem lc_sem {own : List (Str × Nat)} {tup : Bool} {tg : List Nat} {ik : IK} {a b c el : E} {wi : TI} (hI : SIt X ik (ev a) (fun env => ev b env) wi) (hi : ∀ i ∈ tg, i ∈ own.map (·.2)) :
    SEt X (ev (.lc own tup tg ik a b c el)) (tLc wi (canG X.K tup tg) (canT X.K (evC c.isNo fun env => ev c env)) (canE X.K (ev el)) (own.map (·.2))) := by
  intro F H σ env res env' R e Q q
  simp only [ev, Option.bind_eq_bind, Option.bind_eq_some_iff, Prod.exists] at e
  obtain ⟨ra, env1, e1, rb, env2, e2, d1, e3, d2, e4, its, e5, e6⟩ := e
  split at e6
  · cases e6
  · rename_i hpl
    simp only [Option.bind_eq_some_iff, Prod.exists, Option.some.injEq, Prod.mk.injEq] at e6
    obtain ⟨ds, env3, e6, rfl, rfl⟩ := e6
    have hp : ∀ v ∈ own.map (·.2), plainS (sAt (lendE env2 (lend1 env2 ra ++ lend1 env2 rb)) v) = true := fun v hv => by
      rw [Bool.not_eq_true] at hpl
      have := List.any_eq_false.mp hpl v hv
      simpa using this
    refine hI F H σ env _ _ _ _ _ _ _ R e1 e2 e3 e4 e5 _ fun J F2 H2 R2 s2 wk => ?_
    change Wk X.K J its (wd σ (lendE env2 (lend1 env2 ra ++ lend1 env2 rb)) F2 H2) at wk
    obtain ⟨R3, s3, _, _⟩ := lend_ok (lend1 env2 ra ++ lend1 env2 rb) R2
    generalize hold : lendE env2 (lend1 env2 ra ++ lend1 env2 rb) = old at *
    generalize hvs : own.map (·.2) = vs at *
    intro D hD
    obtain ⟨Rw, sw⟩ := wipe_ok vs R3
    have sw := sw _ (Stp.refl _)
    have gS : Same H2 (upd H2 D (.lst [])) := same_upd hD
    -- a turn's state
    refine ⟨fun i m H' => m = its.length - i ∧ i ≤ its.length ∧ ∃ F' env4 acc, ER X.K F' H' (wipe σ vs) env4 ∧ Stp (wd σ old F2 H2) (wd (wipe σ vs) env4 F' H') ∧ RR X.K F' H' (wipe σ vs) env4 (.fr acc) (.ref D) ∧
      lcLoop (setTg tup tg) (evC c.isNo fun env => ev c env) (fun env => do let (r, env) ← ev el env; keep env r) (fun env => wipeE env vs) (its.drop i) acc env4 = some (ds, env3), ⟨its.length, by omega, Nat.zero_le _, F2, wipeE old vs, [], Rw.same gS, sw.trans (Same.stp gS), ?_, e6⟩, ?_⟩
    · exact (fin1 (r := .fr []) Rw gS (.newL hD (Nat.zero_le _) .nil)).2.2.1
    · rintro i m H' ⟨rfl, hile, F', env4, acc, R4, s4, rr4, e7⟩
      by_cases hlt : i < its.length
      · refine .inr ⟨wk.go _ s4 i hlt, fun H'' => ∃ F'' env5 acc', ER X.K F'' H'' (wipe σ vs) env5 ∧ Stp (wd σ old F2 H2) (wd (wipe σ vs) env5 F'' H'') ∧ RR X.K F'' H'' (wipe σ vs) env5 (.fr acc') (.ref D) ∧
          lcLoop (setTg tup tg) (evC c.isNo fun env => ev c env) (fun env => do let (r, env) ← ev el env; keep env r) (fun env => wipeE env vs) (its.drop (i + 1)) acc' env5 = some (ds, env3), fun H'' ⟨F'', env5, acc', p⟩ => ⟨its.length - (i + 1), by omega, rfl, hlt, F'', env5, acc', p⟩, fun xv H5 hy => ?_⟩
        have hd : its[i]? = some its[i] := List.getElem?_eq_getElem hlt
        obtain ⟨sm, rp⟩ := wk.yld _ s4 i xv H5 hy _ hd
        have rp : Rp X.K F' H5 xv its[i] := rp
        have sm : Same H' H5 := sm
        rw [List.drop_eq_getElem_cons hlt] at e7
        simp only [lcLoop, Option.bind_eq_bind, Option.bind_eq_some_iff, Prod.exists] at e7
        obtain ⟨env5, t1, bb, env6, t2, t3⟩ := e7
        have R5 := R4.same sm
        have s5 := s4.trans (Same.stp (σ := wipe σ vs) (env := env4) (F := F') sm)
        have rr5 : RR X.K F' H5 (wipe σ vs) env4 (.fr acc) (.ref D) := RR.mono R4 (Same.stp sm) rr4
        refine ⟨F', env4, its[i], env5, R5, rp, t1, fun σ2 R6 st6 ag => ?_⟩
        have hw : wipe σ2 vs = wipe σ vs := wipe_agr (ag.mono hi)
        refine ⟨hw, ?_⟩
        have rr6 : RR X.K F' H5 σ2 env5 (.fr acc) (.ref D) := by
          obtain ⟨a1, xs1, ea, h1, z, r, n1, n2, n3⟩ := rr5
          cases ea
          have st := st6 _ (Stp.refl _)
          refine ⟨D, xs1, rfl, h1, z, r, n1, fun q => ?_, fun q => ?_⟩
          · rcases st.o D q with q | q
            · exact n2 q
            · have q : H5 D = none := q
              rw [h1] at q; cases q
          · rcases st.l D q with q | q | q
            · exact n3 q
            · exact n2 q
            · have q : H5 D = none := q
              rw [h1] at q; cases q
        have s6 := st6 _ s5
        refine ⟨F', env5, bb, env6, R6, t2, fun F7 H7 R7 s7 => ?_⟩
        have rr7 := RR.mono R6 s7 rr6
        have s07 := s6.trans s7
        cases bb with
        | false =>
          rw [if_neg Bool.false_ne_true] at t3
          change ite ((false : Bool) = true) _ _
          rw [if_neg Bool.false_ne_true]
          obtain ⟨R8, s8⟩ := wipe_ok vs R7
          rw [hw] at R8 s8
          refine ⟨F7, wipeE env6 vs, acc, R8, s8 _ s07, ?_, t3⟩
          obtain ⟨a1, xs1, ea, h1, z, r, n1, n2, n3⟩ := rr7
          cases ea
          have st := s8 _ (Stp.refl _)
          refine ⟨D, xs1, rfl, h1, z, r, n1, fun q => ?_, fun q => ?_⟩
          · rcases st.o D q with q | q
            · exact n2 q
            · have q : H7 D = none := q
              rw [h1] at q; cases q
          · rcases st.l D q with q | q | q
            · exact n3 q
            · exact n2 q
            · have q : H7 D = none := q
              rw [h1] at q; cases q
        | true =>
          rw [if_pos rfl] at t3
          change ite ((true : Bool) = true) _ _
          rw [if_pos rfl]
          simp only [Option.bind_eq_some_iff, Prod.exists] at t3
          obtain ⟨yd, env7, ⟨r1, env8, u1, u2⟩, t3⟩ := t3
          split at t3
          · rename_i hbig
            refine ⟨F7, env6, r1, env8, R7, u1, fun yv F8 H8 R8 s8 rr8 pr8 => ?_⟩
            obtain ⟨F9, R9, s9, rp9, _⟩ := keep_ok R8 rr8 s8 pr8 u2
            obtain ⟨a1, xs1, ea, h1, z, r, n1, n2, n3⟩ := RR.mono R7 s9 rr7
            cases ea
            have s09 := s07.trans s9
            have hz : xs1.length < sizeLine := by rw [r.length, ← big_eq]; exact hbig
            refine ⟨xs1, h1, hz, ?_⟩
            obtain ⟨R10, st10, m1, m2⟩ := upd_new R9 h1 n1 n2 n3 (xs1 ++ [yv])
            have s10 := st10 _ hD s09
            obtain ⟨R11, s11⟩ := wipe_ok vs R10
            rw [hw] at R11 s11
            have st := s11 _ (Stp.refl _)
            refine ⟨F9, wipeE env7 vs, acc ++ [yd], R11, s11 _ s10, ⟨D, xs1 ++ [yv], rfl, upd_same, by rw [List.length_append]; exact hz, (m2 _ _ r).append (.cons (m1 _ _ rp9) .nil), n1, fun q => ?_, fun q => ?_⟩, t3⟩
            · rcases st.o D q with q | q
              · exact n2 q
              · have q : upd H8 D _ D = none := q
                rw [upd_same] at q; cases q
            · rcases st.l D q with q | q | q
              · exact n3 q
              · exact n2 q
              · have q : upd H8 D _ D = none := q
                rw [upd_same] at q; cases q
          · cases t3
      · rw [List.drop_eq_nil_of_le (by omega)] at e7
        simp only [lcLoop, Option.some.injEq, Prod.mk.injEq] at e7
        obtain ⟨rfl, rfl⟩ := e7
        refine .inl ⟨wk.stop _ s4 i (by omega) hile, ?_⟩
        obtain ⟨Rb, ob, lb⟩ := back_ok R3 R4 s4 hp
        have sb : Stp (wd σ old F2 H2) (wd σ (backE old env4 vs) F' H') := ⟨s4.k, s4.t, fun x h => s4.o x (ob x h), fun x h => s4.l x (lb x h), s4.f, s4.g⟩
        have rrb : RR X.K F' H' σ (backE old env4 vs) (.fr acc) (.ref D) := by
          obtain ⟨a1, xs1, ea, h1, z, r, n1, n2, n3⟩ := rr4
          exact ⟨a1, xs1, ea, h1, z, r, n1, fun q => n2 (by cases ea; exact ob _ q), fun q => n3 (by cases ea; exact lb _ q)⟩
        refine q (.ref D) F' H' (unlend_ok _ Rb).1 (s2.trans ?_) (RR.unlend Rb rrb) fun x ex => ?_
        · refine back_stp (Stp.refl _) (fun i hi => ?_) (fun i hi => rfl) (s3.trans sb) Rb
          rcases List.mem_append.mp hi with hi | hi
          · exact (lend1_own hi).2
          · exact (lend1_own hi).2
        · cases ex
          exact .inr (s2.new hD)
theorem sE_lc (g : Gd X N sc k) {own : List (Str × Nat)} {tup : Bool} {tg : List Nat} {ik : IK} {a b c el : E} {x t it : Expr} {ifs : List Expr} {scope : Scope} {pos : Pos}
    (hI : SI X t it ik (ev a) (fun env => ev b env)) (hs : noSet it = true) (hb : blkC N sc scope own = true) (ht : chTg N scope tup tg t = true) (hi : ∀ i ∈ tg, i ∈ own.map (·.2))
    (hE : ∀ (s : Shared) (H : Hp) (C : Addr) (cl : List (Str × Addr)) (fp : List Addr), SE (X.blk s H scope (compEnvC scope cl C X.env) fp) x (ev el))
    (hC : ∀ (s : Shared) (H : Hp) (C : Addr) (cl : List (Str × Addr)) (fp : List Addr), PTs (X.blk s H scope (compEnvC scope cl C X.env) fp) ifs (canT X.K (evC c.isNo fun env => ev c env))) :
    SE X (.ListComp x [⟨t, it, ifs, 0⟩] scope pos) (ev (.lc own tup tg ik a b c el)) := by
  obtain ⟨wi, pi, hI⟩ := hI
  have hbk : BlkOk X.N X.env.scope scope own := blkOk_by (by rw [g.nn, g.ss]; exact hb)
  refine ⟨tLc wi (canG X.K tup tg) (canT X.K (evC c.isNo fun env => ev c env)) (canE X.K (ev el)) (own.map (·.2)), pe_lc g.calm g.ndX pi hbk (fun s H C cl fp => sG (X := X.blk s H scope (compEnvC scope cl C X.env) fp) (N := N) (sc := scope) g.nn g.nd g.calm (fun x h => blk_loc x h) ht) hC (fun s H C cl fp => (hE s H C cl fp).can) (noFold hs), lc_sem hI hi⟩
end
end Ev

/-! sorted(xs, key=f) over the heap alone, where a state's own invariant J is kept by f's calls. -/
namespace Lk
open PySem PySem.W PySem.Calls PyProof.Rows

section
variable {prog : Program} {w : World} {A : Around} {E : Value → Shared → Prop} {s : Shared} {vs : List Value} {kz : List PyData} {f : Value}

theorem rest {a kS : Addr} {b : Bool} {e1 : Nat} {P : PySem.Fin → Shared → Prop} (J : Nat → List Value → Shared → Prop) (nk : s.heap.get? kS = some (seqObj "list" #[] 0)) (na : s.heap.get? a = some (seqObj "list" #[] e1)) (ne : kS ≠ a)
    (hl : kz.length = vs.length) (hz : vs.length ≤ sizeLine) (hal : AllAlike kz) (hsk : Sortable kz) (hu : ∀ d, d ∈ kz → A.units + d.depth < cLine) (j0 : J 0 [] s) (ln : ∀ i us s1, J i us s1 → us.length = i)
    (turn : ∀ (i : Nat) (v : Value) (us : List Value) (s1 : Shared) (e : Nat), vs[i]? = some v → J i us s1 → s1.heap.get? kS = some (seqObj "list" us.toArray e) → s1.heap.get? a = some (seqObj "list" #[] e1) →
      wpAny (model prog w) A (call f [v]) (fun u s2 => s2.heap.get? kS = some (seqObj "list" us.toArray e) ∧ s2.heap.get? a = some (seqObj "list" #[] e1) ∧
        ∀ g c, Heap.SameBut kS s2.heap g → g.get? kS = some (seqObj "list" (us ++ [u]).toArray c) → J (i + 1) (us ++ [u]) { s2 with heap := g }) (fun _ _ => False) s1)
    (je : ∀ us s1, J vs.length us s1 → EachIs (fun v k => ∃ as, Reads s1.heap v k as) us kz)
    (h : ∀ us s1 g t out c, J vs.length us s1 → (∀ x o, x ≠ a → x ≠ kS → s1.heap.get? x = some o → g.get? x = some o) → g.get? a = some (seqObj "list" (List.toArray out) c) → KeyedOut b kz vs out → P (.done (.ret .none)) { s1 with heap := g, toks := t }) :
    wpAny (model prog w) A (ksk_rest a f b vs.toArray e1 (.ref kS)) P E s := by
  unfold ksk_rest; refine wpAny_bind (wpAny_rule ?_)
  first
    | rw [List.forIn_toArray]
    | (rw [← Array.forIn_toList]; simp only [List.toList_toArray])
  refine wpAny_bind (ksk_fold (fun i s' => ∃ (us : List Value) (e : Nat), J i us s' ∧ s'.heap.get? kS = some (seqObj "list" us.toArray e) ∧ s'.heap.get? a = some (seqObj "list" #[] e1)) vs 0 s ⟨[], 0, j0, nk, na⟩ ?st ?dn)
  case st =>
    rintro j x s' hx ⟨us, e, hJ, k1, k2⟩
    simp only [Nat.zero_add] at hJ ⊢
    have hj : j < vs.length := (List.getElem?_eq_some_iff.mp hx).1
    have hus := ln _ _ _ hJ
    refine wpAny_bind (wpAny_attempt (wpAny_mono (turn j x us s' e hx hJ k1 k2) (fun u s2 hq => ?_) fun _ _ z => z.elim))
    obtain ⟨n1, n2, n3⟩ := hq
    try dsimp only
    have sb := Heap.SameBut.update s2.heap kS (Obj.mapSeq (·.push u))
    obtain ⟨c, hc⟩ : ∃ c, (s2.heap.update kS (Obj.mapSeq (·.push u))).get? kS = some (seqObj "list" (us.toArray.push u) c) := ⟨_, get?_update_seq n1 (·.push u)⟩
    have ea : us.toArray.push u = (us ++ [u]).toArray := by simp
    have zz : us.toArray.size ≤ sizeLine := by rw [List.size_toArray]; omega
    refine wpAny_bind (listUpdate_at n1 rfl ?_ zz (Nat.le_trans (Nat.le_of_eq (Array.size_push ..)) (Nat.succ_le_succ zz)))
    rw [ea] at hc
    exact wpAny_pure ⟨rfl, us ++ [u], c, n3 _ c sb hc, hc, (sb.2 a ne.symm).trans n2⟩
  case dn =>
    rintro s' ⟨us, e, hJ, k1, k2⟩
    simp only [Nat.zero_add] at hJ
    have hk := je us s' hJ
    have hus := ln _ _ _ hJ
    try dsimp only
    refine wpAny_bind (listItems_at k1 rfl ?_)
    refine keyH_end (κ := dataKind s'.heap kz) (h₁ := hideAll s'.heap [kS]) (fun x o _ q => of_hideAll [kS] q) (hideAll_none [kS] (by simp)) k1 k2 ne (SortsAt.data (s := s') hk hal hsk hu) (by rw [List.size_toArray]; exact hus) hz fun g t c kp hD => ?_
    exact h us s' g t _ c hJ (fun x o n1 n2 q => kp x o n1 (hideAll_get [kS] q (by simpa using n2))) hD ⟨s'.heap, us, hal, rfl, hk⟩

theorem sorted {l : Addr} {kw : List (Str × Value)} {b : Bool} {Q : Value → Shared → Prop} (J : Addr → Addr → Nat → List Value → Shared → Prop) (hl : s.heap.IsList l vs.toArray) (hz : vs.length ≤ sizeLine) (hlen : kz.length = vs.length)
    (hal : AllAlike kz) (hsk : Sortable kz) (hu : ∀ d, d ∈ kz → A.units + 2 + d.depth < cLine) (ha1 : argsOk "sorted" ⟨[.ref l], kw⟩) (ha2 : ∀ x, argsOk "list.sort" ⟨[.ref x], kw⟩) (ht : ∀ x, Builtin.«list.sort» ⟨[.ref x], kw⟩ = ksk_tree x f b)
    (ln : ∀ a kS i us s1, J a kS i us s1 → us.length = i)
    (j0 : ∀ a kS g, (∀ x o, s.heap.get? x = some o → g.get? x = some o) → s.heap.objs.size ≤ a → s.heap.objs.size ≤ kS → J a kS 0 [] { s with heap := g })
    (turn : ∀ (a kS : Addr) (i : Nat) (v : Value) (us : List Value) (s1 : Shared) (e e1 : Nat), s.heap.objs.size ≤ a → s.heap.objs.size ≤ kS → kS ≠ a → vs[i]? = some v → J a kS i us s1 → s1.heap.get? kS = some (seqObj "list" us.toArray e) → s1.heap.get? a = some (seqObj "list" #[] e1) →
      wpAny (model prog w) A.in1.in1 (call f [v]) (fun u s2 => s2.heap.get? kS = some (seqObj "list" us.toArray e) ∧ s2.heap.get? a = some (seqObj "list" #[] e1) ∧
        ∀ g c, Heap.SameBut kS s2.heap g → g.get? kS = some (seqObj "list" (us ++ [u]).toArray c) → J a kS (i + 1) (us ++ [u]) { s2 with heap := g }) (fun _ _ => False) s1)
    (je : ∀ a kS us s1, J a kS vs.length us s1 → EachIs (fun v k => ∃ as, Reads s1.heap v k as) us kz)
    (h : ∀ a kS us s1 g t out c, s.heap.objs.size ≤ a → s.heap.objs.size ≤ kS → kS ≠ a → J a kS vs.length us s1 → (∀ x o, x ≠ a → x ≠ kS → s1.heap.get? x = some o → g.get? x = some o) → g.get? a = some (seqObj "list" (List.toArray out) c) → KeyedOut b kz vs out → out.length = vs.length → Q (.ref a) { s1 with heap := g, toks := t }) :
    wpAny (model prog w) A (call (.builtin "sorted") [.ref l] kw) Q E s := by
  refine sorted_of_sort hl hz ha1 ha2 fun E' => ?_
  rw [ht]
  have ho := copyHeap_at s.heap vs
  generalize hg0 : copyHeap s.heap vs = g0 at ho
  have old0 : ∀ x o, s.heap.get? x = some o → g0.get? x = some o := fun x o q => by rw [← hg0]; exact copyHeap_old q
  generalize ha : s.heap.objs.size + 1 = a at ho
  have na : a < g0.objs.size := Heap.lt_size ho
  obtain ⟨e1, ho1⟩ : ∃ e1, (g0.update a (Obj.mapSeq fun _ => (#[] : Array Value))).get? a = some (seqObj "list" #[] e1) := ⟨_, get?_update_seq ho fun _ => #[]⟩
  have hkS : ((g0.update a (Obj.mapSeq fun _ => (#[] : Array Value))).push (seqObj "tuple" vs.toArray 0)).objs.size = g0.objs.size + 1 := by
    rw [size_push', Heap.size_update]
  unfold ksk_tree
  refine wpAny_bind (listItems_at ho rfl ?_); refine wpAny_bind (listUpdate_at ho rfl ?_ (by rw [List.size_toArray]; exact hz) (Nat.zero_le _)); refine wpAny_bind (seqEpoch_at ho1 rfl ?_)
  refine wpAny_bind (wpAny_newTuple ?_ (show vs.length ≤ _ from hz)); refine wpAny_bind (wpAny_newList ?_ (Nat.zero_le _)); refine wpAny_holding ?_
  have la : s.heap.objs.size ≤ a := by omega
  have lk : s.heap.objs.size ≤ ((g0.update a (Obj.mapSeq fun _ => (#[] : Array Value))).push (seqObj "tuple" vs.toArray 0)).objs.size := by
    rw [hkS]; omega
  have nka : ((g0.update a (Obj.mapSeq fun _ => (#[] : Array Value))).push (seqObj "tuple" vs.toArray 0)).objs.size ≠ a := by
    rw [hkS]; omega
  have oldS : ∀ x o, s.heap.get? x = some o → (sortingHeap g0 a vs).get? x = some o := fun x o q => by
    have lx : x < s.heap.objs.size := Heap.lt_size q
    have nx : x ≠ a := Nat.ne_of_lt (Nat.lt_of_lt_of_le lx la)
    exact sortingHeap_old nx (old0 x o q)
  refine rest (s := { s with heap := ((g0.update a (Obj.mapSeq fun _ => (#[] : Array Value))).push (seqObj "tuple" vs.toArray 0)).push (seqObj "list" #[] 0) }) (kS := ((g0.update a (Obj.mapSeq fun _ => (#[] : Array Value))).push (seqObj "tuple" vs.toArray 0)).objs.size) (J a _)
    (Heap.get?_push_size _ rfl) (Heap.get?_push_of_some _ (Heap.get?_push_of_some _ ho1)) nka hlen hz hal hsk (fun d hd => by have := hu d hd; show A.units + 1 + 1 + d.depth < _; omega) (j0 a _ _ oldS la lk) (ln a _) (fun i v us s1 e hv hJ q1 q2 => turn a _ i v us s1 e e1 la lk nka hv hJ q1 q2) (je a _) fun us s1 g t out c hJ kp hD ko => ⟨rfl, ?_⟩
  exact h a _ us s1 g t out c la lk nka hJ kp hD ko (ko.length hlen)
end
end Lk

/-! sorted(xs, key=lambda x: ..). -/
namespace Ev
open PySem PySem.Spec PyProof.Rows L2 NdefX LamX

section
variable {X : Cx} {pins : List (Addr × Obj)} {σ : L2.St} {H : Hp} {s : Shared}
theorem lm_make {T : List (Addr × Str)} {c P : Addr} {params : Arguments} {body : Expr} {scope : Scope} {pos : Pos} {E Q : Value → Shared → Prop} (I : L2.Inv X pins σ H s) (TB : TabB X.base X.mg c P) (hcode : X.env.code = .ref c)
    (hm : (P, X.env.qual ++ "<lambda>") ∈ T) (hu : ∀ p ∈ T, p.1 = P → p.2 = X.env.qual ++ "<lambda>") (hT : Tabs T H) (hdef : defaultsOf params X.env = ([], [])) (hfree : ∀ y ∈ scope.names, y.2 = .free → ∃ c, X.env.cells.lookup y.1 = some c)
    (h : ∀ (f c' : Addr) (pm ctv : Value) (G : Hp) (s' : Shared), L2.Inv X pins σ G s' → ExtN H G → (∀ b, G b = none → H b = none) → Tabs T G →
      s'.heap.get? f = some (PySem.W.kla_obj "<lambda>" (X.env.qual ++ "<lambda>") params body scope (cloFrom X.env.cells scope.names []) pm c' ctv) → G f = none → f ∉ frs X.stack → G c' = some (CodeO c' (X.env.qual ++ "<lambda>")) → (∀ b o, s.heap.get? b = some o → ∃ o', s'.heap.get? b = some o') → Q (.ref f) s') :
    wpAny (model X.prog X.w) X.A (eval (.Lambda params body scope pos) X.env) Q E s := by
  obtain ⟨ps, hP, ht, ha⟩ := hT _ hm
  have bP : s.heap.BuiltinsAt X.mg P := TB.bm.keeps I.bk
  have hP2 : s.heap.get? P = some { cls := .none, data := .fields ps } := I.hok P _ hP
  have nofr : ∀ f, s.heap.objs.size ≤ f → f ∉ frs X.stack := by
    intro f hf z
    rcases List.mem_cons.mp (I.stkSub _ z) with e | e
    · have h1 := I.lt; rw [← e] at h1
      exact Nat.lt_irrefl _ (Nat.lt_of_lt_of_le h1 hf)
    · exact I.nofs hf e
  refine PySem.W.kla_eval hdef ?_
  generalize hq : X.env.qual ++ "<lambda>" = q at hm hu h ha ⊢
  cases hc : codeAmong pos ps.toList with
  | some cv =>
    obtain ⟨c', e, hco⟩ := ha pos cv hc
    subst e
    refine PySem.W.kla_makeFunctionHit (c := c) (P := P) (ps := ps) (closure_ok hfree) I.ok.glob (I.mod.glob.keeps I.bk) hcode (TB.code.keeps I.bk) hP2 ht hc bP ?_
    intro ctv g tk hx hsz
    have J : L2.Inv X pins σ H { s with heap := g.push (PySem.W.kla_obj "<lambda>" q params body scope (cloFrom X.env.cells scope.names []) ((X.mg "__name__").getD .none) c' ctv), toks := tk } := I.kept fun b o e => Heap.get?_push_of_some _ (hx b o e)
    exact h _ _ _ _ H _ J (ExtN.refl H) (fun _ z => z) hT (Heap.get?_push_size _ rfl) (I.hok.fresh hsz) (nofr _ hsz) hco fun b o e => ⟨o, Heap.get?_push_of_some _ (hx b o e)⟩
  | none =>
    refine PySem.W.kla_makeFunction (c := c) (P := P) (ps := ps) (closure_ok hfree) I.ok.glob (I.mod.glob.keeps I.bk) hcode (TB.code.keeps I.bk) hP2 ht hc TB.gP bP ?_
    intro c' ctv g tk hx hge hlt hrec htb
    obtain ⟨c2, oc, vs, t, e2, hoc, hd, hv⟩ := hrec
    cases e2
    have hsz : s.heap.objs.size ≤ g.objs.size := Nat.le_trans hge (Nat.le_of_lt hlt)
    have nC : H c' = none := I.hok.fresh hge
    generalize hmo : (#[rawInt pos.line, rawInt pos.col, .ref c'] : Array Value) = more at htb
    have J := inv_table (t' := tk) (more := more) (q := q) (h' := g.push (PySem.W.kla_obj "<lambda>" q params body scope (cloFrom X.env.cells scope.names []) ((X.mg "__name__").getD .none) c' ctv)) I hP
      (fun b o hb e => Heap.get?_push_of_some _ (hx b o hb e)) (Heap.get?_push_of_some _ htb) hge ⟨oc, vs, t, Heap.get?_push_of_some _ hoc, hd, hv⟩
    have hE : ExtN H (upd (upd H P (.tbl (ps ++ more))) c' (CodeO c' q)) := by
      intro b o e n
      rw [upd_ne (ne_of_none e nC), upd_ne (fun z => n ps (Option.some.inj (e.symm.trans (by rw [z]; exact hP))))]; exact e
    have nP : P ≠ c' := ne_of_none hP nC
    have n1 : g.objs.size ≠ c' := Nat.ne_of_gt hlt
    have n2 : g.objs.size ≠ P := Nat.ne_of_gt (Nat.lt_of_lt_of_le (Heap.lt_size hP2) hsz)
    refine h _ _ _ _ _ _ J hE (fun b e => upd_none (upd_none e)) ?_ (Heap.get?_push_size _ rfl) ?_ (nofr _ hsz) upd_same fun b o e => ?_
    · intro p hp
      by_cases hb : p.1 = P
      · rw [hu p hp hb, hb]
        have eL : (ps ++ more).toList = ps.toList ++ [rawInt pos.line, rawInt pos.col, .ref c'] := by rw [← hmo]; simp
        refine ⟨ps ++ more, by rw [upd_ne nP, upd_same], by rw [eL]; exact PySem.TriplesOk_snoc _ _ _ _ ht, ?_⟩
        intro p' cv hcv
        rw [eL] at hcv
        rcases among_app _ ht hcv with z | z
        · obtain ⟨c0, e1, e2⟩ := ha p' cv z; exact ⟨c0, e1, hE _ _ e2 codeO_ne⟩
        · exact ⟨c', z, upd_same⟩
      · obtain ⟨pz, a1, a2, a3⟩ := hT p hp
        refine ⟨pz, by rw [upd_ne (ne_of_none a1 nC), upd_ne hb]; exact a1, a2, ?_⟩
        intro p' cv hcv
        obtain ⟨c0, e1, e2⟩ := a3 p' cv hcv; exact ⟨c0, e1, hE _ _ e2 codeO_ne⟩
    · rw [upd_ne n1, upd_ne n2]; exact I.hok.fresh hsz
    · by_cases hb : b = P
      · rw [hb]; exact ⟨_, Heap.get?_push_of_some _ htb⟩
      · exact ⟨o, Heap.get?_push_of_some _ (hx b o hb e)⟩
end
theorem lm_run {CX : CXT} {P : Program} {w : World} {K : PySem.W.Frag} {mg : Str → Option Value} {base : Heap} {N ps fr : List Str} {F : NF} {f : Addr} {params : Arguments} {body : Expr} {pm ctv : Value} {A : Around} {outer : List Env} {s : Shared} {H : Hp} {E : XK} {us : List Value} {vs : List V} {ws : List (Option V)} {Q : VK} {tb : TE}
    (S : NScope N ps fr F.scope) (hb : bindArgs (PySem.W.kla_fn "<lambda>" F.qual params body F.scope F.cl pm (.ref F.c) ctv) ⟨us, []⟩ = pure (ps.zip us)) (hd : A.handled = none) (hdp : A.depth < recursionLimit) (e0 : Env0 P w K mg base A outer s H)
    (ho : s.heap.get? f = some (PySem.W.kla_obj "<lambda>" F.qual params body F.scope F.cl pm F.c ctv)) (hc : H F.c = some (CodeO F.c F.qual)) (C : CellsAt F.cl fr ws s.heap H) (r : Vals vs us) (hl : vs.length = ps.length)
    (hbody : PE (ncx CX P w K mg base N F f A outer s H E) body tb) (hq : tb (startF N vs ws) H Q) : codeAny (model P w) A (.call (.ref f) ⟨us, []⟩) (CR CX outer P w H s Q E) s := by
  obtain ⟨c2, oc, zs, t, q1, q2, q3, q4⟩ := codeO_at e0.hok hc
  have lim : s.heap.NoLimit := e0.mod.nolimit.keeps fun b o e => (e0.bs b o e).1
  refine PySem.W.kla_callFunE hdp ho rfl S.co S.gen rfl ⟨c2, oc, zs, t, q1, q2, q3, q4⟩ ?_
  rw [hb]
  refine wpAny_pure (wpAny_newFunctionEnv S.nocell (fun ⟨n, _⟩ hy => S.par n (List.of_mem_zip hy).1) ?_ S.kind)
  intro h₁ hns hsb
  refine ⟨lim.fresh _ hsb, ?_⟩
  show codeAny _ _ (.expr body (envF F f s.heap.objs.size)) _ _
  have kp : ∀ b o, s.heap.get? b = some o → h₁.get? b = some o := fun b o e => hsb.extBut b o (Nat.ne_of_lt (Heap.lt_size e)) (Heap.get?_push_of_some _ e)
  have J : L2.Inv (ncx CX P w K mg base N F f A outer s H E) [] (startF N vs ws) H { s with heap := h₁, toks := s.toks + (ps.zip us).length } := inv_startN S hd e0 hl r C hns kp
  refine PySem.W.kla_codeExpr (wpAny_mono (hbody.run [] _ _ H Q J hq) ?_ fun e s' z => z)
  rintro v s' ⟨w', G, J', rv, q⟩
  exact ⟨w', G, J'.os, J'.bare, J'.base, J'.hok, rv, q⟩
end Ev

/-! sorted(xs, key=lambda x: ..), what the evaluator says of it. -/
namespace Ev
open PySem PySem.Spec PySem.W PyProof.Rows L2 NdefX LamX

section
variable {X : Cx} {pins : List (Addr × Obj)} {σ : L2.St} {H G : Hp} {s s0 : Shared} {g : Heap}
theorem inv_ch {ch : List Addr} (I0 : L2.Inv X pins σ H s0) (I : L2.Inv X pins σ G s) {t' : Nat} (hch : ∀ b ∈ ch, s0.heap.objs.size ≤ b) (hn : ∀ b ∈ ch, G b = none) (k : ∀ b o, b ∉ ch → s.heap.get? b = some o → g.get? b = some o) {G' : Hp} (old : ∀ b, b ∉ ch → G' b = G b)
    (new : ∀ b o, b ∈ ch → G' b = some o → ObjOk X.prog X.w G' g b o) : L2.Inv X pins σ G' { s with heap := g, toks := t' } := by
  have up : ∀ b o, G b = some o → b ∉ ch := fun b o e z => by rw [hn b z] at e; cases e
  have l0 : ∀ b o, s0.heap.get? b = some o → b ∉ ch := fun b o e z => absurd (Nat.lt_of_lt_of_le (Heap.lt_size e) (hch b z)) (Nat.lt_irrefl _)
  have nL : X.env.locals ∉ ch := fun z => absurd (Nat.lt_of_lt_of_le I0.lt (hch _ z)) (Nat.lt_irrefl _)
  refine I.step (g' := s.gens) (d' := s.drawn) (ch := ch) (fun b hb => ⟨.inr ?_, fun z => nL (z ▸ hb), fun x c e z => ?_, fun p hp z => ?_⟩) (fun b o _ _ hc e _ => k b o hc e) (fun b o _ _ hc e _ => ⟨o.slots, k b o hc e⟩) (fun b o hc _ n => by rw [old b hc]; exact n) (fun b o hc e => ⟨o, k b o hc e⟩)
    (fun b xs e => by rw [old b (up b _ e)]; exact e) (fun b o u e => by rw [old b (up b _ e)]; exact e) (fun b ps e => ⟨#[], by rw [old b (up b _ e), e]; simp⟩) (fun m ⟨o, es, ep, e, r⟩ => ⟨o, es, ep, k _ _ nL e, r⟩) (fun b o e => ?_) I.bare
  · exact Nat.le_trans I0.ok.above (Nat.le_trans (Nat.le_of_lt I0.lt) (hch b hb))
  · obtain ⟨v, oc, e1, _⟩ := I0.cell x c e
    exact l0 c oc e1 (z ▸ hb)
  · exact l0 p.1 _ (I0.pin p hp).1 (z ▸ hb)
  · by_cases hb : b ∈ ch
    · exact new b o hb e
    · rw [old b hb] at e
      refine (I.hok b o e).stay (fun c v hc q => k c v ?_ q) (fun c q => by rw [old c (up c _ q)]; exact q) fun c xs q => by rw [old c (up c _ q)]; exact q
      rcases hc with z | z
      · rw [z]; exact hb
      · exact up c _ z
end

/-! ### lists side by side -/
theorem each_zip {κ : Type} {D : Type} : ∀ {vs : List Value} {xs : List V} {ζ : List κ} {l : List D}, Vals xs vs → ζ.length = xs.length → l.length = xs.length → EachIs (fun v (b : κ × (V × D)) => RelV b.2.1 v) vs (ζ.zip (xs.zip l))
  | _, _, _, _, .nil, h1, h2 => by
    cases List.length_eq_zero_iff.mp h1
    exact .nil
  | _, _, [], _, .cons _ _, h1, _ => by cases h1
  | _, _, _ :: _, [], .cons _ _, _, h2 => by cases h2
  | _, _, _ :: _, _ :: _, .cons r rs, h1, h2 => .cons r (each_zip rs (by simpa using h1) (by simpa using h2))
theorem vals_each {κ D : Type} : ∀ {vs : List Value} {bs : List (κ × (V × D))}, EachIs (fun v b => RelV b.2.1 v) vs bs → Vals (bs.map (·.2.1)) vs
  | _, _, .nil => .nil
  | _, _, .cons r rs => .cons r (vals_each rs)
theorem zip_fst3 {κ α β : Type} : ∀ {ζ : List κ} {xs : List α} {l : List β}, ζ.length = xs.length → l.length = xs.length → (ζ.zip (xs.zip l)).map (fun b => (b.1, b.2.2)) = ζ.zip l
  | [], _, _, _, _ => rfl
  | _ :: _, [], _, h, _ => by cases h
  | _ :: _, _ :: _, [], _, h => by cases h
  | a :: ζ, x :: xs, y :: l, h1, h2 => by
    rw [List.zip_cons_cons, List.zip_cons_cons, List.map_cons, zip_fst3 (by simpa using h1) (by simpa using h2)] <;> rfl
theorem zip_key {κ α β : Type} : ∀ {ζ : List κ} {xs : List α} {l : List β}, ζ.length = xs.length → l.length = xs.length → (ζ.zip (xs.zip l)).map (·.1) = ζ
  | [], _, _, _, _ => rfl
  | _ :: _, [], _, h, _ => by cases h
  | _ :: _, _ :: _, [], _, h => by cases h
  | a :: ζ, x :: xs, y :: l, h1, h2 => by
    rw [List.zip_cons_cons, List.zip_cons_cons, List.map_cons, zip_key (by simpa using h1) (by simpa using h2)]
theorem zip_mem {κ α β : Type} {R : α → β → Prop} : ∀ {ζ : List κ} {xs : List α} {l : List β}, ζ.length = xs.length → Paired R xs l → ∀ b ∈ ζ.zip (xs.zip l), R b.2.1 b.2.2
  | [], _, _, _, _ => fun b h => by simp at h
  | _ :: _, [], _, h, _ => by cases h
  | a :: ζ, x :: xs, y :: l, h1, .cons r rs => fun b h => by
    rw [List.zip_cons_cons, List.zip_cons_cons, List.mem_cons] at h
    rcases h with rfl | h
    · exact r
    · exact zip_mem (by simpa using h1) rs b h
theorem RpL.paired {K : PySem.W.Frag} {F : Addr → Prop} {H : Hp} : ∀ {vs : List V} {ds : List D}, RpL K F H vs ds → Paired (Rp K F H) vs ds
  | _, _, .nil => .nil
  | _, _, .cons h r => .cons h r.paired
theorem RpL.of_mem {K : PySem.W.Frag} {F : Addr → Prop} {H : Hp} {κ : Type} : ∀ {bs : List (κ × (V × D))}, (∀ b ∈ bs, Rp K F H b.2.1 b.2.2) → RpL K F H (bs.map (·.2.1)) (bs.map (·.2.2))
  | [], _ => .nil
  | _ :: bs, h => .cons (h _ List.mem_cons_self) (RpL.of_mem fun b hb => h b (List.mem_cons_of_mem _ hb))
structure KyOk (κ : Type) (enc : κ → D) (le : κ → κ → Bool) : Prop where
  le : ∀ {β : Type} (k : β → κ), PySem.W.dataLe false (fun b => enc (k b)) = fun a b => le (k a) (k b)
  al : ∀ a b, PySem.W.alike (enc a) (enc b) = true
  so : (∀ b, ∃ x r, enc b = .tuple (x :: r)) ∨ ∀ b, enc b ≠ .none ∧ ∀ xs, enc b ≠ .tuple xs
  dp : ∀ a, (enc a).depth ≤ 1
  cl : ∀ a, (enc a).canLay0 = true
theorem ky_int : KyOk Int PyData.int (fun a b => decide (a ≤ b)) where
  le := fun k => PySem.W.dataLe_int k
  al := fun _ _ => by simp [PySem.W.alike]
  so := .inr fun b => ⟨(fun z => by cases z), (fun _ z => by cases z)⟩
  dp := fun _ => by simp [PyData.depth]
  cl := fun _ => by simp [PyData.canLay0]
theorem ky_pair : KyOk (Int × Int) pairD lexLe where
  le := fun k => PySem.W.dataLe_ii (fun b => (k b).1) (fun b => (k b).2)
  al := fun _ _ => by simp [pairD, PySem.W.alike, PySem.W.alikeAll]
  so := .inl fun b => ⟨_, _, rfl⟩
  dp := fun _ => by simp [pairD, PyData.depth, PyData.depthAll]
  cl := fun _ => by simp [pairD, PyData.canLay0, PyData.canLayAll0]

section
variable {X : Cx} {N : List Str} {sc : Scope} {k : Nat}
theorem caps_er {K : PySem.W.Frag} {F : Addr → Prop} {H : Hp} {σ : L2.St} {env : Nv} (R : ER K F H σ env) : ∀ {is : List Nat} {cs : List Slot}, capS env is = some cs → cs.length = is.length ∧ ∀ (j : Nat) (t : Slot), cs[j]? = some t → ∃ d v, t = Slot.val d ∧ (is.map (slotAt σ))[j]? = some (some v) ∧ Rp K F H v d
  | [], cs, e => by cases e; exact ⟨rfl, fun j t h => by simp at h⟩
  | i :: is, cs, e => by
    unfold capS at e
    split at e
    · rename_i d hd
      rw [Option.map_eq_some_iff] at e
      obtain ⟨cs', e1, rfl⟩ := e
      obtain ⟨h1, h2⟩ := caps_er R e1
      obtain ⟨v, q1, q2⟩ := R.val hd
      refine ⟨by rw [List.length_cons, List.length_cons, h1], fun j t h => ?_⟩
      cases j with
      | zero =>
        cases h
        exact ⟨d, v, rfl, by show some (slotAt σ i) = _; rw [slotAt_of q1], q2⟩
      | succ j => exact h2 j t h
    · cases e
theorem keys_get {f : Nv → Option (Res × Nv)} {cs : List Slot} : ∀ {l ks : List D}, keysV f cs l = some ks → ks.length = l.length ∧ ∀ (i : Nat) (d : D), l[i]? = some d → ∃ k env', f (.val d :: cs) = some (.val k, env') ∧ ks[i]? = some k
  | [], ks, e => by cases e; exact ⟨rfl, fun i d h => by simp at h⟩
  | d :: l, ks, e => by
    simp only [keysV, Option.bind_eq_bind, Option.bind_eq_some_iff, Prod.exists] at e
    obtain ⟨r, env', e1, e2⟩ := e
    split at e2
    · rename_i k
      simp only [Option.bind_eq_some_iff, Option.some.injEq] at e2
      obtain ⟨ks', e3, rfl⟩ := e2
      obtain ⟨h1, h2⟩ := keys_get e3
      refine ⟨by rw [List.length_cons, List.length_cons, h1], fun i c h => ?_⟩
      cases i with
      | zero => cases h; exact ⟨k, env', e1, rfl⟩
      | succ i => exact h2 i c h
    · cases e2
theorem ints_map : ∀ {ks : List D} {ns : List Int}, intsD ks = some ns → ks = ns.map PyData.int
  | [], ns, e => by cases e; rfl
  | k :: ks, ns, e => by
    cases k <;> simp only [intsD, Option.map_eq_some_iff, reduceCtorEq] at e
    obtain ⟨ms, e1, rfl⟩ := e
    rw [ints_map e1, List.map_cons]
theorem pairs_map : ∀ {ks : List D} {ns : List (Int × Int)}, pairsD ks = some ns → ks = ns.map pairD
  | [], ns, e => by cases e; rfl
  | k :: ks, ns, e => by
    unfold pairsD at e
    split at e
    · rename_i h; cases h
    · rename_i a b r h
      cases h
      rw [Option.map_eq_some_iff] at e
      obtain ⟨ms, e1, rfl⟩ := e
      rw [pairs_map e1, List.map_cons] <;> rfl
    · cases e
theorem rpl_snoc {K : PySem.W.Frag} {F : Addr → Prop} {H : Hp} {vs : List V} {ds : List D} {v : V} {d : D} (r : RpL K F H vs ds) (h : Rp K F H v d) : RpL K F H (vs ++ [v]) (ds ++ [d]) := r.append (.cons h .nil)
theorem vals_getV : ∀ {vs : List V} {us : List Value} {i : Nat} {u : Value}, Vals vs us → us[i]? = some u → ∃ v, vs[i]? = some v ∧ RelV v u
  | _, _, _, _, .nil, e => by simp at e
  | _, _, 0, _, .cons r _, e => by cases e; exact ⟨_, rfl, r⟩
  | _, _, i + 1, _, .cons _ rs, e => by
    obtain ⟨v, h1, h2⟩ := vals_getV (i := i) rs (by simpa using e)
    exact ⟨v, by simpa using h1, h2⟩
theorem vals_snoc {v : V} {u : Value} : ∀ {vs : List V} {us : List Value}, Vals vs us → RelV v u → Vals (vs ++ [v]) (us ++ [u])
  | _, _, .nil, h => .cons h .nil
  | _, _, .cons r rs, h => .cons r (vals_snoc rs h)

theorem srt_gen {κ : Type} {enc : κ → D} {le : κ → κ → Bool} (ky : KyOk κ enc le) (g : Gd X N sc k) (hk : 1 ≤ k) {pins : List (Addr × Obj)} {σ : L2.St} {H : Hp} {s : Shared} {F : Addr → Prop} {env : Nv} {Q : VK} {n : Str} {is : List Nat} {fr : List Str} {ps : Arguments} {body : Expr} {ls : Scope} {b : E} {l : List D} {cs : List Slot} {ζ : List κ} {a0 f c' : Addr} {pm ctv : Value} {xs : List V}
    (I : L2.Inv X pins σ H s) (R : ER X.K F H σ env) (hsq : SqL X.K H a0 xs) (nO0 : RpL X.K F H xs l) (hf : s.heap.get? f = some (PySem.W.kla_obj "<lambda>" (X.env.qual ++ "<lambda>") ps body ls (cloFrom X.env.cells ls.names []) pm c' ctv)) (hfn : H f = none) (hff : f ∉ frs X.stack) (hco : H c' = some (CodeO c' (X.env.qual ++ "<lambda>")))
    (S : NScope (n :: fr) [n] fr ls) (hfree : ∀ y ∈ ls.names, y.2 = .free → X.env.scope.names.lookup y.1 = some .cell ∨ X.env.scope.names.lookup y.1 = some .free) (hfr : ∀ y ∈ fr, (y, NameKind.free) ∈ ls.names) (his : is.map (fun j => X.N[j]?) = fr.map some)
    (hbind : ∀ (q : Str) (cl : List (Str × Addr)) (pm cv ctv : Value) (u : Value), bindArgs (PySem.W.kla_fn "<lambda>" q ps body ls cl pm cv ctv) ⟨[u], []⟩ = pure [(n, u)])
    (hbody : ∀ (F : NF) (f : Addr) (A : Around) (s : Shared) (H : Hp), F.scope = ls → Room (k - 1) (A.deeper (envF F f s.heap.objs.size)) → SE (ncx CX0 X.prog X.w X.K X.mg X.base (n :: fr) F f A X.stack s H E0) body (ev b))
    (hcs : capS env is = some cs) (hks : keysV (fun env => ev b env) cs l = some (ζ.map enc))
    (hq : ∀ v F' H', ER X.K F' H' σ env → Stp (wd σ env F H) (wd σ env F' H') → RR X.K F' H' σ env (.fr (((ζ.zip l).mergeSort fun p q => le p.1 q.1).map (·.2))) v → Prov (wd σ env F H) (.fr (((ζ.zip l).mergeSort fun p q => le p.1 q.1).map (·.2))) v → Q v H') :
    wpAny (model X.prog X.w) X.A (call (.builtin "sorted") [.ref a0] [(Str.ofString "key", .ref f)]) (EP X pins σ Q) X.xe s := by
  obtain ⟨its, rv, hl, hz⟩ := I.list hsq
  obtain ⟨hkl, hkg⟩ := keys_get hks
  rw [List.length_map] at hkl
  have hxl : l.length = xs.length := nO0.length.symm
  have hil : its.length = xs.length := rv.length.symm
  have hζ : ζ.length = xs.length := hkl.trans hxl
  obtain ⟨hcl, hcg⟩ := caps_er R hcs
  let NF0 : NF := ⟨"<lambda>", X.env.qual ++ "<lambda>", ps, [], ls, cloFrom X.env.cells ls.names [], c'⟩
  have lf : f < s.heap.objs.size := Heap.lt_size hf
  have nofr : ∀ a, s.heap.objs.size ≤ a → a ∉ frs X.stack := fun a ha z => by
    rcases List.mem_cons.mp (I.stkSub _ z) with e | e
    · have h1 := I.lt
      rw [← e] at h1
      exact Nat.lt_irrefl _ (Nat.lt_of_lt_of_le h1 ha)
    · exact I.nofs ha e
  have hal : AllAlike (ζ.map enc) := AllAlike.of fun a b => ky.al a b
  have hso : Sortable (ζ.map enc) := by
    rcases ky.so with h | h
    · exact Sortable.tuples h
    · exact Sortable.others h
  refine Lk.sorted (kz := ζ.map enc) (f := .ref f) (b := false)
    (J := fun a kS i us s1 => us.length = i ∧ s1.heap.get? f = some (PySem.W.kla_obj "<lambda>" (X.env.qual ++ "<lambda>") ps body ls (cloFrom X.env.cells ls.names []) pm c' ctv) ∧ ∃ G F' zs, L2.Inv X pins σ G s1 ∧ ER X.K F' G σ env ∧ Stp (wd σ env F H) (wd σ env F' G) ∧ G a = none ∧ G kS = none ∧ G f = none ∧ Vals zs us ∧ RpL X.K F' G zs ((ζ.map enc).take i))
    hl.isList (by rw [hil]; exact hz) (by rw [List.length_map, hkl, hxl, hil]) hal hso (fun d hd => ?_) (ksk_s1 _ _) (fun x => ksk_l1 _ _) (fun x => ksk_t1 _ _) (fun a kS i us s1 h => h.1) (fun a kS g0 hg la lk => ?_) (fun a kS i v us s1 e e1 la lk nka hv hJ q1 q2 => ?_) (fun a kS us s1 hJ => ?_) fun a kS us s1 g0 t out c la lk nka hJ kp hD ko hol => ?_
  · obtain ⟨z, _, rfl⟩ := List.mem_map.mp hd
    have h1 := ky.dp z
    have h2 := g.room.un
    omega
  · exact ⟨rfl, hg _ _ hf, H, F, [], I.kept hg, R, Stp.refl _, I.hok.fresh la, I.hok.fresh lk, hfn, .nil, .nil⟩
  · -- a turn
    obtain ⟨hu, hf1, G, F', zs, I1, R1, s01, na, nk, nf, rz, rk⟩ := hJ
    obtain ⟨x, hx, rx⟩ := vals_getV rv hv
    obtain ⟨d, hd, rd⟩ := (RpL.mono (a := wd σ env F H) (b := wd σ env F' G) s01 R.ok nO0).getV hx
    obtain ⟨key, envL, hev, hkey⟩ := hkg i d hd
    have hc1 : G c' = some (CodeO c' (X.env.qual ++ "<lambda>")) := s01.k _ _ hco (fun z => by
      obtain ⟨ys, z⟩ := R.ok.ol _ z
      have z : H c' = some (.lst ys) := z
      rw [hco] at z
      have z : CodeO c' (X.env.qual ++ "<lambda>") = HO.lst ys := Option.some.inj z
      unfold CodeO at z; cases z) fun ps => codeO_ne ps
    have hA : (X.A.in1.in1).handled = none := I.ok.hd g.calm
    have cp : Caps X NF0.cl fr is := Caps.made I1.ok hfree hfr his
    obtain ⟨tb, pb, hb⟩ := hbody NF0 f X.A.in1.in1 s1 G rfl (by
      have r := g.room
      obtain ⟨j, rfl⟩ : ∃ j, k = j + 1 := ⟨k - 1, by omega⟩
      exact ⟨r.hd, by have := r.dp; show X.A.depth + 1 + 3 * j + 5 < _; omega, by have := r.un; show X.A.units + 1 + 1 + 3 + 16 * j + 200 < _; omega⟩)
    have RL : ER X.K F' G (startF (n :: fr) [x] (is.map (slotAt σ))) (.val d :: cs) := by
      have hfl : is.length = fr.length := by have := congrArg List.length his; simpa using this
      refine ⟨?_, fun j t h => ?_, fun i j a ho _ _ _ => ?_, R1.tr, R1.tb⟩
      · unfold startF
        simp [hcl, hfl]
      · cases j with
        | zero => cases h; exact ⟨some x, rfl, .val rd⟩
        | succ j =>
          obtain ⟨d', v', rfl, q5, q6⟩ := hcg j t h
          refine ⟨some v', ?_, .val (Rp.mono (a := wd σ env F H) (b := wd σ env F' G) s01 R.ok q6)⟩
          unfold startF
          show ([some x] ++ (is.map (slotAt σ) ++ _))[j + 1]? = _
          rw [List.getElem?_append_right (by simp), show j + 1 - [some x].length = j from rfl, List.getElem?_append_left (by have := (List.getElem?_eq_some_iff.mp q5).1; exact this)]
          exact q5
      · exfalso
        obtain ⟨l', h⟩ := ho
        have nv : ∀ (j : Nat) (t : Slot), (Slot.val d :: cs)[j]? = some t → ∃ d', t = .val d' := fun j t h => by
          cases j with
          | zero => cases h; exact ⟨_, rfl⟩
          | succ j => obtain ⟨d', _, e, _⟩ := hcg j t h; exact ⟨d', e⟩
        rcases h with h | h <;> (obtain ⟨_, e⟩ := nv _ _ h; cases e)
    have noL : ∀ y, ¬ OwnA (startF (n :: fr) [x] (is.map (slotAt σ))) (.val d :: cs) y := fun y ⟨j, l', q, _⟩ => by
      cases j with
      | zero => cases q
      | succ j => obtain ⟨d', _, e, _⟩ := hcg j _ q; cases e
    have hq1 : tb (startF (n :: fr) [x] (is.map (slotAt σ))) G (fun w G' => ∃ F'', Rp X.K F'' G' w key ∧ SameN G G' ∧ (∀ y, F' y → F'' y) ∧ (∀ y, F'' y → F' y ∨ G y = none) ∧ (∀ y, F'' y → ∃ o, G' y = some o) ∧ Tabs (tabsK X.K) G') := by
      refine hb F' G _ _ _ _ RL hev _ fun w F'' G' R' s' r' p' => ⟨F'', r', sameN_of s' noL, s'.f, fun y hy => ?_, R'.tr, R'.tb⟩
      rcases s'.g y hy with z | z | z
      · exact .inl z
      · exact absurd z (noL y)
      · exact .inr z
    have hdep : (X.A.in1.in1).depth < recursionLimit := by have := g.room.dp; show X.A.depth < _; omega
    have rc := lm_run (CX := CX0) (E := E0) (F := NF0) (f := f) (ps := [n]) (A := X.A.in1.in1) (us := [v]) (vs := [x]) S (hbind _ _ _ _ _ _) hA hdep I1.env0.in1.in1 hf1 hc1 (cells_of I1 cp) (.cons rx .nil) rfl pb hq1
    refine wpAny_call (codeAny_mono rc fun r s2 hr => ?_)
    cases r with
    | error e => exact (show False from hr).elim
    | ok fl =>
      cases fl with
      | next => exact False.elim hr
      | brk => exact False.elim hr
      | cont => exact False.elim hr
      | ret u =>
        obtain ⟨w, G', os, bare, un, hok, rw_, F'', k1, k2, k3, k4, k5, k6⟩ := hr
        obtain ⟨hh, gg, dd, tt, os'⟩ := s2
        obtain rfl : os' = s1.os := os
        have I2 : L2.Inv X pins σ G' { s1 with heap := hh, gens := gg, drawn := dd, toks := tt } := I1.call (h' := hh) (g' := gg) (d' := dd) (t' := tt) (ch := []) un hok bare fun b z => absurd z (by simp)
        have na2 : G' a = none := un.free a _ q2 na (by simp)
        have nk2 : G' kS = none := un.free kS _ q1 nk (by simp)
        have nf2 : G' f = none := un.free f _ hf1 nf (by simp)
        refine ⟨un.keep kS _ q1 nk (nofr _ lk) (by simp), un.keep a _ q2 na (nofr _ la) (by simp), fun g0 c sb hk => ?_⟩
        have hf2 : hh.get? f = _ := un.keep f _ hf1 nf hff (by simp)
        have nfk : f ≠ kS := Nat.ne_of_lt (Nat.lt_of_lt_of_le lf lk)
        have I3 := inv_ch (ch := [kS]) (G' := G') (g := g0) (t' := tt) I I2 (fun b hb => by rw [List.mem_singleton.mp hb]; exact lk) (fun b hb => by rw [List.mem_singleton.mp hb]; exact nk2) (fun b o hb e => (sb.2 b (fun z => hb (by rw [z]; exact List.mem_singleton_self _))).trans e) (fun _ _ => rfl) fun b o hb e => by
          rw [List.mem_singleton.mp hb, nk2] at e; cases e
        have s02 : Stp (wd σ env F' G) (wd σ env F'' G') := ⟨fun y o h _ nt => k2.k y o h nt, k2.t, fun _ h => .inl h, fun _ h => .inl h, k3, fun y hy => (k4 y hy).elim .inl fun z => .inr (.inr z)⟩
        have ownF : ∀ (j : Nat) (l' : List D), env[j]? = some (Slot.own l') → ∀ y, σ[j]? = some (some (.ref y)) → G' y = G y ∧ ¬ F'' y := fun j l' e1 y e2 => by
          obtain ⟨ov, e3, r⟩ := R1.sl j _ e1
          rw [e2] at e3; cases e3
          cases r with
          | own h1 _ _ nn =>
            refine ⟨(k2.k _ _ h1 nt_lst).trans h1.symm, fun z => ?_⟩
            rcases k4 y z with z | z
            · exact nn z
            · rw [h1] at z; cases z
        have R2 : ER X.K F'' G' σ env := R1.stp s02 ownF k5 k6
        refine ⟨by rw [List.length_append, hu, List.length_singleton], ?_, G', F'', zs ++ [w], I3, R2, s01.trans s02, na2, nk2, nf2, vals_snoc rz rw_, ?_⟩
        · show g0.get? f = _
          exact (sb.2 f nfk).trans hf2
        · rw [List.take_add_one, hkey]
          exact rpl_snoc (RpL.mono (a := wd σ env F' G) (b := wd σ env F'' G') s02 R1.ok rk) k1
  · -- the keys
    obtain ⟨hu, hf1, G, F', zs, I1, R1, s01, na, nk, nf, rz, rk⟩ := hJ
    rw [List.take_of_length_le (by rw [List.length_map, hkl, hxl, hil]; exact Nat.le_refl _)] at rk
    have key : ∀ {zs us} {ks : List D}, (∀ d ∈ ks, d.canLay0 = true) → Vals zs us → RpL X.K F' G zs ks → EachIs (fun v k => ∃ as, PySem.Reads s1.heap v k as) us ks := fun {zs us ks} hc rz => by
      induction rz generalizing ks with
      | nil => intro rk; cases rk; exact .nil
      | cons r rs ih =>
        intro rk
        cases rk with
        | cons h1 h2 => exact .cons (Dp.reads I1 _ _ _ (h1.dp (hc _ List.mem_cons_self)) r) (ih (fun d hd => hc d (List.mem_cons_of_mem _ hd)) h2)
    exact key (fun d hd => by obtain ⟨z, _, rfl⟩ := List.mem_map.mp hd; exact ky.cl z) rz rk
  · -- the end
    obtain ⟨hu, hf1, G, F', zs, I1, R1, s01, na, nk, nf, rz, rk⟩ := hJ
    have e1 : (ζ.zip (xs.zip l)).map (fun b => enc b.1) = ζ.map enc := by
      have h := congrArg (List.map enc) (zip_key (κ := κ) hζ hxl)
      rw [List.map_map] at h
      exact h
    have ko2 : KeyedOut false ((ζ.zip (xs.zip l)).map fun b => enc b.1) its out := by rw [e1]; exact ko
    have eo := keyedOut_each (R := fun v (b : κ × (V × D)) => RelV b.2.1 v) (fun b => enc b.1) ko2 (each_zip rv hζ hxl)
    rw [ky.le (fun b : κ × (V × D) => b.1)] at eo
    generalize hbs : (ζ.zip (xs.zip l)).mergeSort (fun a b => le a.1 b.1) = bs at eo
    have hp : bs.Perm (ζ.zip (xs.zip l)) := by rw [← hbs]; exact List.mergeSort_perm _ _
    have eD : ((ζ.zip l).mergeSort fun p q => le p.1 q.1).map (·.2) = bs.map (·.2.2) := by
      rw [← hbs, ← zip_fst3 hζ hxl, ← List.map_mergeSort (r := fun a b : κ × (V × D) => le a.1 b.1) (s := fun p q : κ × D => le p.1 q.1) (f := fun b => (b.1, b.2.2)) (fun _ _ _ _ => rfl), List.map_map] <;> rfl
    have rx1 : RpL X.K F' G xs l := RpL.mono (a := wd σ env F H) (b := wd σ env F' G) s01 R.ok nO0
    have rb : RpL X.K F' G (bs.map (·.2.1)) (bs.map (·.2.2)) := RpL.of_mem fun b hb => zip_mem hζ rx1.paired b (hp.mem_iff.mp hb)
    have ro : Vals (bs.map (·.2.1)) out := vals_each eo
    have lz : (bs.map (·.2.1)).length ≤ sizeLine := by rw [ro.length, hol, hil]; exact hz
    have I3 := inv_ch (ch := [a, kS]) (G' := upd G a (.lst (bs.map (·.2.1)))) (g := g0) (t' := t) I I1 (fun b hb => by
        rcases List.mem_cons.mp hb with z | z
        · rw [z]; exact la
        · rw [List.mem_singleton.mp z]; exact lk) (fun b hb => by
        rcases List.mem_cons.mp hb with z | z
        · rw [z]; exact na
        · rw [List.mem_singleton.mp z]; exact nk) (fun b o hb e => kp b o (fun z => hb (by simp [z])) (fun z => hb (by simp [z])) e) (fun b hb => upd_ne fun z => hb (by simp [z])) fun b o hb e => by
        by_cases hba : b = a
        · rw [hba, upd_same] at e
          cases e
          rw [hba]
          exact ⟨lz, out, c, ro, hD⟩
        · rcases List.mem_cons.mp hb with z | z
          · exact absurd z hba
          · rw [upd_ne hba, List.mem_singleton.mp z, nk] at e; cases e
    obtain ⟨a1, a2, a3, a4⟩ := fin1 (r := .fr (bs.map (·.2.2))) R1 (same_upd na) (.newL (xs := bs.map (·.2.1)) na lz rb)
    rw [eD] at hq
    exact ⟨.ref a, _, I3, rfl, hq _ _ _ a1 (s01.trans a2) a3 (a4.mono s01)⟩
theorem bind1 (q : Str) (n : Str) (ap : Pos) (body : Expr) (ls : Scope) (cl : List (Str × Addr)) (pm cv ctv u : Value) : bindArgs (PySem.W.kla_fn "<lambda>" q ⟨[], [⟨n, none, ap⟩], none, [], [], none, []⟩ body ls cl pm cv ctv) ⟨[u], []⟩ = pure [(n, u)] := by
  have e : (([(n, u)] : List (Str × Value)).lookup n) = some u := by simp [List.lookup]
  have h : ∀ fd : FuncData, fd.params = ⟨[], [⟨n, none, ap⟩], none, [], [], none, []⟩ → fd.defaults = .none → fd.kwdefaults = .none → bindArgs fd ⟨[u], []⟩ = pure [(n, u)] := by
    intro fd h1 h2 h3
    unfold bindArgs
    rw [h1, h2, h3]
    simp [seqItems?, e]
    rfl
  exact h _ rfl rfl rfl
theorem lamP_ok {n : Str} {ps : Arguments} (h : lamP n ps = true) : ∃ ap, ps = ⟨[], [⟨n, none, ap⟩], none, [], [], none, []⟩ := by
  unfold lamP at h
  split at h
  · rename_i m ap
    exact ⟨ap, by rw [of_decide_eq_true h]⟩
  · cases h
theorem sE_srtK (g : Gd X N sc k) {a b : E} {n : Str} {is : List Nat} {fr : List Str} {ps : Arguments} {body y : Expr} {ls : Scope} {x : Str} {p lp kp pos : Pos} (hx : blB sc x "sorted" = true) (hm : X.mg "sorted" = none) (ha : SE X y (ev a)) (hs : noStar y = true) (hB : lamB N sc n is fr ps ls = true)
    (hbody : ∀ (F : NF) (f : Addr) (A : Around) (s : Shared) (H : Hp), F.scope = ls → Room (k - 1) (A.deeper (envF F f s.heap.objs.size)) → SE (ncx CX0 X.prog X.w X.K X.mg X.base (n :: fr) F f A X.stack s H E0) body (ev b)) :
    SE X (.Call (.Name x p) [y] [⟨some "key", .Lambda ps body ls lp, kp⟩] pos) (ev (.srtK a n is b)) := by
  obtain ⟨rfl, hg⟩ := bl_ok g.z hx
  unfold lamB at hB
  simp only [Bool.and_eq_true, decide_eq_true_eq] at hB
  obtain ⟨⟨hN, _⟩, hP, hi, hS, hF, _⟩ := hB
  obtain ⟨ap, rfl⟩ := lamP_ok hP
  obtain ⟨⟨c, P, hcode, TB, hT, hu⟩, hk⟩ := g.lm hN
  refine ⟨canE X.K (ev (.srtK a n is b)), ⟨fun pins s σ H Q I h => ?_⟩, fun F H σ env r env' R e Q q => ⟨F, env, r, env', R, e, q⟩⟩
  obtain ⟨F, env, r, env', R, e, q⟩ := h
  simp only [ev, Option.bind_eq_bind, Option.bind_eq_some_iff, Prod.exists] at e
  obtain ⟨ra, env1, e1, da, e2, e⟩ := e
  split at e
  · rename_i l
    simp only [Option.bind_eq_some_iff, Option.some.injEq, Prod.mk.injEq] at e
    obtain ⟨cs, hcs, ks, hks, out, hout, rfl, rfl⟩ := e
    have hfr := ndef_free hF
    have hfr2 : ∀ y ∈ ls.names, y.2 = .free → X.env.scope.names.lookup y.1 = some .cell ∨ X.env.scope.names.lookup y.1 = some .free := by rw [g.ss]; exact hfr
    have hse := starE (env := X.env) (es := []) hs
    refine wpAny_Call_Name_kw (ld_blt I hg hm (show bootBuiltins "sorted" = some (.builtin "sorted") by decide +kernel) ?_ (by decide) (by decide))
    refine PyProof.Rows.callWith_kw (thn ((pa_cons ha.can pa_nil hse).run pos pins s σ H (fun vs H1 => ∃ v F1, vs = [v] ∧ ER X.K F1 H1 σ env1 ∧ Stp (wd σ env F H) (wd σ env1 F1 H1) ∧ RR X.K F1 H1 σ env1 ra v) I ⟨F, env, ra, env1, R, e1, fun v F1 H1 R1 s1 r1 _ => ⟨v, F1, rfl, R1, s1, r1⟩⟩) fun us s1 hus => ?_) (by rw [hse]; rfl) (by rw [hse]; rfl) rfl rfl
    obtain ⟨vs, H1, I1, rv, v, F1, rfl, R1, st1, rr⟩ := hus
    obtain ⟨u, rfl, ru⟩ := vals1 rv
    obtain ⟨a0, xs, rfl, hsq, hz, rl⟩ := (RR.bw R1 rr e2).list
    cases ru
    have hfree : ∀ y ∈ ls.names, y.2 = .free → ∃ c, X.env.cells.lookup y.1 = some c := fun y hy e => (hfr2 y hy e).elim (fun z => I1.ok.has _ (.inl z)) fun z => I1.ok.has _ (.inr z)
    show wpAny _ _ (evalAll [(do let v ← eval _ X.env; standAt pos; pure v)]) _ _ s1
    refine wpAny_evalAll_cons (wpAny_bind (lm_make I1 TB hcode hT hu R1.tb rfl hfree fun f c' pm ctv G s' I2 eN nn TG hf hfn hff hco _ => ?_))
    refine wpAny_bind (wpAny_standAt (wpAny_pure (wpAny_evalAll_nil ?_)))
    have sN : SameN H1 G := ⟨eN, fun b o h => by
      cases e : G b with
      | some o' => exact ⟨o', rfl⟩
      | none => rw [nn b e] at h; cases h⟩
    have R2 : ER X.K F1 G σ env1 := R1.sameN sN TG
    have st2 : Stp (wd σ env1 F1 H1) (wd σ env1 F1 G) := sN.stp
    have rl2 : RpL X.K F1 G xs l := RpL.mono (a := wd σ env1 F1 H1) (b := wd σ env1 F1 G) st2 R1.ok rl
    have hsq2 : SqL X.K G a0 xs := by
      rcases hsq with (h | ⟨o, h⟩) | h
      · exact .inl (.inl (eN _ _ h nt_lst))
      · exact .inl (.inr ⟨o, eN _ _ h fun _ z => nomatch z⟩)
      · exact .inr h
    show wpAny _ _ (call (.builtin "sorted") [.ref a0] [(Str.ofString "key", .ref f)]) _ _ s'
    have hi2 : is.map (fun j => X.N[j]?) = fr.map some := by rw [g.nn]; exact hi
    have hfr2 : ∀ y ∈ ls.names, y.2 = .free → X.env.scope.names.lookup y.1 = some .cell ∨ X.env.scope.names.lookup y.1 = some .free := by rw [g.ss]; exact hfr
    unfold srtKv at hout
    split at hout
    · rename_i ns hns
      cases hout
      rw [ints_map hns] at hks
      exact srt_gen ky_int g hk I2 R2 hsq2 rl2 hf hfn hff hco (nscope_by hS) hfr2 (ndef_fr hF) hi2 (fun _ _ _ _ _ _ => bind1 _ _ _ _ _ _ _ _ _ _) hbody hcs hks fun v F' H' Rz sz rz pz => q v F' H' Rz ((st1.trans st2).trans sz) rz (pz.mono (st1.trans st2))
    · rw [Option.map_eq_some_iff] at hout
      obtain ⟨ns, hns, rfl⟩ := hout
      rw [pairs_map hns] at hks
      exact srt_gen ky_pair g hk I2 R2 hsq2 rl2 hf hfn hff hco (nscope_by hS) hfr2 (ndef_fr hF) hi2 (fun _ _ _ _ _ _ => bind1 _ _ _ _ _ _ _ _ _ _) hbody hcs hks fun v F' H' Rz sz rz pz => q v F' H' Rz ((st1.trans st2).trans sz) rz (pz.mono (st1.trans st2))
  · cases e
end
end Ev

/-! A verified evaluator over the hand layer, part 13: every expression. -/
namespace Ev
open PySem L2

theorem sI_ok {X : Cx} {N : List Str} {sc scope : Scope} {k : Nat} (g : Gd X N sc k) {ik : IK} {tup : Bool} {tg : List Nat} {t it : Expr} {fa fb : Expr → Bool} {nb : Bool} {ea eb : Nv → Option (Res × Nv)} (h : chI N sc ik it fa fb nb = true) (hk : ikT ik tup = true) (ht : chTg N scope tup tg t = true)
    {a : E} (hg : ikG (fun b => X.mg b = none) ik a) (ha : ∀ y, fa y = true → SE X y ea) (hb : ∀ y, fb y = true → SE X y eb) (hL : ik = .zip3 → ∀ xs pos, fa (.Tuple xs 0 pos) = true → ∃ es, ea = ev (.tup es) ∧ SL2 X xs es) : SI X t it ik ea eb := by
  have tupT : tup = true → ∃ es kk p, t = .Tuple es kk p := fun e => by
    subst e
    cases t with
    | Tuple es kk p => exact ⟨_, _, _, rfl⟩
    | _ =>
      exfalso
      cases tg with
      | nil => cases ht
      | cons i r => cases r <;> cases ht
  unfold chI at h
  split at h
  · simp only [Bool.and_eq_true] at h
    exact sI_seq (ha _ h.1)
  · simp only [Bool.and_eq_true] at h
    exact sI_r1 g h.1.1.1 hg (ha _ h.1.1.2) h.1.2
  · simp only [Bool.and_eq_true] at h
    exact sI_r2 g h.1.1.1.1 hg (ha _ h.1.1.1.2) (hb _ h.1.1.2) h.1.2 h.2
  · simp only [Bool.and_eq_true] at h
    obtain ⟨es, kk, p, rfl⟩ := tupT hk
    exact sI_enum g h.1.1.1 hg (ha _ h.1.1.2) h.1.2
  · simp only [Bool.and_eq_true] at h
    exact sI_rev g h.1.1.1 hg (ha _ h.1.1.2) h.1.2
  · simp only [Bool.and_eq_true] at h
    obtain ⟨es, kk, p, rfl⟩ := tupT hk
    obtain ⟨es, rfl, hl⟩ := hL rfl _ _ h.1.1.1.1.2
    exact sI_zip3 g h.1.1.1.1.1 hg.1 hl h.1.1.1.2 h.1.1.2 h.1.2
  · simp only [Bool.and_eq_true] at h
    obtain ⟨es, kk, p, rfl⟩ := tupT hk
    exact sI_zip g h.1.1.1.1 hg (ha _ h.1.1.1.2) (hb _ h.1.1.2) h.1.2 h.2
  · cases h

theorem pairV {X : Cx} {x : Expr} {f : Nv → Option (Res × Nv)} (s : SE X x f) (he : ∀ whole, isTrue x X.env whole = (do let v ← whole; standAt x.pos; holding [v] (truthy v))) : SE X x f ∧ ST X x (evC false f) := ⟨s, s.val he⟩
mutual
theorem mainP_e : ∀ (e : E) (N : List Str) (k : Nat) (P : Fn → Prop) (X : Cx) (sc : Scope) (x : Expr), Gd X N sc k → (∀ f, P f → FnG X k f) → gd P (fun b => X.mg b = none) (GlG X) e → ch N sc e x = true → SE X x (ev e) ∧ ST X x (evC false (ev e))
  | .no, N, k, P, X, sc, x, g, hP, q, h => by cases h
  | .var i, N, k, P, X, sc, x, g, hP, q, h => by
    unfold ch at h
    split at h
    · exact pairV (sE_var g.z h) fun _ => rfl
    · cases h
  | .cst c, N, k, P, X, sc, x, g, hP, q, h => by
    unfold ch at h
    split at h
    · exact pairV (sE_cst (X := X) h) fun _ => rfl
    · cases h
  | .glo y c, N, k, P, X, sc, x, g, hP, q, h => by
    unfold ch at h
    split at h
    · simp only [Bool.and_eq_true, decide_eq_true_eq, Bool.not_eq_true'] at h
      obtain ⟨⟨rfl, h2⟩, h3⟩ := h
      exact pairV (sE_glo g.z h2 h3 q) fun _ => rfl
    · cases h
  | .tup es, N, k, P, X, sc, x, g, hP, q, h => by
    unfold ch at h
    split at h
    · simp only [Bool.and_eq_true, decide_eq_true_eq] at h
      exact pairV (sE_tup (mainP_l es N k P X sc _ g hP q h.1).two h.2) fun _ => rfl
    · cases h
  | .lst es, N, k, P, X, sc, x, g, hP, q, h => by
    unfold ch at h
    split at h
    · simp only [Bool.and_eq_true, decide_eq_true_eq] at h
      exact pairV (sE_lst (mainP_l es N k P X sc _ g hP q h.1).two h.2) fun _ => rfl
    · cases h
  | .bin op a b, N, k, P, X, sc, x, g, hP, q, h => by
    unfold ch at h
    split at h
    · simp only [Bool.and_eq_true, decide_eq_true_eq] at h
      obtain ⟨⟨rfl, h2⟩, h3⟩ := h
      exact pairV (sE_bin (op := by assumption) (mainP_e a N k P X sc _ g hP q.1 h2).1 (mainP_e b N k P X sc _ g hP q.2 h3).1) fun _ => rfl
    · cases h
  | .neg a, N, k, P, X, sc, x, g, hP, q, h => by
    unfold ch at h
    split at h
    · exact pairV (sE_neg (mainP_e a N k P X sc _ g hP q h).1) fun _ => rfl
    · cases h
  | .eqn a, N, k, P, X, sc, x, g, hP, q, h => by
    unfold ch at h
    split at h
    · exact sE_eqn g.z (mainP_e a N k P X sc _ g hP q h).1
    · cases h
  | .cmp op a b, N, k, P, X, sc, x, g, hP, q, h => by
    unfold ch at h
    split at h
    · simp only [Bool.and_eq_true, decide_eq_true_eq, Bool.not_eq_true', decide_eq_false_iff_not] at h
      obtain ⟨⟨⟨rfl, h2⟩, h3⟩, h4⟩ := h
      exact sE_cmp g.z (mainP_e a N k P X sc _ g hP q.1 h2).1 (mainP_e b N k P X sc _ g hP q.2 h3).1 h4
    · cases h
  | .chn o1 o2 a b c, N, k, P, X, sc, x, g, hP, q, h => by
    unfold ch at h
    split at h
    · simp only [Bool.and_eq_true, decide_eq_true_eq, Bool.not_eq_true', decide_eq_false_iff_not] at h
      obtain ⟨⟨⟨⟨⟨rfl, rfl⟩, h2⟩, h3⟩, h4⟩, h5⟩ := h
      exact sE_chn g.z (mainP_e a N k P X sc _ g hP q.1 h2).1 (mainP_e b N k P X sc _ g hP q.2.1 h3).1 (mainP_e c N k P X sc _ g hP q.2.2 h4).1 h5
    · cases h
  | .bop conj es, N, k, P, X, sc, x, g, hP, q, h => by
    unfold ch at h
    split at h
    · simp only [Bool.and_eq_true, decide_eq_true_eq] at h
      obtain ⟨rfl, h2⟩ := h
      cases es with
      | nil =>
        constructor
        · exact ⟨fun _ _ _ => False, ⟨fun _ _ _ _ _ _ z => z.elim⟩, fun F H σ env r env' R e => by simp [ev, evB] at e⟩
        · exact ⟨fun _ _ _ => False, ⟨fun _ _ _ _ _ _ z => z.elim⟩, fun F H σ env r env' R e => by simp [evC, ev, evB] at e⟩
      | cons e es =>
        obtain ⟨b1, b2⟩ := mainP_b conj (.cons e es) (fun z => nomatch z) N k P X sc _ g hP q h2
        exact ⟨sE_bop b1, sT_bop b2⟩
    · cases h
  | .not a, N, k, P, X, sc, x, g, hP, q, h => by
    unfold ch at h
    split at h
    · obtain ⟨s1, s2⟩ := mainP_e a N k P X sc _ g hP q h
      exact sE_not s1 s2
    · cases h
  | .ix a i, N, k, P, X, sc, x, g, hP, q, h => by
    unfold ch at h
    split at h
    · simp only [Bool.and_eq_true] at h
      exact pairV (sE_ix (mainP_e a N k P X sc _ g hP q.1 h.1.1).1 (mainP_e i N k P X sc _ g hP q.2 h.1.2).1 h.2) fun _ => rfl
    · cases h
  | .sl a lo hi, N, k, P, X, sc, x, g, hP, q, h => by
    unfold ch at h
    split at h
    · rename_i y l hh p1 p2
      simp only [Bool.and_eq_true] at h
      obtain ⟨⟨h1, h2⟩, h3⟩ := h
      have sl : SO X l (evO lo.isNo fun env => ev lo env) := by
        cases l with
        | none => rw [show lo.isNo = true from h2]; exact sO_none
        | some l =>
          simp only [Bool.and_eq_true, Bool.not_eq_true'] at h2
          rw [h2.1]
          exact sO_some (mainP_e lo N k P X sc _ g hP q.2.1 h2.2).1
      have sh : SO X hh (evO hi.isNo fun env => ev hi env) := by
        cases hh with
        | none => rw [show hi.isNo = true from h3]; exact sO_none
        | some l =>
          simp only [Bool.and_eq_true, Bool.not_eq_true'] at h3
          rw [h3.1]
          exact sO_some (mainP_e hi N k P X sc _ g hP q.2.2 h3.2).1
      exact pairV (sE_sl (pos := p2) (p2 := p1) (mainP_e a N k P X sc _ g hP q.1 h1).1 sl sh) fun _ => rfl
    · cases h
  | .call f es, N, k, P, X, sc, x, g, hP, q, h => by
    unfold ch at h
    split at h
    · simp only [Bool.and_eq_true, decide_eq_true_eq, Bool.not_eq_true'] at h
      obtain ⟨⟨⟨⟨⟨h1, h2⟩, h3⟩, h4⟩, h5⟩, h6⟩ := h
      exact pairV (sE_call g h1 h2 (hP _ q.1) (mainP_l es N k P X sc _ g hP q.2 h3) h4 h5 h6) fun _ => rfl
    · cases h
  | .fld i f, N, k, P, X, sc, x, g, hP, q, h => by
    unfold ch at h
    split at h
    · simp only [Bool.and_eq_true, decide_eq_true_eq] at h
      obtain ⟨h1, h2⟩ := h
      subst h2
      exact pairV (sE_fld g.z h1) fun _ => rfl
    · cases h
  | .isx a c, N, k, P, X, sc, x, g, hP, q, h => by
    unfold ch at h
    split at h
    · simp only [Bool.and_eq_true, Bool.not_eq_true'] at h
      obtain ⟨⟨⟨⟨⟨h1, h2⟩, h3⟩, h4⟩, h5⟩, h6⟩ := h
      exact pairV (sE_isx g.z h1 q.1 (mainP_e a N k P X sc _ g hP q.2.2 h2).1 h3 h4 h5 h6 q.2.1) fun _ => rfl
    · cases h
  | .isxT a cs, N, k, P, X, sc, x, g, hP, q, h => by
    unfold ch at h
    split at h
    · simp only [Bool.and_eq_true, decide_eq_true_eq] at h
      obtain ⟨⟨⟨⟨h1, h2⟩, h3⟩, h4⟩, h5⟩ := h
      exact pairV (sE_isxT g.z h1 q.1 (mainP_e a N k P X sc _ g hP q.2.2 h2).1 h3 h4 h5 q.2.1) fun _ => rfl
    · cases h
  | .isv a, N, k, P, X, sc, x, g, hP, q, h => by
    unfold ch at h
    split at h
    · simp only [Bool.and_eq_true] at h
      obtain ⟨⟨⟨h1, h2⟩, h3⟩, h4⟩ := h
      exact pairV (sE_isv g.z h1 q.1 (mainP_e a N k P X sc _ g hP q.2.2 h2).1 h3 h4 q.2.1) fun _ => rfl
    · cases h
  | .callP f i as es, N, k, P, X, sc, x, g, hP, q, h => by
    unfold ch at h
    split at h
    · simp only [Bool.and_eq_true, decide_eq_true_eq, Bool.not_eq_true'] at h
      obtain ⟨⟨⟨⟨⟨⟨⟨h1, h2⟩, h3⟩, h4⟩, h5⟩, h6⟩, h7⟩, h8⟩ := h
      exact pairV (sE_callP g h1 h2 h3 (hP _ q.1) (mainP_l as N k P X sc _ g hP q.2.1 h4).two (mainP_l es N k P X sc _ g hP q.2.2 h5).two h6 h7 h8) fun _ => rfl
    · cases h
  | .callv i fs es, N, k, P, X, sc, x, g, hP, q, h => by
    unfold ch at h
    split at h
    · simp only [Bool.and_eq_true, Bool.not_eq_true'] at h
      obtain ⟨⟨⟨h1, h2⟩, h3⟩, h4⟩ := h
      exact pairV (sE_callv g h1 (fun f hf => ⟨hP _ (gdF_mem q.1 hf).1, (gdF_mem q.1 hf).2⟩) (mainP_l es N k P X sc _ g hP q.2 h2) h3 h4) fun _ => rfl
    · cases h
  | .b1 b a, N, k, P, X, sc, x, g, hP, q, h => by
    unfold ch at h
    split at h
    · simp only [Bool.and_eq_true] at h
      exact pairV (sE_b1 g h.1.1 q.1 (mainP_e a N k P X sc _ g hP q.2 h.1.2).1 h.2) fun _ => rfl
    · cases h
  | .b2 b a c, N, k, P, X, sc, x, g, hP, q, h => by
    unfold ch at h
    split at h
    · simp only [Bool.and_eq_true] at h
      exact pairV (sE_b2 g h.1.1.1.1 q.1 (mainP_e a N k P X sc _ g hP q.2.1 h.1.1.1.2).1 (mainP_e c N k P X sc _ g hP q.2.2 h.1.1.2).1 h.1.2 h.2) fun _ => rfl
    · cases h
  | .isi a t, N, k, P, X, sc, x, g, hP, q, h => by
    unfold ch at h
    split at h
    · simp only [Bool.and_eq_true] at h
      obtain ⟨⟨⟨⟨h1, h2⟩, h3⟩, h4⟩, h5⟩ := h
      exact pairV (sE_isi g.z h1 h4 q.1 q.2.1 (mainP_e a N k P X sc _ g hP q.2.2 h2).1 h3 h5) fun _ => rfl
    · cases h
  | .lrng a, N, k, P, X, sc, x, g, hP, q, h => by
    unfold ch at h
    split at h
    · simp only [Bool.and_eq_true] at h
      obtain ⟨⟨⟨h1, h2⟩, h3⟩, h4⟩ := h
      exact pairV (sE_lrng g h1 h2 q.1 q.2.1 (mainP_e a N k P X sc _ g hP q.2.2 h3).1 h4) fun _ => rfl
    · cases h
  | .lrev a, N, k, P, X, sc, x, g, hP, q, h => by
    unfold ch at h
    split at h
    · simp only [Bool.and_eq_true] at h
      obtain ⟨⟨⟨h1, h2⟩, h3⟩, h4⟩ := h
      exact pairV (sE_lrev g h1 h2 q.1 q.2.1 (mainP_e a N k P X sc _ g hP q.2.2 h3).1 h4) fun _ => rfl
    · cases h
  | .dsp kk a, N, k, P, X, sc, x, g, hP, q, h => by
    unfold ch at h
    split at h
    · simp only [Bool.and_eq_true, decide_eq_true_eq] at h
      obtain ⟨rfl, h2⟩ := h
      exact pairV (sE_dsp (k := .inl _) pe_int (mainP_e a N k P X sc _ g hP q h2).1) fun _ => rfl
    · simp only [Bool.and_eq_true, decide_eq_true_eq] at h
      obtain ⟨rfl, h2⟩ := h
      exact pairV (sE_dsp (k := .inr _) pe_str (mainP_e a N k P X sc _ g hP q h2).1) fun _ => rfl
    · cases h
  | .dspe kk a, N, k, P, X, sc, x, g, hP, q, h => by
    unfold ch at h
    split at h
    · rw [Bool.and_eq_true] at h
      exact pairV (sE_dspe (mainP_e kk N k P X sc _ g hP q.1 h.1).1 (mainP_e a N k P X sc _ g hP q.2 h.2).1) fun _ => rfl
    · cases h
  | .dsp2 kk a ll b, N, k, P, X, sc, x, g, hP, q, h => by
    unfold ch at h
    split at h
    · simp only [Bool.and_eq_true, decide_eq_true_eq] at h
      obtain ⟨⟨⟨rfl, rfl⟩, h3⟩, h4⟩ := h
      exact pairV (sE_dsp2 (k := .inl _) (l := .inl _) pe_int pe_int (mainP_e a N k P X sc _ g hP q.1 h3).1 (mainP_e b N k P X sc _ g hP q.2 h4).1) fun _ => rfl
    · cases h
  | .dct, N, k, P, X, sc, x, g, hP, q, h => by
    unfold ch at h
    split at h
    · exact pairV sE_dct fun _ => rfl
    · cases h
  | .mx3 a b c, N, k, P, X, sc, x, g, hP, q, h => by
    unfold ch at h
    split at h
    · simp only [Bool.and_eq_true] at h
      obtain ⟨⟨⟨⟨⟨⟨h1, h2⟩, h3⟩, h4⟩, h5⟩, h6⟩, h7⟩ := h
      exact pairV (sE_mx3 g h1 q.1 (mainP_e a N k P X sc _ g hP q.2.1 h2).1 (mainP_e b N k P X sc _ g hP q.2.2.1 h3).1 (mainP_e c N k P X sc _ g hP q.2.2.2 h4).1 h5 h6 h7) fun _ => rfl
    · cases h
  | .rvt a, N, k, P, X, sc, x, g, hP, q, h => by
    unfold ch at h
    split at h
    · simp only [Bool.and_eq_true] at h
      obtain ⟨⟨⟨h1, h2⟩, h3⟩, h4⟩ := h
      exact pairV (sE_rvt g h1 h2 q.1 q.2.1 (mainP_e a N k P X sc _ g hP q.2.2 h3).1 h4) fun _ => rfl
    · cases h
  | .lset a, N, k, P, X, sc, x, g, hP, q, h => by
    unfold ch at h
    split at h
    · simp only [Bool.and_eq_true] at h
      obtain ⟨⟨⟨h1, h2⟩, h3⟩, h4⟩ := h
      exact pairV (sE_lset g h1 h2 q.1 q.2.1 (mainP_e a N k P X sc _ g hP q.2.2 h3).1 h4) fun _ => rfl
    · cases h
  | .frz a, N, k, P, X, sc, x, g, hP, q, h => by
    unfold ch at h
    split at h
    · exact pairV (sE_frz (mainP_e a N k P X sc _ g hP q h).1) fun _ => rfl
    · cases h
  | .dctP a, N, k, P, X, sc, x, g, hP, q, h => by
    unfold ch at h
    split at h
    · simp only [Bool.and_eq_true] at h
      obtain ⟨⟨h1, h3⟩, h4⟩ := h
      exact pairV (sE_dctP g h1 q.1 (mainP_e a N k P X sc _ g hP q.2 h3).1 h4) fun _ => rfl
    · cases h
  | .srs a, N, k, P, X, sc, x, g, hP, q, h => by
    unfold ch at h
    split at h
    · simp only [Bool.and_eq_true] at h
      obtain ⟨⟨⟨h1, h2⟩, h3⟩, h4⟩ := h
      exact pairV (sE_srs g h1 h2 q.1 q.2.1 (mainP_e a N k P X sc _ g hP q.2.2 h3).1 h4) fun _ => rfl
    · cases h
  | .rp r a, N, k, P, X, sc, x, g, hP, q, h => by
    unfold ch at h
    split at h
    · simp only [Bool.and_eq_true] at h
      obtain ⟨⟨⟨h1, h2⟩, h3⟩, h4⟩ := h
      exact pairV (sE_rp g h1 q.1 q.2.1 (mainP_e a N k P X sc _ g hP q.2.2 h2).1 h3 h4) fun _ => rfl
    · cases h
  | .rvl a, N, k, P, X, sc, x, g, hP, q, h => by
    unfold ch at h
    split at h
    · exact pairV (sE_rvl (mainP_e a N k P X sc _ g hP q h).1) fun _ => rfl
    · cases h
  | .srv a, N, k, P, X, sc, x, g, hP, q, h => by
    unfold ch at h
    split at h
    · simp only [Bool.and_eq_true, decide_eq_true_eq] at h
      obtain ⟨⟨⟨h1, rfl⟩, h3⟩, h4⟩ := h
      exact pairV (sE_srv g h1 q.1 (mainP_e a N k P X sc _ g hP q.2 h3).1 h4) fun _ => rfl
    · cases h
  | .srtK a n is b, N, k, P, X, sc, x, g, hP, q, h => by
    unfold ch at h
    split at h
    · rename_i u p y kk ps body ls lp kp pos
      simp only [Bool.and_eq_true, decide_eq_true_eq] at h
      obtain ⟨⟨⟨⟨⟨h1, rfl⟩, h3⟩, h4⟩, h5⟩, h6⟩ := h
      have hS : NdefX.NScope (n :: is.filterMap fun j => N[j]?) [n] (is.filterMap fun j => N[j]?) ls := by
        unfold lamB at h5
        simp only [Bool.and_eq_true] at h5
        exact NdefX.nscope_by h5.2.2.2.1
      have hkp : (n :: is.filterMap fun j => N[j]?).contains kpNm = false := by
        unfold lamB at h5
        simp only [Bool.and_eq_true, Bool.not_eq_true'] at h5
        exact h5.2.2.2.2.2
      have hln : lamNs.contains (n :: is.filterMap fun j => N[j]?) = false := by
        unfold lamB at h5
        simp only [Bool.and_eq_true, Bool.not_eq_true'] at h5
        exact h5.1.2
      have s := sE_srtK (p := p) (lp := lp) (kp := kp) (pos := pos) g h1 q.1 (mainP_e a N k P X sc _ g hP q.2.1 h3).1 h4 h5 fun F f A s H hF hr =>
        (mainP_e b (n :: is.filterMap fun j => N[j]?) (k - 1) (fun f => P f ∧ P (lvUp f)) (NdefX.ncx CX0 X.prog X.w X.K X.mg X.base (n :: is.filterMap fun j => N[j]?) F f A X.stack s H E0) ls body
          ⟨rfl, hS.nd, hF, rfl, hr, (fun z => by rw [hkp] at z; cases z), (fun z => by rw [hln] at z; cases z)⟩ (fun f hf => ⟨(hP _ hf.1).ex, by have := (hP _ hf.2).lv; show f.lvl ≤ k - 1; have : f.lvl + 1 ≤ k := this; omega⟩) q.2.2 h6).1
      exact pairV s fun _ => rfl
    · cases h
  | .trng a, N, k, P, X, sc, x, g, hP, q, h => by
    unfold ch at h
    split at h
    · simp only [Bool.and_eq_true] at h
      obtain ⟨⟨⟨h1, h2⟩, h3⟩, h4⟩ := h
      exact pairV (sE_trng g h1 h2 q.1 q.2.1 (mainP_e a N k P X sc _ g hP q.2.2 h3).1 h4) fun _ => rfl
    · cases h
  | .inv a, N, k, P, X, sc, x, g, hP, q, h => by
    unfold ch at h
    split at h
    · exact pairV (sE_inv (mainP_e a N k P X sc _ g hP q h).1) fun _ => rfl
    · cases h
  | .mnd a c, N, k, P, X, sc, x, g, hP, q, h => by
    unfold ch at h
    split at h
    · simp only [Bool.and_eq_true, decide_eq_true_eq] at h
      obtain ⟨⟨⟨⟨h1, rfl⟩, h3⟩, h4⟩, h5⟩ := h
      exact pairV (sE_mnd g h1 q.1 (mainP_e a N k P X sc _ g hP q.2 h3).1 (sE_cst h5) h4) fun _ => rfl
    · cases h
  | .mn3 a b c, N, k, P, X, sc, x, g, hP, q, h => by
    unfold ch at h
    split at h
    · simp only [Bool.and_eq_true] at h
      obtain ⟨⟨⟨⟨⟨⟨h1, h2⟩, h3⟩, h4⟩, h5⟩, h6⟩, h7⟩ := h
      exact pairV (sE_mn3 g h1 q.1 (mainP_e a N k P X sc _ g hP q.2.1 h2).1 (mainP_e b N k P X sc _ g hP q.2.2.1 h3).1 (mainP_e c N k P X sc _ g hP q.2.2.2 h4).1 h5 h6 h7) fun _ => rfl
    · cases h
  | .dlh a b, N, k, P, X, sc, x, g, hP, q, h => by
    unfold ch at h
    split at h
    · simp only [Bool.and_eq_true] at h
      obtain ⟨⟨⟨⟨h1, h2⟩, h3⟩, h4⟩, h5⟩ := h
      exact pairV (sE_dlh g h1 q.1 (mainP_e a N k P X sc _ g hP q.2.1 h2).1 (mainP_e b N k P X sc _ g hP q.2.2 h3).1 h4 h5) fun _ => rfl
    · cases h
  | .undl a, N, k, P, X, sc, x, g, hP, q, h => by
    unfold ch at h
    split at h
    · exact pairV (sE_undl (mainP_e a N k P X sc _ g hP q h).1) fun _ => rfl
    · cases h
  | .dli a c b, N, k, P, X, sc, x, g, hP, q, h => by
    unfold ch at h
    split at h
    · simp only [Bool.and_eq_true, decide_eq_true_eq] at h
      obtain ⟨⟨⟨⟨⟨⟨rfl, h1⟩, h2⟩, h3⟩, h4⟩, h5⟩, h6⟩ := h
      exact pairV (sE_dli (mainP_e a N k P X sc _ g hP q.1 h1).1 (mainP_e c N k P X sc _ g hP q.2.1 h2).1 (mainP_e b N k P X sc _ g hP q.2.2 h4).1 h3 h5 h6) fun _ => rfl
    · cases h
  | .mt c a, N, k, P, X, sc, x, g, hP, q, h => by
    unfold ch at h
    split at h
    · simp only [Bool.and_eq_true, decide_eq_true_eq] at h
      obtain ⟨⟨⟨⟨rfl, h0⟩, h1⟩, h2⟩, h4⟩ := h
      exact pairV (sE_mt h0 (mainP_e a N k P X sc _ g hP q h1).1 (sE_cst (X := X) h2) rfl h4) fun _ => rfl
    · cases h
  | .idx a b, N, k, P, X, sc, x, g, hP, q, h => by
    unfold ch at h
    split at h
    · simp only [Bool.and_eq_true, decide_eq_true_eq] at h
      obtain ⟨⟨⟨⟨⟨rfl, h0⟩, h1⟩, h2⟩, h3⟩, h4⟩ := h
      exact pairV (sE_idx h0 (mainP_e a N k P X sc _ g hP q.1 h1).1 (mainP_e b N k P X sc _ g hP q.2 h2).1 h3 h4) fun _ => rfl
    · cases h
  | .ext i a, N, k, P, X, sc, x, g, hP, q, h => by
    unfold ch at h
    split at h
    · simp only [Bool.and_eq_true, decide_eq_true_eq] at h
      obtain ⟨⟨⟨⟨h1, rfl⟩, h2⟩, h3⟩, h4⟩ := h
      exact pairV (sE_ext g h1 (mainP_e a N k P X sc _ g hP q h2).1 h3 h4) fun _ => rfl
    · cases h
  | .rvI i, N, k, P, X, sc, x, g, hP, q, h => by
    unfold ch at h
    split at h
    · simp only [Bool.and_eq_true, decide_eq_true_eq] at h
      obtain ⟨⟨h1, rfl⟩, h4⟩ := h
      exact pairV (sE_rvI g h1 h4) fun _ => rfl
    · cases h
  | .rmv i a, N, k, P, X, sc, x, g, hP, q, h => by
    unfold ch at h
    split at h
    · simp only [Bool.and_eq_true, decide_eq_true_eq] at h
      obtain ⟨⟨⟨⟨h1, rfl⟩, h2⟩, h3⟩, h4⟩ := h
      exact pairV (sE_rmv g h1 (mainP_e a N k P X sc _ g hP q h2).1 h3 h4) fun _ => rfl
    · cases h
  | .app i a, N, k, P, X, sc, x, g, hP, q, h => by
    unfold ch at h
    split at h
    · simp only [Bool.and_eq_true, decide_eq_true_eq] at h
      obtain ⟨⟨⟨⟨h1, rfl⟩, h2⟩, h3⟩, h4⟩ := h
      exact pairV (sE_app g h1 (mainP_e a N k P X sc _ g hP q h2).1 h3 h4) fun _ => rfl
    · cases h
  | .pop i, N, k, P, X, sc, x, g, hP, q, h => by
    unfold ch at h
    split at h
    · simp only [Bool.and_eq_true, decide_eq_true_eq] at h
      obtain ⟨⟨h1, rfl⟩, h4⟩ := h
      exact pairV (sE_pop g h1 h4) fun _ => rfl
    · cases h
  | .popAt i a, N, k, P, X, sc, x, g, hP, q, h => by
    unfold ch at h
    split at h
    · simp only [Bool.and_eq_true, decide_eq_true_eq] at h
      obtain ⟨⟨⟨⟨h1, rfl⟩, h2⟩, h3⟩, h4⟩ := h
      exact pairV (sE_popAt g h1 (mainP_e a N k P X sc _ g hP q h2).1 h3 h4) fun _ => rfl
    · cases h
  | .lc own tup tg ik a b c el, N, k, P, X, sc, x, g, hP, q, h => by
    unfold ch at h
    split at h
    · rename_i y t it ifs scope pos
      simp only [Bool.and_eq_true] at h
      obtain ⟨⟨⟨⟨⟨⟨⟨h1, h2⟩, h3⟩, h4⟩, h5⟩, h6⟩, h7⟩, h8⟩ := h
      obtain ⟨q1, q2, q3, q4, q5⟩ := q
      have hL : ik = .zip3 → ∀ xs pos, ch N sc a (.Tuple xs 0 pos) = true → ∃ es, ev a = ev (.tup es) ∧ SL2 X xs es := fun e xs pos hz => by
        have ta : a.isTup := by rw [e] at q1; exact q1.2
        cases a with
        | tup es =>
          unfold ch at hz
          simp only [Bool.and_eq_true] at hz
          exact ⟨es, rfl, (mainP_l es N k P X sc xs g hP q2 hz.1).two⟩
        | _ => cases ta
      have hI : SI X t it ik (ev a) (fun env => ev b env) := sI_ok g h1 h3 h5 q1 (fun z hz => (mainP_e a N k P X sc z g hP q2 hz).1) (fun z hz => (mainP_e b N k P X sc z g hP q3 hz).1) hL
      have s := sE_lc (pos := pos) (el := el) (c := c) (x := y) (ifs := ifs) g hI h2 h4 h5 (fun i hi => List.contains_iff_mem.mp (List.all_eq_true.mp h6 i hi)) (fun s H C cl fp => (mainP_e el N k P (X.blk s H scope (compEnvC scope cl C X.env) fp) (relS scope sc) y g.blk hP q5 h7).1) (fun s H C cl fp => ?_)
      · exact ⟨s, s.val fun _ => rfl⟩
      · split at h8
        · rw [h8]
          exact pts_can0
        · simp only [Bool.and_eq_true, Bool.not_eq_true'] at h8
          rw [h8.1]
          exact pts_one (mainP_e c N k P (X.blk s H scope (compEnvC scope cl C X.env) fp) (relS scope sc) _ g.blk hP q4 h8.2).2.can
        · cases h8
    · cases h
theorem mainP_l : ∀ (es : EL) (N : List Str) (k : Nat) (P : Fn → Prop) (X : Cx) (sc : Scope) (xs : List Expr), Gd X N sc k → (∀ f, P f → FnG X k f) → gdL P (fun b => X.mg b = none) (GlG X) es → chL N sc es xs = true → SL3 X xs es
  | .nil, N, k, P, X, sc, xs, g, hP, q, h => by
    unfold chL at h
    split at h
    · exact sL_nil
    · cases h
  | .cons e es, N, k, P, X, sc, xs, g, hP, q, h => by
    unfold chL at h
    split at h
    · simp only [Bool.and_eq_true] at h
      exact sL_cons (mainP_e e N k P X sc _ g hP q.1 h.1.1).1 (mainP_l es N k P X sc _ g hP q.2 h.1.2) h.2
    · cases h
theorem mainP_b (conj : Bool) : ∀ (es : EL), es ≠ .nil → ∀ (N : List Str) (k : Nat) (P : Fn → Prop) (X : Cx) (sc : Scope) (xs : List Expr), Gd X N sc k → (∀ f, P f → FnG X k f) → gdL P (fun b => X.mg b = none) (GlG X) es → chL N sc es xs = true → SBV X conj xs es ∧ SBW X conj xs es
  | .nil, n, N, k, P, X, sc, xs, g, hP, q, h => absurd rfl n
  | .cons e .nil, n, N, k, P, X, sc, xs, g, hP, q, h => by
    unfold chL at h
    split at h
    · simp only [Bool.and_eq_true] at h
      have h2 := h.1.2
      unfold chL at h2
      split at h2
      · obtain ⟨s1, s2⟩ := mainP_e e N k P X sc _ g hP q.1 h.1.1
        exact ⟨sBV_one s1, sBW_one s2⟩
      · cases h2
    · cases h
  | .cons e (.cons e2 es), n, N, k, P, X, sc, xs, g, hP, q, h => by
    unfold chL at h
    split at h
    · rename_i y ys
      simp only [Bool.and_eq_true] at h
      obtain ⟨s1, s2⟩ := mainP_e e N k P X sc _ g hP q.1 h.1.1
      cases ys with
      | nil =>
        have h2 := h.1.2
        unfold chL at h2
        cases h2
      | cons z zs =>
        obtain ⟨b1, b2⟩ := mainP_b conj (.cons e2 es) (fun z => nomatch z) N k P X sc (z :: zs) g hP q.2 h.1.2
        exact ⟨sBV_cons s1 b1, sBW_cons s2 b2⟩
    · cases h
end
section
variable {N : List Str} {k : Nat}
theorem main_e (e : E) (X : Cx) (sc : Scope) (x : Expr) (g : Gd X N sc k) (q : gd (FnG X k) (fun b => X.mg b = none) (GlG X) e) (h : ch N sc e x = true) : SE X x (ev e) ∧ ST X x (evC false (ev e)) := mainP_e e N k (FnG X k) X sc x g (fun _ z => z) q h
theorem main_l (es : EL) (X : Cx) (sc : Scope) (xs : List Expr) (g : Gd X N sc k) (q : gdL (FnG X k) (fun b => X.mg b = none) (GlG X) es) (h : chL N sc es xs = true) : SL3 X xs es := mainP_l es N k (FnG X k) X sc xs g (fun _ z => z) q h
theorem main_z {ik : IK} {a : E} {X : Cx} {N : List Str} {sc : Scope} {k : Nat} (g : Gd X N sc k) (q1 : ikG (fun b => X.mg b = none) ik a) (q : gd (FnG X k) (fun b => X.mg b = none) (GlG X) a) : ik = .zip3 → ∀ xs pos, ch N sc a (.Tuple xs 0 pos) = true → ∃ es, ev a = ev (.tup es) ∧ SL2 X xs es := fun e xs pos hz => by
  have ta : a.isTup := by rw [e] at q1; exact q1.2
  cases a with
  | tup es =>
    unfold ch at hz
    simp only [Bool.and_eq_true] at hz
    exact ⟨es, rfl, (main_l es X sc xs g q hz.1).two⟩
  | _ => cases ta
theorem main_b (conj : Bool) (es : EL) (n : es ≠ .nil) (X : Cx) (sc : Scope) (xs : List Expr) (g : Gd X N sc k) (q : gdL (FnG X k) (fun b => X.mg b = none) (GlG X) es) (h : chL N sc es xs = true) : SBV X conj xs es ∧ SBW X conj xs es := mainP_b conj es n N k (FnG X k) X sc xs g (fun _ z => z) q h
end
end Ev

/-! A verified evaluator over the hand layer, part 14: statements. -/
namespace Ev
open PySem L2

structure GdS (X : Cx) (N : List Str) (sc : Scope) (k : Nat) : Prop where
  e : Gd X N sc k
  kind : sc.kind = .function
  fn : ∀ x, X.fn x = true
  xe : X.xe = fun _ _ => False
theorem GdS.loc {X : Cx} {N : List Str} {sc : Scope} {k : Nat} (g : GdS X N sc k) (x : Str) (h : locB sc x = true) : Loc X.env.scope x ∧ (X.fn x = true ∨ X.env.scope.names.lookup x = some .local) := by
  refine ⟨?_, .inl (g.fn x)⟩
  unfold locB at h
  simp only [Bool.or_eq_true, decide_eq_true_eq] at h
  unfold L2.Loc
  rw [g.e.ss]
  exact h
theorem GdS.pass {X : Cx} {N : List Str} {sc : Scope} {k : Nat} (g : GdS X N sc k) : PassesOwn (model X.prog X.w) X.A X.env X.xe := by
  rw [g.xe]; exact PassesOwn.never
def Rch (D : Ends) (σ : L2.St) (H : Hp) (v : V) : Fl → Prop
  | .nx => D.nx σ H
  | .rt _ => D.rt v H
abbrev SSt (X : Cx) (is : List Nat) (f : Nv → Option (Fl × Nv)) (t : TS) : Prop := ∀ (F : Addr → Prop) (H : Hp) (σ : L2.St) (env : Nv) (fl : Fl) (env' : Nv), ER X.K F H σ env → f env = some (fl, env') → ∀ D : Ends,
  (∀ σ' F' H', ER X.K F' H' σ' env' → Stp (wd σ env F H) (wd σ' env' F' H') → Agr is σ σ' → match fl with
    | .nx => D.nx σ' H'
    | .rt r => ∀ v, RR X.K F' H' σ' env' r v → Prov (wd σ env F H) r v → D.rt v H') → t D σ H
def SS (X : Cx) (s : Stmt) (is : List Nat) (f : Nv → Option (Fl × Nv)) : Prop := ∃ t, PS X s t ∧ SSt X is f t
def SSL (X : Cx) (ss : List Stmt) (is : List Nat) (f : Nv → Option (Fl × Nv)) : Prop := ∃ t, PSs X ss t ∧ SSt X is f t

section
variable {K : PySem.W.Frag} {F F' : Addr → Prop} {H H' : Hp} {σ σ' : L2.St} {env env' : Nv}
theorem set_own {w0 : Wd} (R : ER K F H σ env) {i : Nat} {a : Addr} {xs : List V} {l : List D} (h1 : H a = some (.lst xs)) (z : xs.length ≤ sizeLine) (r : RpL K F H xs l) (n1 : ¬ F a) (n2 : ¬ OwnA σ env a) (n3 : ¬ LenA σ env a) (p : w0.O a ∨ w0.H a = none) (s : Stp w0 (wd σ env F H)) :
    ER K F H (σ.set i (some (.ref a))) (env.set i (.own l)) ∧ Stp w0 (wd (σ.set i (some (.ref a))) (env.set i (.own l)) F H) := by
  have own : ∀ {j : Nat} {t : Slot} {b : Addr}, (env.set i (.own l))[j]? = some t → (σ.set i (some (.ref a)))[j]? = some (some (.ref b)) → (j = i ∧ b = a ∧ t = .own l) ∨ (j ≠ i ∧ env[j]? = some t ∧ σ[j]? = some (some (.ref b))) := fun {j t b} e e2 => by
    rcases set_get e with ⟨rfl, rfl⟩ | ⟨hj, e⟩
    · rcases setO_get e2 with ⟨_, e2⟩ | ⟨h, _⟩
      · cases e2; exact .inl ⟨rfl, rfl, rfl⟩
      · exact absurd rfl h
    · rw [List.getElem?_set_ne (Ne.symm hj)] at e2
      exact .inr ⟨hj, e, e2⟩
  have kd : ∀ {j : Nat}, (∃ l', (env.set i (.own l))[j]? = some (Slot.own l') ∨ (env.set i (.own l))[j]? = some (Slot.lent l')) → ∃ s, (env.set i (.own l))[j]? = some s ∧ ((∃ l, s = .own l) ∨ ∃ l, s = .lent l) := fun {j} ⟨l', e4⟩ => by
    rcases e4 with e4 | e4
    · exact ⟨_, e4, .inl ⟨_, rfl⟩⟩
    · exact ⟨_, e4, .inr ⟨_, rfl⟩⟩
  have bk : ∀ {j : Nat} {t : Slot}, env[j]? = some t → ((∃ l, t = .own l) ∨ ∃ l, t = .lent l) → ∃ l, env[j]? = some (Slot.own l) ∨ env[j]? = some (Slot.lent l) := fun {j t} e hk => by
    rcases hk with ⟨l', rfl⟩ | ⟨l', rfl⟩
    · exact ⟨l', .inl e⟩
    · exact ⟨l', .inr e⟩
  have no : ∀ {j : Nat} {t : Slot}, env[j]? = some t → ((∃ l, t = .own l) ∨ ∃ l, t = .lent l) → σ[j]? = some (some (.ref a)) → False := fun {j t} e hk e2 => by
    rcases hk with ⟨l', rfl⟩ | ⟨l', rfl⟩
    · exact n2 ⟨j, l', e, e2⟩
    · exact n3 ⟨j, l', e, e2⟩
  refine ⟨⟨by rw [List.length_set, List.length_set]; exact R.len, fun j t e => ?_, fun j m b e2 e3 e4 e5 => ?_, R.tr, R.tb⟩, ⟨s.k, s.t, fun x o => ?_, fun x o => s.l x ?_, s.f, s.g⟩⟩
  · rcases set_get e with ⟨rfl, rfl⟩ | ⟨hj, e1⟩
    · have hl : j < σ.length := by
        have := (List.getElem?_eq_some_iff.mp e).1
        rw [List.length_set, R.len] at this
        exact this
      exact ⟨_, by rw [List.getElem?_set_self hl], .own h1 z r n1⟩
    · obtain ⟨ov, e2, r⟩ := R.sl j t e1
      exact ⟨ov, by rw [List.getElem?_set_ne (Ne.symm hj)]; exact e2, r⟩
  · obtain ⟨s1, es, hs⟩ := kd e2
    obtain ⟨t, et, ht⟩ := kd e5
    rcases own es e3 with ⟨rfl, rfl, _⟩ | ⟨q0, q1, q2⟩
    · rcases own et e4 with ⟨rfl, _, _⟩ | ⟨p0, p1, p2⟩
      · rfl
      · exact (no p1 ht p2).elim
    · rcases own et e4 with ⟨rfl, rfl, _⟩ | ⟨p0, p1, p2⟩
      · exact (no q1 hs q2).elim
      · exact R.inj j m b (bk q1 hs) q2 p2 (bk p1 ht)
  · obtain ⟨j, l2, q1, q2⟩ := o
    rcases own q1 q2 with ⟨rfl, rfl, _⟩ | ⟨q0, q1, q2⟩
    · exact p
    · exact s.o x ⟨j, l2, q1, q2⟩
  · obtain ⟨j, l2, q1, q2⟩ := o
    rcases own q1 q2 with ⟨_, _, q⟩ | ⟨q0, q1, q2⟩
    · cases q
    · exact ⟨j, l2, q1, q2⟩
theorem slot_ok {w0 : Wd} {r : Res} {v : V} {sl : Slot} {env2 : Nv} (i : Nat) (R : ER K F H σ env) (h : RR K F H σ env r v) (s : Stp w0 (wd σ env F H)) (p : Prov w0 r v) (e : slotOf env r = some (sl, env2)) :
    ∃ F', ER K F' H (σ.set i (some v)) (env2.set i sl) ∧ Stp w0 (wd (σ.set i (some v)) (env2.set i sl) F' H) := by
  cases r with
  | val d =>
    cases e
    obtain ⟨R1, s1⟩ := set_val (i := i) R h
    exact ⟨F, R1, s1 _ s⟩
  | fr l =>
    cases e
    obtain ⟨a, xs, rfl, h1, z, r, n1, n2, n3⟩ := h
    obtain ⟨R1, s1⟩ := set_own (i := i) R h1 z r n1 n2 n3 (p a rfl) s
    exact ⟨F, R1, s1⟩
  | pl j =>
    simp only [slotOf, Option.map_eq_some_iff, Prod.exists] at e
    obtain ⟨d, en, e1, e2⟩ := e
    cases e2
    obtain ⟨F1, R1, s1, r1, _⟩ := keep_ok R h s p e1
    obtain ⟨R2, s2⟩ := set_val (i := i) R1 r1
    exact ⟨F1, R2, s2 _ s1⟩
end

section
variable {X : Cx} {N : List Str} {sc : Scope} {k : Nat}
theorem noSwap {v : Expr} {t : Option Expr} {l : Nat} {env : Env} (h : noComp v = true) : swapsWith v t l env = pure false := by
  cases v <;> first | rfl | cases h
theorem noSwapS {v t : Expr} {l : Nat} {env : Env} (h : noComp v = true) : swapsWithSole [t] v l env = pure false := by
  cases v <;> first | rfl | cases h
theorem sS_asg' (g : GdS X N sc k) {i : Nat} {e : E} {x : Str} {px pos : Pos} {v : Expr} (hi : N[i]? = some x) (hx : locB sc x = true) (he : SE X v (ev e)) (hs : swapsWith v (some (.Name x px)) pos.line X.env = pure false) : SS X (.Assign [.Name x px] v pos) [i] (evS (.asg i e)) := by
  obtain ⟨t, pt, ht⟩ := he
  obtain ⟨l1, l2⟩ := g.loc x hx
  refine ⟨_, ps_set g.e.ndX (by rw [g.e.nn]; exact hi) l1 pt hs l2, fun F H σ env fl env' R e D q => ?_⟩
  simp only [evS, Option.bind_eq_bind, Option.bind_eq_some_iff, Prod.exists, Option.some.injEq, Prod.mk.injEq] at e
  obtain ⟨r, env1, e1, sl, env2, e2, rfl, rfl⟩ := e
  refine ht F H σ env _ _ R e1 _ fun u F1 H1 R1 s1 r1 p1 => ?_
  obtain ⟨F2, R2, s2⟩ := slot_ok i R1 r1 s1 p1 e2
  exact q _ F2 H1 R2 s2 Agr.set
theorem sS_asg (g : GdS X N sc k) {i : Nat} {e : E} {x : Str} {px pos : Pos} {v : Expr} (hi : N[i]? = some x) (hx : locB sc x = true) (he : SE X v (ev e)) (hc : noComp v = true) : SS X (.Assign [.Name x px] v pos) [i] (evS (.asg i e)) := sS_asg' g hi hx he (noSwap hc)
theorem sw_false {elt : Expr} {gs : List Comprehension} {scope : Scope} {pos py : Pos} {y : Str} {l : Nat} {env : Env}
    (h : ¬ ((env.scope.names.lookup y = some .local ∧ (py.line == pos.line) = true) ∧ (scope.names.any fun (n, k) => n == y && (k == .local || k == .cell)) = false)) : swapsWith (.ListComp elt gs scope pos) (some (.Name y py)) l env = pure false := by
  have e : swapsWith (.ListComp elt gs scope pos) (some (.Name y py)) l env = pure (env.blockKind == .function && env.kindOf y == some .local && py.line == pos.line && !(scope.names.any fun (n, k) => n == y && (k == .local || k == .cell))) := rfl
  rw [e]
  congr 1
  rw [Bool.eq_false_iff]
  intro q
  simp only [Bool.and_eq_true, Bool.not_eq_true'] at q
  refine h ⟨⟨?_, q.1.2⟩, q.2⟩
  have := q.1.1.2
  exact eq_of_beq this
theorem sS_lc (g : GdS X N sc k) {i : Nat} {e : E} {y : Str} {py spos : Pos} {x t it : Expr} {ifs : List Expr} {scope : Scope} {pos : Pos} {te : TE} (hi : N[i]? = some y) (hx : sc.names.lookup y = some .local)
    (hp : PS X (.Assign [.Name y py] (.ListComp x [⟨t, it, ifs, 0⟩] scope pos) spos) (tAsg te (gName i))) (ht : SEt X (ev e) te) : SS X (.Assign [.Name y py] (.ListComp x [⟨t, it, ifs, 0⟩] scope pos) spos) [i] (evS (.asg i e)) := by
  refine ⟨_, hp, fun F H σ env fl env' R e D q => ?_⟩
  simp only [evS, Option.bind_eq_bind, Option.bind_eq_some_iff, Prod.exists, Option.some.injEq, Prod.mk.injEq] at e
  obtain ⟨r, env1, e1, sl, env2, e2, rfl, rfl⟩ := e
  refine ht F H σ env _ _ R e1 _ fun u F1 H1 R1 s1 r1 p1 => ?_
  obtain ⟨F2, R2, s2⟩ := slot_ok i R1 r1 s1 p1 e2
  exact q _ F2 H1 R2 s2 Agr.set
theorem sS_asgT (g : GdS X N sc k) {is : List Nat} {e : E} {ts : List Expr} {kk : Nat} {pt pos : Pos} {v : Expr} (hi : chTs N sc is ts = true) (he : SE X v (ev e)) (hc : noComp v = true) (hn : noTup v = true) : SS X (.Assign [.Tuple ts kk pt] v pos) is (evS (.asgT is e)) := by
  obtain ⟨t, pe, ht⟩ := he
  have hG : PG X (.Tuple ts kk pt) (canG X.K true is) := sG g.e.nn g.e.nd g.e.calm (fun x h => g.loc x h) (by cases is <;> exact hi)
  refine ⟨_, ps_asg pe hG (noSwapS hc) (by cases v <;> first | rfl | cases hn) rfl, fun F H σ env fl env' R e D q => ?_⟩
  simp only [evS, Option.bind_eq_bind, Option.bind_eq_some_iff, Prod.exists] at e
  obtain ⟨r, env1, e1, e2⟩ := e
  split at e2
  · rename_i ds
    split at e2
    · rename_i hl
      cases e2
      refine ht F H σ env _ _ R e1 _ fun u F1 H1 R1 s1 r1 p1 => ?_
      exact ⟨F1, env1, .tuple ds, _, R1, r1, by cases is <;> exact if_pos hl, fun σ' R2 s2 ag => q σ' F1 H1 R2 (s2 _ s1) ag⟩
    · cases e2
  · cases e2
theorem sS_asgL (g : GdS X N sc k) {is : List Nat} {e : E} {ts : List Expr} {kk : Nat} {pt pos : Pos} {v : Expr} (hi : chTs N sc is ts = true) (he : SE X v (ev e)) (hc : noComp v = true) (hn : noTup v = true) : SS X (.Assign [.Tuple ts kk pt] v pos) is (evS (.asgL is e)) := by
  obtain ⟨t, pe, ht⟩ := he
  have hG : PG X (.Tuple ts kk pt) (canL X.K is) := sGL g.e.nn g.e.nd g.e.calm (fun x h => g.loc x h) hi
  refine ⟨_, ps_asg pe hG (noSwapS hc) (by cases v <;> first | rfl | cases hn) rfl, fun F H σ env fl env' R e D q => ?_⟩
  simp only [evS, Option.bind_eq_bind, Option.bind_eq_some_iff, Prod.exists] at e
  obtain ⟨r, env1, e1, e2⟩ := e
  split at e2
  · rename_i ds
    split at e2
    · rename_i hl
      cases e2
      refine ht F H σ env _ _ R e1 _ fun u F1 H1 R1 s1 r1 p1 => ?_
      obtain ⟨b, xs, rfl, h, z, rl⟩ := (RR.bw (d := .list ds) R1 r1 rfl).list
      exact ⟨F1, env1, ds, b, xs, rfl, h, rl, R1, hl, fun σ' R2 s2 ag => q σ' F1 H1 R2 (s2 _ s1) ag⟩
    · cases e2
  · rename_i ds
    split at e2
    · rename_i hl
      cases e2
      refine ht F H σ env _ _ R e1 _ fun u F1 H1 R1 s1 r1 p1 => ?_
      obtain ⟨b, xs, rfl, h, z, rl⟩ := (RR.bw (d := .list ds) R1 r1 rfl).list
      exact ⟨F1, env1, ds, b, xs, rfl, h, rl, R1, hl, fun σ' R2 s2 ag => q σ' F1 H1 R2 (s2 _ s1) ag⟩
    · cases e2
  · cases e2
def isSt : Expr → Bool
  | .Starred .. => true
  | _ => false
theorem stF {u : Expr} (h : noStar u = true) : isSt u = false := by
  cases u <;> first | rfl | cases h
theorem swapped_of {x y : Str} {px py pt pt2 : Pos} {kt k2 : Nat} {u v : Expr} {env : Env} (hk : env.scope.kind = .function) (hx : env.scope.names.lookup x = some .local) (hy : env.scope.names.lookup y = some .local) (hne : x ≠ y) (hl : (px.line == py.line) = true)
    (h1 : noStar u = true) (h2 : noStar v = true) (h3 : (foldedForSure 8 u && foldedForSure 8 v) = false) (h4 : (constantsAlone 8 u && constantsAlone 8 v) = false) :
    swappedStores [.Tuple [.Name x px, .Name y py] kt pt] (.Tuple [u, v] k2 pt2) env = pure (some [x, y]) := by
  have hb : env.blockKind = .function := by unfold Env.blockKind; rw [hk]; rfl
  have kx : env.kindOf x = some .local := hx
  have ky : env.kindOf y = some .local := hy
  have hyx : py.line = px.line := by rw [beq_iff_eq] at hl; exact hl.symm
  have h5 : ([u, v].all (foldedForSure 8)) = false := by rw [← h3]; show (foldedForSure 8 u && (foldedForSure 8 v && true)) = _; rw [Bool.and_true]
  have h6 : ([u, v].all (constantsAlone 8)) = false := by rw [← h4]; show (constantsAlone 8 u && (constantsAlone 8 v && true)) = _; rw [Bool.and_true]
  have h7 : ([u, v].any isSt) = false := by
    show (isSt u || (isSt v || false)) = false
    rw [stF h1, stF h2]; rfl
  have h8 : ([Expr.Name x px, .Name y py].filterMap fun
    | .Name id pos => if env.kindOf id == some .local && pos.line == px.line then some id else none
    | _ => none) = [x, y] := by
    simp [List.filterMap_cons, kx, ky, hyx]
  have h9 : [x, y].eraseDups.length = 2 := by
    rw [List.eraseDups_cons]
    have : ([y].filter fun b => !b == x) = [y] := by simp [Ne.symm hne]
    rw [this, List.eraseDups_cons]
    rfl
  have ff : ∀ {b : Bool}, b = false → ¬ (b = true) := fun h e => by rw [h] at e; cases e
  have h10 : ([x, y].length != 2 || [x, y].eraseDups.length != [x, y].length) = false := by rw [h9]; rfl
  unfold swappedStores
  refine (if_neg (ff (b := !(2 == 2 || 2 == 3) || (2 != 2) || (env.blockKind != .function)) (by rw [hb]; rfl))).trans ?_
  refine (if_neg (ff h7)).trans ?_
  refine (if_neg (ff (b := ([Expr.Name x px, .Name y py].filterMap fun
    | .Name id pos => if env.kindOf id == some .local && pos.line == px.line then some id else none
    | _ => none).length != 2 || ([Expr.Name x px, .Name y py].filterMap fun
    | .Name id pos => if env.kindOf id == some .local && pos.line == px.line then some id else none
    | _ => none).eraseDups.length != ([Expr.Name x px, .Name y py].filterMap fun
    | .Name id pos => if env.kindOf id == some .local && pos.line == px.line then some id else none
    | _ => none).length) (by rw [h8]; exact h10))).trans ?_
  refine (if_neg (ff h5)).trans ?_
  refine (if_neg (ff h6)).trans ?_
  exact congrArg (fun l => (pure (some l) : Sem (Option (List Str)))) h8
theorem sS_par (g : GdS X N sc k) {i j : Nat} {a b : E} {x y : Str} {px py pt pt2 pos : Pos} {kt k2 : Nat} {u v : Expr} (hi : N[i]? = some x) (hj : N[j]? = some y) (hij : i ≠ j) (hx : sc.names.lookup x = some .local) (hy : sc.names.lookup y = some .local) (hl : (px.line == py.line) = true)
    (he : SL3 X [u, v] (.cons a (.cons b .nil))) (h1 : noStar u = true) (h2 : noStar v = true) (h3 : (foldedForSure 8 u && foldedForSure 8 v) = false) (h4 : (constantsAlone 8 u && constantsAlone 8 v) = false) :
    SS X (.Assign [.Tuple [.Name x px, .Name y py] kt pt] (.Tuple [u, v] k2 pt2) pos) [i, j] (evS (.par i j a b)) := by
  obtain ⟨t, pa, hK, _⟩ := he
  have hne : x ≠ y := fun e => by
    subst e
    have this : i = j := (List.getElem?_inj (List.getElem?_eq_some_iff.mp hi).1 g.e.nd).mp (hi.trans hj.symm)
    exact hij this
  refine ⟨_, ps_par (i := i) (j := j) g.e.calm g.e.ndX (by rw [g.e.nn]; exact hi) (by rw [g.e.nn]; exact hj) hij (by rw [g.e.ss]; exact hx) (by rw [g.e.ss]; exact hy) pa (swapped_of (by rw [g.e.ss]; exact g.kind) (by rw [g.e.ss]; exact hx) (by rw [g.e.ss]; exact hy) hne hl h1 h2 h3 h4), fun F H σ env fl env' R e D q => ?_⟩
  rw [evS] at e
  simp only [Option.bind_eq_bind, Option.bind_eq_some_iff, Prod.exists] at e
  obtain ⟨ds, env1, e1, e2⟩ := e
  split at e2
  · rename_i d c
    cases e2
    refine hK F H σ env _ _ R e1 _ fun vs F1 H1 R1 s1 r1 => ?_
    cases r1 with
    | @cons v1 _ _ _ q1 r1 =>
      cases r1 with
      | @cons v2 _ _ _ q2 r1 =>
        cases r1
        obtain ⟨R2, s2⟩ := set_val (i := i) R1 q1
        obtain ⟨R3, s3⟩ := set_val (i := j) R2 q2
        refine ⟨v1, v2, rfl, q _ F1 H1 R3 (s3 _ (s2 _ s1)) ?_⟩
        exact ((Agr.set (i := i) (v := some v1)).mono (fun m hm => by rw [List.mem_singleton.mp hm]; exact List.mem_cons_self)).trans ((Agr.set (i := j) (v := some v2)).mono fun m hm => by rw [List.mem_singleton.mp hm]; exact List.mem_cons_of_mem _ List.mem_cons_self)
  · cases e2
theorem sS_paro (g : GdS X N sc k) {i j : Nat} {a b : E} {x y : Str} {px py pt pt2 pos : Pos} {kt k2 : Nat} {u v : Expr} (hi : N[i]? = some x) (hj : N[j]? = some y) (hij : i ≠ j) (hx : sc.names.lookup x = some .local) (hy : sc.names.lookup y = some .local) (hl : (px.line == py.line) = true)
    (ha : SE X u (ev a)) (hb : SE X v (ev b)) (h1 : noStar u = true) (h2 : noStar v = true) (h3 : (foldedForSure 8 u && foldedForSure 8 v) = false) (h4 : (constantsAlone 8 u && constantsAlone 8 v) = false) :
    SS X (.Assign [.Tuple [.Name x px, .Name y py] kt pt] (.Tuple [u, v] k2 pt2) pos) [i, j] (evS (.paro i j a b)) := by
  obtain ⟨ta, pa, ha⟩ := ha
  obtain ⟨tb, pb, hb⟩ := hb
  have hne : x ≠ y := fun e => by
    subst e
    have this : i = j := (List.getElem?_inj (List.getElem?_eq_some_iff.mp hi).1 g.e.nd).mp (hi.trans hj.symm)
    exact hij this
  refine ⟨_, ps_par (i := i) (j := j) g.e.calm g.e.ndX (by rw [g.e.nn]; exact hi) (by rw [g.e.nn]; exact hj) hij (by rw [g.e.ss]; exact hx) (by rw [g.e.ss]; exact hy) (pa_cons pa (pa_cons pb pa_nil (starE h2)) (starE h1)) (swapped_of (by rw [g.e.ss]; exact g.kind) (by rw [g.e.ss]; exact hx) (by rw [g.e.ss]; exact hy) hne hl h1 h2 h3 h4), fun F H σ env fl env' R e D q => ?_⟩
  rw [evS] at e
  simp only [Option.bind_eq_bind, Option.bind_eq_some_iff, Prod.exists] at e
  obtain ⟨ra, env1, e1, e2⟩ := e
  split at e2
  · rename_i l
    simp only [Option.bind_eq_some_iff, Prod.exists] at e2
    obtain ⟨rb, env2, e2, e3⟩ := e2
    split at e3
    · rename_i d
      cases e3
      refine two (l := u) (m := v) ha hb R e1 e2 fun v1 v2 F1 H1 R1 s1 q1 q2 p1 _ => ?_
      obtain ⟨a0, xs, rfl, g1, z, r, n1, n2, n3⟩ := q1
      obtain ⟨R2, s2⟩ := set_own (i := i) R1 g1 z r n1 n2 n3 (p1 a0 rfl) s1
      obtain ⟨R3, s3⟩ := set_val (i := j) R2 q2
      refine ⟨.ref a0, v2, rfl, q _ F1 H1 R3 (s3 _ s2) ?_⟩
      exact ((Agr.set (i := i) (v := some (.ref a0))).mono (fun m hm => by rw [List.mem_singleton.mp hm]; exact List.mem_cons_self)).trans ((Agr.set (i := j) (v := some v2)).mono fun m hm => by rw [List.mem_singleton.mp hm]; exact List.mem_cons_of_mem _ List.mem_cons_self)
    · cases e3
  · cases e2
theorem swapped_of3 {x y z : Str} {px py pz pt pt2 : Pos} {kt k2 : Nat} {u v w : Expr} {env : Env} (hk : env.scope.kind = .function) (hx : env.scope.names.lookup x = some .local) (hy : env.scope.names.lookup y = some .local) (hz : env.scope.names.lookup z = some .local) (n1 : x ≠ y) (n2 : x ≠ z) (n3 : y ≠ z) (l1 : (px.line == py.line) = true) (l2 : (px.line == pz.line) = true)
    (h1 : noStar u = true) (h2 : noStar v = true) (h2' : noStar w = true) (h3 : (foldedForSure 8 u && (foldedForSure 8 v && foldedForSure 8 w)) = false) (h4 : (constantsAlone 8 u && (constantsAlone 8 v && constantsAlone 8 w)) = false) :
    swappedStores [.Tuple [.Name x px, .Name y py, .Name z pz] kt pt] (.Tuple [u, v, w] k2 pt2) env = pure (some [x, y, z]) := by
  have hb : env.blockKind = .function := by unfold Env.blockKind; rw [hk]; rfl
  have kx : env.kindOf x = some .local := hx
  have ky : env.kindOf y = some .local := hy
  have kz : env.kindOf z = some .local := hz
  have e1 : py.line = px.line := by rw [beq_iff_eq] at l1; exact l1.symm
  have e2 : pz.line = px.line := by rw [beq_iff_eq] at l2; exact l2.symm
  have h5 : ([u, v, w].all (foldedForSure 8)) = false := by rw [← h3]; show (foldedForSure 8 u && (foldedForSure 8 v && (foldedForSure 8 w && true))) = _; rw [Bool.and_true]
  have h6 : ([u, v, w].all (constantsAlone 8)) = false := by rw [← h4]; show (constantsAlone 8 u && (constantsAlone 8 v && (constantsAlone 8 w && true))) = _; rw [Bool.and_true]
  have h7 : ([u, v, w].any isSt) = false := by
    show (isSt u || (isSt v || (isSt w || false))) = false
    rw [stF h1, stF h2, stF h2']; rfl
  have h8 : ([Expr.Name x px, .Name y py, .Name z pz].filterMap fun
    | .Name id pos => if env.kindOf id == some .local && pos.line == px.line then some id else none
    | _ => none) = [x, y, z] := by
    simp [List.filterMap_cons, kx, ky, kz, e1, e2]
  have h9 : [x, y, z].eraseDups.length = 3 := by
    rw [List.eraseDups_cons]
    have q1 : ([y, z].filter fun b => !b == x) = [y, z] := by simp [Ne.symm n1, Ne.symm n2]
    rw [q1, List.eraseDups_cons]
    have q2 : ([z].filter fun b => !b == y) = [z] := by simp [Ne.symm n3]
    rw [q2, List.eraseDups_cons]
    rfl
  have ff : ∀ {b : Bool}, b = false → ¬ (b = true) := fun h e => by rw [h] at e; cases e
  have h10 : ([x, y, z].length != 3 || [x, y, z].eraseDups.length != [x, y, z].length) = false := by rw [h9]; rfl
  unfold swappedStores
  refine (if_neg (ff (b := !(3 == 2 || 3 == 3) || (3 != 3) || (env.blockKind != .function)) (by rw [hb]; rfl))).trans ?_
  refine (if_neg (ff h7)).trans ?_
  refine (if_neg (ff (b := ([Expr.Name x px, .Name y py, .Name z pz].filterMap fun
    | .Name id pos => if env.kindOf id == some .local && pos.line == px.line then some id else none
    | _ => none).length != 3 || ([Expr.Name x px, .Name y py, .Name z pz].filterMap fun
    | .Name id pos => if env.kindOf id == some .local && pos.line == px.line then some id else none
    | _ => none).eraseDups.length != ([Expr.Name x px, .Name y py, .Name z pz].filterMap fun
    | .Name id pos => if env.kindOf id == some .local && pos.line == px.line then some id else none
    | _ => none).length) (by rw [h8]; exact h10))).trans ?_
  refine (if_neg (ff h5)).trans ?_
  refine (if_neg (ff h6)).trans ?_
  exact congrArg (fun l => (pure (some l) : Sem (Option (List Str)))) h8
theorem sS_par3 (g : GdS X N sc k) {i j l : Nat} {a b c : E} {x y z : Str} {px py pz pt pt2 pos : Pos} {kt k2 : Nat} {u v w : Expr} (hi : N[i]? = some x) (hj : N[j]? = some y) (hl : N[l]? = some z) (hx : sc.names.lookup x = some .local) (hy : sc.names.lookup y = some .local) (hz : sc.names.lookup z = some .local) (hij : i ≠ j) (hil : i ≠ l) (hjl : j ≠ l) (l1 : (px.line == py.line) = true) (l2 : (px.line == pz.line) = true)
    (he : SL3 X [u, v, w] (.cons a (.cons b (.cons c .nil)))) (h1 : noStar u = true) (h2 : noStar v = true) (h2' : noStar w = true) (h3 : (foldedForSure 8 u && (foldedForSure 8 v && foldedForSure 8 w)) = false) (h4 : (constantsAlone 8 u && (constantsAlone 8 v && constantsAlone 8 w)) = false) :
    SS X (.Assign [.Tuple [.Name x px, .Name y py, .Name z pz] kt pt] (.Tuple [u, v, w] k2 pt2) pos) [i, j, l] (evS (.par3 i j l a b c)) := by
  obtain ⟨t, pa, hK, _⟩ := he
  have ne : ∀ {i j : Nat} {x y : Str}, N[i]? = some x → N[j]? = some y → i ≠ j → x ≠ y := fun {i j x y} hi hj hij e => by
    subst e
    exact hij ((List.getElem?_inj (List.getElem?_eq_some_iff.mp hi).1 g.e.nd).mp (hi.trans hj.symm))
  refine ⟨_, ps_par3 (i := i) (j := j) (l := l) g.e.calm g.e.ndX (by rw [g.e.nn]; exact hi) (by rw [g.e.nn]; exact hj) (by rw [g.e.nn]; exact hl) hij hil hjl (by rw [g.e.ss]; exact hx) (by rw [g.e.ss]; exact hy) (by rw [g.e.ss]; exact hz) pa
    (swapped_of3 (by rw [g.e.ss]; exact g.kind) (by rw [g.e.ss]; exact hx) (by rw [g.e.ss]; exact hy) (by rw [g.e.ss]; exact hz) (ne hi hj hij) (ne hi hl hil) (ne hj hl hjl) l1 l2 h1 h2 h2' h3 h4), fun F H σ env fl env' R e D q => ?_⟩
  rw [evS] at e
  simp only [Option.bind_eq_bind, Option.bind_eq_some_iff, Prod.exists] at e
  obtain ⟨ds, env1, e1, e2⟩ := e
  split at e2
  · rename_i d1 d2 d3
    cases e2
    refine hK F H σ env _ _ R e1 _ fun vs F1 H1 R1 s1 r1 => ?_
    cases r1 with
    | @cons v1 _ _ _ q1 r1 =>
      cases r1 with
      | @cons v2 _ _ _ q2 r1 =>
        cases r1 with
        | @cons v3 _ _ _ q3 r1 =>
          cases r1
          obtain ⟨R2, s2⟩ := set_val (i := i) R1 q1
          obtain ⟨R3, s3⟩ := set_val (i := j) R2 q2
          obtain ⟨R4, s4⟩ := set_val (i := l) R3 q3
          refine ⟨v1, v2, v3, rfl, q _ F1 H1 R4 (s4 _ (s3 _ (s2 _ s1))) ?_⟩
          have mm : ∀ {p : Nat} {v : V} {σ : L2.St}, p ∈ [i, j, l] → Agr [i, j, l] σ (σ.set p (some v)) := fun {p v σ} hp => Agr.set.mono fun m hm => by rw [List.mem_singleton.mp hm]; exact hp
          exact ((mm (by simp)).trans (mm (by simp))).trans (mm (by simp))
  · cases e2
theorem sS_setIx (g : GdS X N sc k) {i : Nat} {a e : E} {x : Str} {p1 p2 pos : Pos} {j v : Expr} (hn : nmB N sc i x = true) (hj : SE X j (ev a)) (hv : SE X v (ev e)) (hs : noSlice j = true) (hc : noComp v = true) : SS X (.Assign [.Subscript (.Name x p1) j p2] v pos) [] (evS (.setIx i a e)) := by
  obtain ⟨ta, pa, ha⟩ := hj
  obtain ⟨te, pe, he⟩ := hv
  refine ⟨_, ps_asg pe (pg_sub (nm_ok g.e.z hn) pa set_list (fun _ => by cases j <;> first | rfl | cases hs)) (noSwapS hc) (by cases v <;> rfl) rfl, fun F H σ env fl env' R e0 D q => ?_⟩
  simp only [evS, Option.bind_eq_bind, Option.bind_eq_some_iff, Prod.exists] at e0
  obtain ⟨r, env1, e1, d, env2, e2, e0⟩ := e0
  split at e0
  · rename_i ho
    simp only [Option.bind_eq_some_iff, Prod.exists] at e0
    obtain ⟨ri, env3, e3, e4⟩ := e0
    split at e4
    · rename_i m
      split at e4
      · rename_i l hl
        split at e4
        · rename_i n hn
          cases e4
          refine he F H σ env _ _ R e1 _ fun u F1 H1 R1 s1 r1 p1 => ?_
          obtain ⟨F2, R2, s2, r2, _⟩ := keep_ok R1 r1 s1 p1 e2
          obtain ⟨l0, h0⟩ := isOwn_ok ho
          obtain ⟨b, xs0, b1, b2, _⟩ := R2.own h0
          refine ⟨_, b1, ?_⟩
          refine ha F2 H1 σ env2 _ _ R2 e3 _ fun w F3 H3 R3 s3 r3 p3 => ?_
          obtain ⟨c, xs, c1, c2, c3, c4, _⟩ := R3.own hl
          rw [b1] at c1; cases c1
          obtain ⟨R4, s4⟩ := own_upd R3 hl b1 (ys := xs.set n u) (by rw [List.length_set]; exact c3) (c4.set (Rp.mono (a := wd σ env2 F2 H1) (b := wd σ _ F3 H3) s3 R2.ok r2) n)
          exact ⟨b, xs, m, n, rfl, (Bw.rp r3).int, c2, by rw [c4.length]; exact hn, q σ F3 _ R4 ((s2.trans s3).trans s4) (Agr.refl _ _)⟩
        · cases e4
      · cases e4
    · cases e4
  · cases e0
theorem putN_ok {K : PySem.W.Frag} {F : Addr → Prop} {H : Hp} {σ : L2.St} {env env' : Nv} {i j : Nat} {u : V} {d : D} (R : ER K F H σ env) (ru : Rp K F H u d) (e : putN i j d env = some env') {Q : L2.St → Hp → Prop}
    (q : ∀ H', ER K F H' σ env' → Stp (wd σ env F H) (wd σ env' F H') → Q σ H') : gSub (tVar i) (tVar j) rSetL u σ H Q := by
  unfold putN at e
  split at e
  · rename_i l m hl hj
    split at e
    · rename_i p hp
      cases e
      obtain ⟨b, xs, b1, b2, b3, b4, _⟩ := R.own hl
      have ej := sAt_get hj (fun z => nomatch z)
      obtain ⟨ov, e1, r⟩ := R.sl j _ ej
      cases r with
      | @val v d r =>
        cases r
        obtain ⟨R4, s4⟩ := own_upd R hl b1 (ys := xs.set p u) (by rw [List.length_set]; exact b3) (b4.set ru p)
        exact ⟨_, b1, _, e1, b, xs, m, p, rfl, rfl, b2, by rw [b4.length]; exact hp, q _ R4 s4⟩
    · cases e
  · cases e
theorem sS_swp (g : GdS X N sc k) {i ja jb : Nat} {e : E} {x y a b : Str} {p1 p2 p3 p4 p5 p6 pt pos : Pos} {kt : Nat} {v : Expr} (hx : nmB N sc i x = true) (hy : nmB N sc i y = true) (ha : nmB N sc ja a = true) (hb : nmB N sc jb b = true) (hv : SE X v (ev e)) (hc : noComp v = true) :
    SS X (.Assign [.Tuple [.Subscript (.Name x p1) (.Name a p2) p3, .Subscript (.Name y p4) (.Name b p5) p6] kt pt] v pos) [] (evS (.swp i ja jb e)) := by
  obtain ⟨te, pe, he⟩ := hv
  have hG := pg_tup (n := 2) (pos := pt) (k := kt) g.e.calm (pgs_cons (pg_sub (pos := p3) (nm_ok (pos := p1) g.e.z hx) (nm_ok (pos := p2) g.e.z ha) set_list (fun _ => rfl)) (pgs_cons (pg_sub (pos := p6) (nm_ok (pos := p4) g.e.z hy) (nm_ok (pos := p5) g.e.z hb) set_list (fun _ => rfl)) pgs_nil rfl) rfl) rfl rfl
  refine ⟨_, ps_asg pe hG (noSwapS hc) ?_ rfl, fun F H σ env fl env' R e0 D q => ?_⟩
  · cases v <;> first
      | rfl
      | (unfold swappedStores
         simp only [List.length_cons, List.length_nil, List.filterMap_cons, List.filterMap_nil]
         split
         · rfl
         · split
           · rfl
           · rfl)
  · simp only [evS, Option.bind_eq_bind, Option.bind_eq_some_iff, Prod.exists] at e0
    obtain ⟨r, env1, e1, e2⟩ := e0
    split at e2
    · rename_i d1 d2
      split at e2
      · rename_i env2 h2
        split at e2
        · rename_i env3 h3
          cases e2
          refine he F H σ env _ _ R e1 _ fun u F1 H1 R1 s1 r1 p1 => ?_
          obtain ⟨t0, xs, rfl, ht, hz, rl⟩ := (RR.bw (d := .tuple [d1, d2]) R1 r1 rfl).tup
          cases rl with
          | @cons v1 vs1 _ _ q1 rl =>
            cases rl with
            | @cons v2 vs2 _ _ q2 rl =>
              cases rl
              refine ⟨t0, _, rfl, ht, rfl, v1, _, rfl, putN_ok R1 q1 h2 fun H2 R2 s2 => ⟨v2, _, rfl, putN_ok R2 (Rp.mono s2 R1.ok q2) h3 fun H3 R3 s3 => ⟨rfl, ?_⟩⟩⟩
              exact q σ F1 H3 R3 ((s1.trans s2).trans s3) (Agr.refl _ _)
        · cases e2
      · cases e2
    · cases e2
theorem sS_exp (g : GdS X N sc k) {e : E} {pos : Pos} {v : Expr} (he : SE X v (ev e)) (hc : noComp v = true) : SS X (.Expr v pos) [] (evS (.exp e)) := by
  obtain ⟨t, pt, ht⟩ := he
  refine ⟨_, ps_expr pt (noSwap hc), fun F H σ env fl env' R e D q => ?_⟩
  simp only [evS, Option.bind_eq_bind, Option.bind_eq_some_iff, Prod.exists, Option.some.injEq, Prod.mk.injEq] at e
  obtain ⟨r, env1, e1, rfl, rfl⟩ := e
  exact ht F H σ env _ _ R e1 _ fun u F1 H1 R1 s1 r1 p1 => q σ F1 H1 R1 s1 (Agr.refl _ _)
theorem sS_ret {e : E} {pos : Pos} {v : Expr} (he : SE X v (ev e)) : SS X (.Return (some v) pos) [] (evS (.ret e)) := by
  obtain ⟨t, pt, ht⟩ := he
  refine ⟨_, ps_ret pt, fun F H σ env fl env' R e D q => ?_⟩
  simp only [evS, Option.bind_eq_bind, Option.bind_eq_some_iff, Prod.exists, Option.some.injEq, Prod.mk.injEq] at e
  obtain ⟨r, env1, e1, rfl, rfl⟩ := e
  exact ht F H σ env _ _ R e1 _ fun u F1 H1 R1 s1 r1 p1 => q σ F1 H1 R1 s1 (Agr.refl _ _) u r1 p1
theorem sS_retN {pos : Pos} : SS X (.Return none pos) [] (evS .retN) := by
  refine ⟨_, ps_retN, fun F H σ env fl env' R e D q => ?_⟩
  simp only [evS, Option.some.injEq, Prod.mk.injEq] at e
  obtain ⟨rfl, rfl⟩ := e
  exact q σ F H R (Stp.refl _) (Agr.refl _ _) .non Rp.non trivial
theorem sS_ife {c : E} {a b : SL} {x : Expr} {xs ys : List Stmt} {pos : Pos} {is js : List Nat} (hc : ST X x (evC false fun env => ev c env)) (ha : SSL X xs is (evSL a)) (hb : SSL X ys js (evSL b)) : SS X (.If x xs ys pos) (is ++ js) (evS (.ife c a b)) := by
  obtain ⟨t, pt, ht⟩ := hc
  obtain ⟨ta, pa, ha⟩ := ha
  obtain ⟨tb, pb, hb⟩ := hb
  refine ⟨_, ps_if pt pa pb, fun F H σ env fl env' R e D q => ?_⟩
  rw [evS] at e
  simp only [Option.bind_eq_bind, Option.bind_eq_some_iff, Prod.exists] at e
  obtain ⟨d, env1, e1, e2⟩ := e
  refine ht F H σ env _ _ R e1 _ fun F1 H1 R1 s1 => ?_
  have tr : ∀ {r : Res} {v : V}, Prov (wd σ env1 F1 H1) r v → Prov (wd σ env F H) r v := fun h => h.mono s1
  cases d with
  | true =>
    rw [if_pos rfl] at e2
    change ite ((true : Bool) = true) _ _
    rw [if_pos rfl]
    refine ha F1 H1 σ env1 fl env' R1 e2 D fun σ' F' H' R' s' ag => ?_
    have := q σ' F' H' R' (s1.trans s') (ag.mono fun i hi => List.mem_append_left _ hi)
    cases fl with
    | nx => exact this
    | rt r => exact fun v r1 p1 => this v r1 (tr p1)
  | false =>
    rw [if_neg Bool.false_ne_true] at e2
    change ite ((false : Bool) = true) _ _
    rw [if_neg Bool.false_ne_true]
    refine hb F1 H1 σ env1 fl env' R1 e2 D fun σ' F' H' R' s' ag => ?_
    have := q σ' F' H' R' (s1.trans s') (ag.mono fun i hi => List.mem_append_right _ hi)
    cases fl with
    | nx => exact this
    | rt r => exact fun v r1 p1 => this v r1 (tr p1)
theorem sS_never {s : Stmt} {is : List Nat} : SS X s is (evS .never) := ⟨fun _ _ _ => False, ⟨fun _ _ _ _ _ _ z => z.elim⟩, fun F H σ env fl env' R e => by simp [evS] at e⟩
theorem sSL_nil : SSL X [] [] (evSL .nil) := by
  refine ⟨_, pss_nil, fun F H σ env fl env' R e D q => ?_⟩
  simp only [evSL, Option.some.injEq, Prod.mk.injEq] at e
  obtain ⟨rfl, rfl⟩ := e
  exact q σ F H R (Stp.refl _) (Agr.refl _ _)
theorem sSL_cons {s : S} {ss : SL} {x : Stmt} {xs : List Stmt} {is js : List Nat} (h : SS X x is (evS s)) (hr : SSL X xs js (evSL ss)) : SSL X (x :: xs) (is ++ js) (evSL (.cons s ss)) := by
  obtain ⟨t, pt, ht⟩ := h
  obtain ⟨u, pu, hu⟩ := hr
  refine ⟨_, pss_cons pt pu, fun F H σ env fl env' R e D q => ?_⟩
  rw [evSL] at e
  simp only [Option.bind_eq_bind, Option.bind_eq_some_iff, Prod.exists] at e
  obtain ⟨f, env1, e1, e2⟩ := e
  refine ht F H σ env f env1 R e1 _ fun σ1 F1 H1 R1 s1 ag => ?_
  cases f with
  | nx =>
    refine hu F1 H1 σ1 env1 fl env' R1 e2 D fun σ' F' H' R' s' ag' => ?_
    have := q σ' F' H' R' (s1.trans s') ((ag.mono fun i hi => List.mem_append_left _ hi).trans (ag'.mono fun i hi => List.mem_append_right _ hi))
    cases fl with
    | nx => exact this
    | rt r => exact fun v r1 p1 => this v r1 (p1.mono s1)
  | rt r =>
    cases e2
    exact q σ1 F1 H1 R1 s1 (ag.mono fun i hi => List.mem_append_left _ hi)

/-! ### loops -/
def whlN (c : Nv → Option (Bool × Nv)) (body : Nv → Option (Fl × Nv)) : Nat → Nv → Option (Fl × Nv)
  | 0, _ => none
  | n + 1, env => do
    let (b, env) ← c env
    if b then do
      let (f, env) ← body env
      match f with
      | .nx => whlN c body n env
      | .rt r => some (.rt r, env)
    else some (.nx, env)
theorem whl_fuel {c : Nv → Option (Bool × Nv)} {body : Nv → Option (Fl × Nv)} {env : Nv} {r : Fl × Nv} (h : whlL c body env = some r) : ∃ n, whlN c body n env = some r := by
  refine whlL.partial_correctness c body (fun env r => ∃ n, whlN c body n env = some r) (fun f ih env r h => ?_) env r h
  simp only [Option.bind_eq_bind, Option.bind_eq_some_iff, Prod.exists] at h
  obtain ⟨b, env1, e1, h⟩ := h
  cases b with
  | false =>
    refine ⟨1, ?_⟩
    rw [whlN, e1]
    exact h
  | true =>
    rw [if_pos rfl] at h
    simp only [Option.bind_eq_some_iff, Prod.exists] at h
    obtain ⟨fl, env2, e2, h⟩ := h
    cases fl with
    | nx =>
      obtain ⟨n, e3⟩ := ih _ _ h
      refine ⟨n + 1, ?_⟩
      rw [whlN, e1]
      show (body env1 >>= _) = _
      rw [e2]
      exact e3
    | rt r =>
      refine ⟨1, ?_⟩
      rw [whlN, e1]
      show (body env1 >>= _) = _
      rw [e2]
      exact h
theorem sS_whl (g : GdS X N sc k) {c : E} {b : SL} {x : Expr} {xs : List Stmt} {pos : Pos} {is : List Nat} (hc : ST X x (evC false fun env => ev c env)) (hb : SSL X xs is (evSL b)) : SS X (.While x xs [] pos) is (evS (.whl c b)) := by
  obtain ⟨t, pt, ht⟩ := hc
  obtain ⟨tb, pb, hb⟩ := hb
  refine ⟨_, ps_while g.pass pt pb, fun F H σ env fl env' R e D q => ?_⟩
  rw [evS] at e
  obtain ⟨n, e⟩ := whl_fuel e
  refine ⟨fun m σ1 H1 => ∃ F1 env1, ER X.K F1 H1 σ1 env1 ∧ Stp (wd σ env F H) (wd σ1 env1 F1 H1) ∧ Agr is σ σ1 ∧ whlN (evC false fun env => ev c env) (fun env => evSL b env) m env1 = some (fl, env'), ⟨n, F, env, R, Stp.refl _, Agr.refl _ _, e⟩, ?_⟩
  rintro m σ1 H1 ⟨F1, env1, R1, s1, a1, e1⟩
  cases m with
  | zero => cases e1
  | succ m =>
    rw [whlN] at e1
    simp only [Option.bind_eq_bind, Option.bind_eq_some_iff, Prod.exists] at e1
    obtain ⟨d, env2, e2, e3⟩ := e1
    refine ht F1 H1 σ1 env1 _ _ R1 e2 _ fun F2 H2 R2 s2 => ?_
    have s12 := s1.trans s2
    cases d with
    | false =>
      rw [if_neg Bool.false_ne_true] at e3
      change ite ((false : Bool) = true) _ _
      rw [if_neg Bool.false_ne_true]
      cases e3
      exact q σ1 F2 H2 R2 s12 a1
    | true =>
      rw [if_pos rfl] at e3
      change ite ((true : Bool) = true) _ _
      rw [if_pos rfl]
      simp only [Option.bind_eq_some_iff, Prod.exists] at e3
      obtain ⟨f, env3, e4, e5⟩ := e3
      refine ⟨fun σ3 H3 => ∃ F3 env3, ER X.K F3 H3 σ3 env3 ∧ Stp (wd σ env F H) (wd σ3 env3 F3 H3) ∧ Agr is σ σ3 ∧ whlN (evC false fun env => ev c env) (fun env => evSL b env) m env3 = some (fl, env'), fun σ3 H3 h => ⟨m, Nat.lt_succ_self m, h⟩, ?_⟩
      refine hb F2 H2 σ1 env2 f env3 R2 e4 _ fun σ3 F3 H3 R3 s3 a3 => ?_
      cases f with
      | nx => exact ⟨F3, env3, R3, s12.trans s3, a1.trans a3, e5⟩
      | rt r =>
        cases e5
        intro v r1 p1
        exact q σ3 F3 H3 R3 (s12.trans s3) (a1.trans a3) v r1 (p1.mono s12)
def SSC (X : Cx) (ss : List Stmt) (is : List Nat) (f : Nv → Option (Fl × Nv)) : Prop := ∃ t, PSs X ss t ∧ ∀ (F : Addr → Prop) (H : Hp) (σ : L2.St) (env : Nv) (fl : Fl) (env' : Nv), ER X.K F H σ env → f env = some (fl, env') → ∀ D : Ends,
  (∀ σ' F' H', ER X.K F' H' σ' env' → Stp (wd σ env F H) (wd σ' env' F' H') → Agr is σ σ' → match fl with
    | .nx => D.nx σ' H' ∧ D.ct σ' H'
    | .rt r => ∀ v, RR X.K F' H' σ' env' r v → Prov (wd σ env F H) r v → D.rt v H') → t D σ H
def SSK (X : Cx) (ss : List Stmt) (is : List Nat) (f : Nv → Option (Fl × Nv)) : Prop := ∃ t, PSs X ss t ∧ ∀ (F : Addr → Prop) (H : Hp) (σ : L2.St) (env : Nv) (fl : Fl) (env' : Nv), ER X.K F H σ env → f env = some (fl, env') → ∀ D : Ends,
  (∀ σ' F' H', ER X.K F' H' σ' env' → Stp (wd σ env F H) (wd σ' env' F' H') → Agr is σ σ' → match fl with
    | .nx => D.ct σ' H'
    | .rt r => ∀ v, RR X.K F' H' σ' env' r v → Prov (wd σ env F H) r v → D.rt v H') → t D σ H
theorem SSL.toC {X : Cx} {ss : List Stmt} {is : List Nat} {f : Nv → Option (Fl × Nv)} (h : SSL X ss is f) : SSC X ss is f := by
  obtain ⟨t, pt, ht⟩ := h
  refine ⟨t, pt, fun F H σ env fl env' R e D q => ht F H σ env fl env' R e D fun σ' F' H' R' s' ag => ?_⟩
  have := q σ' F' H' R' s' ag
  cases fl with
  | nx => exact this.1
  | rt r => exact this
theorem sSK_nil {p : Pos} : SSK X [.Continue p] [] (evSL .nil) := by
  refine ⟨_, pss_cons ps_continue pss_nil, fun F H σ env fl env' R e D q => ?_⟩
  simp only [evSL, Option.some.injEq, Prod.mk.injEq] at e
  obtain ⟨rfl, rfl⟩ := e
  exact q σ F H R (Stp.refl _) (Agr.refl _ _)
theorem sSK_cons {s : S} {ss : SL} {x : Stmt} {xs : List Stmt} {is js : List Nat} (h : SS X x is (evS s)) (hr : SSK X xs js (evSL ss)) : SSK X (x :: xs) (is ++ js) (evSL (.cons s ss)) := by
  obtain ⟨t, pt, ht⟩ := h
  obtain ⟨u, pu, hu⟩ := hr
  refine ⟨_, pss_cons pt pu, fun F H σ env fl env' R e D q => ?_⟩
  rw [evSL] at e
  simp only [Option.bind_eq_bind, Option.bind_eq_some_iff, Prod.exists] at e
  obtain ⟨f, env1, e1, e2⟩ := e
  refine ht F H σ env f env1 R e1 _ fun σ1 F1 H1 R1 s1 ag => ?_
  cases f with
  | nx =>
    refine hu F1 H1 σ1 env1 fl env' R1 e2 D fun σ' F' H' R' s' ag' => ?_
    have := q σ' F' H' R' (s1.trans s') ((ag.mono fun i hi => List.mem_append_left _ hi).trans (ag'.mono fun i hi => List.mem_append_right _ hi))
    cases fl with
    | nx => exact this
    | rt r => exact fun v r1 p1 => this v r1 (p1.mono s1)
  | rt r =>
    cases e2
    exact q σ1 F1 H1 R1 s1 (ag.mono fun i hi => List.mem_append_left _ hi)
theorem sSC_cons {s : S} {x : Stmt} {xs : List Stmt} {is js : List Nat} {g : Nv → Option (Fl × Nv)} (h : SS X x is (evS s)) (hr : SSC X xs js g) : SSC X (x :: xs) (is ++ js) (preF (evS s) g) := by
  obtain ⟨t, pt, ht⟩ := h
  obtain ⟨u, pu, hu⟩ := hr
  refine ⟨_, pss_cons pt pu, fun F H σ env fl env' R e D q => ?_⟩
  rw [preF] at e
  simp only [Option.bind_eq_bind, Option.bind_eq_some_iff, Prod.exists] at e
  obtain ⟨f, env1, e1, e2⟩ := e
  refine ht F H σ env f env1 R e1 _ fun σ1 F1 H1 R1 s1 ag => ?_
  cases f with
  | nx =>
    refine hu F1 H1 σ1 env1 fl env' R1 e2 D fun σ' F' H' R' s' ag' => ?_
    have := q σ' F' H' R' (s1.trans s') ((ag.mono fun i hi => List.mem_append_left _ hi).trans (ag'.mono fun i hi => List.mem_append_right _ hi))
    cases fl with
    | nx => exact this
    | rt r => exact fun v r1 p1 => this v r1 (p1.mono s1)
  | rt r =>
    cases e2
    exact q σ1 F1 H1 R1 s1 (ag.mono fun i hi => List.mem_append_left _ hi)
theorem sSC_ct {c : E} {fx g : Nv → Option (Fl × Nv)} {x : Expr} {xs zs : List Stmt} {pos : Pos} {is js : List Nat} (hc : ST X x (evC false fun env => ev c env)) (ha : SSK X xs is fx) (hb : SSC X zs js g) : SSC X (.If x xs [] pos :: zs) (is ++ js) (ctF (evC false fun env => ev c env) fx g) := by
  obtain ⟨t, pt, ht⟩ := hc
  obtain ⟨ta, pa, ha⟩ := ha
  obtain ⟨tb, pb, hb⟩ := hb
  refine ⟨_, pss_cons (ps_if pt pa pss_nil) pb, fun F H σ env fl env' R e D q => ?_⟩
  rw [ctF] at e
  simp only [Option.bind_eq_bind, Option.bind_eq_some_iff, Prod.exists] at e
  obtain ⟨d, env1, e1, e2⟩ := e
  refine ht F H σ env _ _ R e1 _ fun F1 H1 R1 s1 => ?_
  have tr : ∀ {r : Res} {v : V}, Prov (wd σ env1 F1 H1) r v → Prov (wd σ env F H) r v := fun h => h.mono s1
  cases d with
  | true =>
    rw [if_pos rfl] at e2
    change ite ((true : Bool) = true) _ _
    rw [if_pos rfl]
    refine ha F1 H1 σ env1 fl env' R1 e2 _ fun σ' F' H' R' s' ag => ?_
    have := q σ' F' H' R' (s1.trans s') (ag.mono fun i hi => List.mem_append_left _ hi)
    cases fl with
    | nx => exact this.2
    | rt r => exact fun v r1 p1 => this v r1 (tr p1)
  | false =>
    rw [if_neg Bool.false_ne_true] at e2
    change ite ((false : Bool) = true) _ _
    rw [if_neg Bool.false_ne_true]
    refine hb F1 H1 σ env1 fl env' R1 e2 D fun σ' F' H' R' s' ag => ?_
    have := q σ' F' H' R' (s1.trans s') (ag.mono fun i hi => List.mem_append_right _ hi)
    cases fl with
    | nx => exact this
    | rt r => exact fun v r1 p1 => this v r1 (tr p1)
theorem preF_nil {g : Nv → Option (Fl × Nv)} : preF (evSL .nil) g = g := funext fun env => by rw [preF, evSL]; rfl
theorem preF_cons {s : S} {ss : SL} {g : Nv → Option (Fl × Nv)} : preF (evSL (.cons s ss)) g = preF (evS s) (preF (evSL ss) g) := funext fun env => by
  rw [preF, preF, evSL]
  cases evS s env with
  | none => rfl
  | some p =>
    obtain ⟨f, e⟩ := p
    cases f with
    | nx => rfl
    | rt r => rfl
def forF (tup : Bool) (tg : List Nat) (ik : IK) (a b : E) (is : List Nat) (f1 : Nv → Option (Fl × Nv)) (env : Nv) : Option (Fl × Nv) := do
  let (ra, env) ← ev a env
  let (rb, env) ← evD ik (fun env => ev b env) env
  let d1 ← rd env ra
  let d2 ← rd env rb
  let its ← iterV ik d1 d2
  let ln := lend1 env ra ++ lend1 env rb
  if lnIn (tg ++ is) ln then none else do
    let (f, env) ← forL (setTg tup tg) f1 its (lendE env ln)
    some (f, unlendE env ln)
theorem sS_forG (g : GdS X N sc k) {is : List Nat} {f1 : Nv → Option (Fl × Nv)} {tup : Bool} {tg : List Nat} {ik : IK} {a b : E} {t it : Expr} {xs : List Stmt} {pos : Pos} (hI : SI X t it ik (ev a) (fun env => ev b env)) (hs : noSet it = true) (ht : chTg N sc tup tg t = true) (hb : SSC X xs is f1) :
    SS X (.For t it xs [] pos) (tg ++ is) (forF tup tg ik a b is f1) := by
  obtain ⟨wi, pi, hI⟩ := hI
  obtain ⟨tb, pb, hb⟩ := hb
  refine ⟨_, ps_for g.pass g.e.calm pi (sG g.e.nn g.e.nd g.e.calm (fun x h => g.loc x h) ht) pb (noFold hs), fun F H σ env fl env' R e D q => ?_⟩
  rw [forF] at e
  simp only [Option.bind_eq_bind, Option.bind_eq_some_iff, Prod.exists] at e
  obtain ⟨ra, env1, e1, rb, env2, e2, d1, e3, d2, e4, its, e5, e6⟩ := e
  split at e6
  · cases e6
  · rename_i hln
    simp only [Option.bind_eq_some_iff, Prod.exists, Option.some.injEq, Prod.mk.injEq] at e6
    obtain ⟨f0, env3, e6, rfl, rfl⟩ := e6
    refine hI F H σ env _ _ _ _ _ _ _ R e1 e2 e3 e4 e5 _ fun J F2 H2 R2 s2 wk => ?_
    change Wk X.K J its (wd σ (lendE env2 (lend1 env2 ra ++ lend1 env2 rb)) F2 H2) at wk
    have hown : ∀ i ∈ lend1 env2 ra ++ lend1 env2 rb, ∃ l, env2[i]? = some (.own l) := fun i hi => by
      rcases List.mem_append.mp hi with hi | hi
      · exact (lend1_own hi).2
      · exact (lend1_own hi).2
    have hno : ∀ i ∈ lend1 env2 ra ++ lend1 env2 rb, i ∉ tg ++ is := fun i hi hq => by
      refine hln ?_
      unfold lnIn
      exact List.any_eq_true.mpr ⟨i, hi, List.contains_iff_mem.mpr hq⟩
    obtain ⟨R3, s3, _, _⟩ := lend_ok (lend1 env2 ra ++ lend1 env2 rb) R2
    generalize hold : lendE env2 (lend1 env2 ra ++ lend1 env2 rb) = old at *
    refine ⟨fun i m σ4 H4 => m = its.length - i ∧ i ≤ its.length ∧ ∃ F4 env4, ER X.K F4 H4 σ4 env4 ∧ Stp (wd σ old F2 H2) (wd σ4 env4 F4 H4) ∧ Agr (tg ++ is) σ σ4 ∧ forL (setTg tup tg) f1 (its.drop i) env4 = some (f0, env3),
      ⟨its.length, by omega, Nat.zero_le _, F2, old, R3, Stp.refl _, Agr.refl _ _, e6⟩, ?_⟩
    rintro i m σ4 H4 ⟨rfl, hile, F4, env4, R4, s4, a4, e7⟩
    -- the end
    have done : ∀ (σ' : L2.St) (F' : Addr → Prop) (H' : Hp), ER X.K F' H' σ' env3 → Stp (wd σ old F2 H2) (wd σ' env3 F' H') → Agr (tg ++ is) σ σ' → match f0 with
      | .nx => D.nx σ' H'
      | .rt r => ∀ v, RR X.K F' H' σ' env3 r v → Prov (wd σ old F2 H2) r v → D.rt v H' := fun σ' F' H' R' s' ag => by
      have sB : Stp (wd σ env2 F2 H2) (wd σ' (unlendE env3 (lend1 env2 ra ++ lend1 env2 rb)) F' H') := back_stp (Stp.refl _) hown (fun i hi => ag.at_ i (hno i hi)) (s3.trans s') R'
      have := q σ' F' H' (unlend_ok _ R').1 (s2.trans sB) ag
      cases f0 with
      | nx => exact this
      | rt r => exact fun v r1 p1 => this v (RR.unlend R' r1) ((p1.mono s3).mono s2)
    by_cases hlt : i < its.length
    · have hd : its[i]? = some its[i] := List.getElem?_eq_getElem hlt
      rw [List.drop_eq_getElem_cons hlt] at e7
      simp only [forL, Option.bind_eq_bind, Option.bind_eq_some_iff, Prod.exists] at e7
      obtain ⟨env5, t1, f, env6, t2, t3⟩ := e7
      refine .inr ⟨wk.go _ s4 i hlt, fun σ7 H7 => ∃ F7 env7, ER X.K F7 H7 σ7 env7 ∧ Stp (wd σ old F2 H2) (wd σ7 env7 F7 H7) ∧ Agr (tg ++ is) σ σ7 ∧ forL (setTg tup tg) f1 (its.drop (i + 1)) env7 = some (f0, env3),
        fun σ7 H7 h => ⟨its.length - (i + 1), by omega, rfl, hlt, h⟩, fun xv H5 hy => ?_⟩
      obtain ⟨sm, rp⟩ := wk.yld _ s4 i xv H5 hy _ hd
      have rp : Rp X.K F4 H5 xv its[i] := rp
      have sm : Same H4 H5 := sm
      refine ⟨F4, env4, its[i], env5, R4.same sm, rp, t1, fun σ6 R6 st6 ag => ?_⟩
      have s6 := st6 _ (s4.trans (Same.stp (σ := σ4) (env := env4) (F := F4) sm))
      have a6 := a4.trans (ag.mono fun j hj => List.mem_append_left (is) hj)
      refine hb F4 H5 σ6 env5 f env6 R6 t2 _ fun σ7 F7 H7 R7 s7 a7 => ?_
      have s07 := s6.trans s7
      have a07 := a6.trans (a7.mono fun j hj => List.mem_append_right tg hj)
      cases f with
      | nx => exact ⟨⟨F7, env6, R7, s07, a07, t3⟩, ⟨F7, env6, R7, s07, a07, t3⟩⟩
      | rt r =>
        cases t3
        intro v r1 p1
        exact done σ7 F7 H7 R7 s07 a07 v r1 (p1.mono s6)
    · rw [List.drop_eq_nil_of_le (by omega)] at e7
      simp only [forL, Option.some.injEq, Prod.mk.injEq] at e7
      obtain ⟨rfl, rfl⟩ := e7
      exact .inl ⟨wk.stop _ s4 i (by omega) hile, done σ4 F4 H4 R4 s4 a4⟩
theorem sS_for (g : GdS X N sc k) {tup : Bool} {tg : List Nat} {ik : IK} {a b : E} {body : SL} {t it : Expr} {xs : List Stmt} {pos : Pos} (hI : SI X t it ik (ev a) (fun env => ev b env)) (hs : noSet it = true) (ht : chTg N sc tup tg t = true) (hb : SSL X xs (asgsL body) (evSL body)) :
    SS X (.For t it xs [] pos) (tg ++ asgsL body) (evS (.for_ tup tg ik a b body)) := by
  have e : evS (.for_ tup tg ik a b body) = forF tup tg ik a b (asgsL body) (fun env => evSL body env) := funext fun env => by rw [evS, forF]
  rw [e]
  exact sS_forG g hI hs ht hb.toC
theorem sS_forc (g : GdS X N sc k) {tup : Bool} {tg : List Nat} {ik : IK} {a b c : E} {n : Nat} {pre x rest : SL} {t it : Expr} {xs : List Stmt} {pos : Pos} (hI : SI X t it ik (ev a) (fun env => ev b env)) (hs : noSet it = true) (ht : chTg N sc tup tg t = true)
    (hb : SSC X xs (asgsL pre ++ (asgsL x ++ asgsL rest)) (preF (evSL pre) (ctF (evC false fun env => ev c env) (evSL x) (evSL rest)))) :
    SS X (.For t it xs [] pos) (tg ++ (asgsL pre ++ (asgsL x ++ asgsL rest))) (evS (.forc tup tg ik a b n pre c x rest)) := by
  have e : evS (.forc tup tg ik a b n pre c x rest) = forF tup tg ik a b (asgsL pre ++ (asgsL x ++ asgsL rest)) (preF (evSL pre) (ctF (evC false fun env => ev c env) (evSL x) (evSL rest))) := funext fun env => by rw [evS, forF]
  rw [e]
  exact sS_forG g hI hs ht hb
end
end Ev

/-! A verified evaluator over the hand layer, part 15: every statement; defs. -/
namespace Ev
open PySem L2

mutual
def gdS (P : Fn → Prop) (B : Str → Prop) (G : Str → D → Prop) : S → Prop
  | .asg _ e => gd P B G e
  | .asgT _ e => gd P B G e
  | .asgL _ e => gd P B G e
  | .par _ _ a b => gd P B G a ∧ gd P B G b
  | .paro _ _ a b => gd P B G a ∧ gd P B G b
  | .par3 _ _ _ a b c => gdL P B G (.cons a (.cons b (.cons c .nil)))
  | .setIx _ i e => gd P B G i ∧ gd P B G e
  | .swp _ _ _ e => gd P B G e
  | .exp e => gd P B G e
  | .ret e => gd P B G e
  | .retN => True
  | .ife c a b => gd P B G c ∧ gdSL P B G a ∧ gdSL P B G b
  | .for_ _ _ ik a b body => ikG B ik a ∧ gd P B G a ∧ gd P B G b ∧ gdSL P B G body
  | .whl c body => gd P B G c ∧ gdSL P B G body
  | .forc _ _ ik a b _ pre c x rest => ikG B ik a ∧ gd P B G a ∧ gd P B G b ∧ gdSL P B G pre ∧ gd P B G c ∧ gdSL P B G x ∧ gdSL P B G rest
  | .never => True
def gdSL (P : Fn → Prop) (B : Str → Prop) (G : Str → D → Prop) : SL → Prop
  | .nil => True
  | .cons s ss => gdS P B G s ∧ gdSL P B G ss
end
section
variable {N : List Str} {k : Nat}
theorem s_lc {i : Nat} {e : E} {X : Cx} {sc : Scope} {y : Str} {py spos : Pos} {el : Expr} {gs : List Comprehension} {scope : Scope} {pos : Pos} (g : GdS X N sc k) (q : gd (FnG X k) (fun b => X.mg b = none) (GlG X) e) (hi : N[i]? = some y) (hx : sc.names.lookup y = some .local)
    (h : ch N sc e (.ListComp el gs scope pos) = true) (hl : (py.line == pos.line) = true) (hn : (scope.names.any fun (n, k) => n == y && (k == .local || k == .cell)) = false) : SS X (.Assign [.Name y py] (.ListComp el gs scope pos) spos) [i] (evS (.asg i e)) := by
  cases e with
  | lc own tup tg ik a b c d =>
    unfold ch at h
    split at h
    · rename_i y0 t it ifs scope0 pos0 heq
      injection heq with q1 q2 q3 q4
      subst q1 q2 q3 q4
      simp only [Bool.and_eq_true] at h
      obtain ⟨⟨⟨⟨⟨⟨⟨h1, h2⟩, h3⟩, h4⟩, h5⟩, h6⟩, h7⟩, h8⟩ := h
      obtain ⟨q1, q2, q3, q4, q5⟩ := q
      obtain ⟨wi, pi, hI⟩ : SI X t it ik (ev a) (fun env => ev b env) := sI_ok g.e h1 h3 h5 q1 (fun z hz => (main_e a X sc z g.e q2 hz).1) (fun z hz => (main_e b X sc z g.e q3 hz).1) (main_z g.e q1 q2)
      have hbk : BlkOk X.N X.env.scope scope own := blkOk_by (by rw [g.e.nn, g.e.ss]; exact h4)
      have hC : ∀ (s : Shared) (H : Hp) (C : Addr) (cl : List (Str × Addr)) (fp : List Addr), PTs (X.blk s H scope (compEnvC scope cl C X.env) fp) ifs (canT X.K (evC c.isNo fun env => ev c env)) := fun s H C cl fp => by
        split at h8
        · rw [h8]
          exact pts_can0
        · simp only [Bool.and_eq_true, Bool.not_eq_true'] at h8
          rw [h8.1]
          exact pts_one (main_e c (X.blk s H scope (compEnvC scope cl C X.env) fp) (relS scope sc) _ g.e.blk q4 h8.2).2.can
        · cases h8
      refine sS_lc g hi hx (ps_setLc g.e.calm g.e.ndX (by rw [g.e.nn]; exact hi) (by rw [g.e.ss]; exact hx) (sw_true (by rw [g.e.ss]; exact g.kind) (by rw [g.e.ss]; exact hx) hl hn) pi hbk
        (fun s H C cl fp => sG (X := X.blk s H scope (compEnvC scope cl C X.env) fp) (N := N) (sc := scope) g.e.nn g.e.nd g.e.calm (fun x h => blk_loc x h) h5) hC
        (fun s H C cl fp => (main_e d (X.blk s H scope (compEnvC scope cl C X.env) fp) (relS scope sc) el g.e.blk q5 h7).1.can) (noFold h2)) (lc_sem hI (fun i hi => List.contains_iff_mem.mp (List.all_eq_true.mp h6 i hi)))
    · cases h
  | _ => unfold ch at h; cases h
mutual
theorem main_s : ∀ (s : S) (X : Cx) (sc : Scope) (x : Stmt), GdS X N sc k → gdS (FnG X k) (fun b => X.mg b = none) (GlG X) s → chS N sc s x = true → SS X x (asgs s) (evS s)
  | .asg i e, X, sc, x, g, q, h => by
    unfold chS at h
    split at h
    · rename_i y py v pos
      simp only [Bool.and_eq_true, decide_eq_true_eq] at h
      obtain ⟨⟨⟨h1, h2⟩, h3⟩, h4⟩ := h
      by_cases hc : noComp v = true
      · exact sS_asg g h1 h2 (main_e e X sc v g.e q h3).1 hc
      · rw [Bool.not_eq_true] at hc
        rw [hc, Bool.false_or] at h4
        split at h4
        · rename_i elt gs scope pos
          by_cases hw : (sc.names.lookup y = some .local ∧ (py.line == pos.line) = true) ∧ (scope.names.any fun (n, k) => n == y && (k == .local || k == .cell)) = false
          · exact s_lc g q h1 hw.1.1 h3 hw.1.2 hw.2
          · exact sS_asg' g h1 h2 (main_e e X sc _ g.e q h3).1 (sw_false (by rw [g.e.ss]; exact hw))
        · cases h4
    · cases h
  | .asgT is e, X, sc, x, g, q, h => by
    unfold chS at h
    split at h
    · simp only [Bool.and_eq_true] at h
      exact sS_asgT g h.1.1.1 (main_e e X sc _ g.e q h.1.1.2).1 h.1.2 h.2
    · cases h
  | .asgL is e, X, sc, x, g, q, h => by
    unfold chS at h
    split at h
    · simp only [Bool.and_eq_true] at h
      exact sS_asgL g h.1.1.1 (main_e e X sc _ g.e q h.1.1.2).1 h.1.2 h.2
    · cases h
  | .par i j a b, X, sc, x, g, q, h => by
    unfold chS at h
    split at h
    · simp only [Bool.and_eq_true, decide_eq_true_eq, Bool.not_eq_true', beq_eq_false_iff_ne, ne_eq] at h
      obtain ⟨⟨⟨⟨⟨⟨⟨⟨⟨⟨⟨h1, h2⟩, h3⟩, h4⟩, h5⟩, h6⟩, h7⟩, h8⟩, h9⟩, h10⟩, h11⟩, h12⟩ := h
      exact sS_par g h1 h2 h5 h3 h4 h6 (sL_cons (main_e a X sc _ g.e q.1 h7).1 (sL_cons (main_e b X sc _ g.e q.2 h8).1 sL_nil h10) h9) h9 h10 h11 h12
    · cases h
  | .paro i j a b, X, sc, x, g, q, h => by
    unfold chS at h
    split at h
    · simp only [Bool.and_eq_true, decide_eq_true_eq, Bool.not_eq_true', beq_eq_false_iff_ne, ne_eq] at h
      obtain ⟨⟨⟨⟨⟨⟨⟨⟨⟨⟨⟨h1, h2⟩, h3⟩, h4⟩, h5⟩, h6⟩, h7⟩, h8⟩, h9⟩, h10⟩, h11⟩, h12⟩ := h
      exact sS_paro g h1 h2 h5 h3 h4 h6 (main_e a X sc _ g.e q.1 h7).1 (main_e b X sc _ g.e q.2 h8).1 h9 h10 h11 h12
    · cases h
  | .par3 i j l a b c, X, sc, x, g, q, h => by
    unfold chS at h
    split at h
    · simp only [Bool.and_eq_true, decide_eq_true_eq, Bool.not_eq_true', beq_eq_false_iff_ne, ne_eq] at h
      obtain ⟨h1, h2, h3, h4, h5, h6, h7, h8, h9, h10, h11, h12, h13, h14, h15, h16, h17⟩ := h
      exact sS_par3 g h1 h2 h3 h4 h5 h6 h7 h8 h9 h10 h11 (main_l (.cons a (.cons b (.cons c .nil))) X sc _ g.e q h12) h13 h14 h15 h16 h17
    · cases h
  | .swp i ja jb e, X, sc, x, g, q, h => by
    unfold chS at h
    split at h
    · simp only [Bool.and_eq_true] at h
      exact sS_swp g h.1.1.1.1.1 h.1.1.1.1.2 h.1.1.1.2 h.1.1.2 (main_e e X sc _ g.e q h.1.2).1 h.2
    · cases h
  | .setIx i a e, X, sc, x, g, q, h => by
    unfold chS at h
    split at h
    · simp only [Bool.and_eq_true] at h
      exact sS_setIx g h.1.1.1.1 (main_e a X sc _ g.e q.1 h.1.1.1.2).1 (main_e e X sc _ g.e q.2 h.1.1.2).1 h.1.2 h.2
    · cases h
  | .exp e, X, sc, x, g, q, h => by
    unfold chS at h
    split at h
    · simp only [Bool.and_eq_true] at h
      exact sS_exp g (main_e e X sc _ g.e q h.1).1 h.2
    · cases h
  | .ret e, X, sc, x, g, q, h => by
    unfold chS at h
    split at h
    · exact sS_ret (main_e e X sc _ g.e q h).1
    · cases h
  | .retN, X, sc, x, g, q, h => by
    unfold chS at h
    split at h
    · exact sS_retN
    · cases h
  | .ife c a b, X, sc, x, g, q, h => by
    unfold chS at h
    split at h
    · simp only [Bool.and_eq_true] at h
      exact sS_ife (main_e c X sc _ g.e q.1 h.1.1).2 (main_sl a X sc _ g q.2.1 h.1.2) (main_sl b X sc _ g q.2.2 h.2)
    · cases h
  | .for_ tup tg ik a b body, X, sc, x, g, q, h => by
    unfold chS at h
    split at h
    · simp only [Bool.and_eq_true] at h
      obtain ⟨⟨⟨⟨h1, h2⟩, h3⟩, h5⟩, h6⟩ := h
      obtain ⟨q1, q2, q3, q4⟩ := q
      exact sS_for g (sI_ok g.e h1 h3 h5 q1 (fun z hz => (main_e a X sc z g.e q2 hz).1) (fun z hz => (main_e b X sc z g.e q3 hz).1) (main_z g.e q1 q2)) h2 h5 (main_sl body X sc _ g q4 h6)
    · cases h
  | .whl c body, X, sc, x, g, q, h => by
    unfold chS at h
    split at h
    · simp only [Bool.and_eq_true] at h
      exact sS_whl g (main_e c X sc _ g.e q.1 h.1).2 (main_sl body X sc _ g q.2 h.2)
    · cases h
  | .forc tup tg ik a b n pre c x rest, X, sc, st, g, q, h => by
    unfold chS at h
    split at h
    · rename_i t it xs pos
      simp only [Bool.and_eq_true] at h
      obtain ⟨⟨⟨⟨⟨h1, h2⟩, h3⟩, h5⟩, h6⟩, h7⟩ := h
      obtain ⟨q1, q2, q3, q4, q5, q6, q7⟩ := q
      split at h7
      · rename_i tc xc pc zs hz
        simp only [Bool.and_eq_true] at h7
        obtain ⟨⟨⟨h8, h9⟩, h10⟩, h11⟩ := h7
        obtain ⟨pp, hpp⟩ : ∃ pp, xc = xc.dropLast ++ [.Continue pp] := by
          rcases List.eq_nil_or_concat xc with rfl | ⟨l, y, rfl⟩
          · cases h9
          · rw [List.concat_eq_append, List.getLast?_concat] at h9
            unfold isCt at h9
            split at h9
            · rename_i pp hl
              cases hl
              exact ⟨pp, by rw [List.concat_eq_append, List.dropLast_concat]⟩
            · cases h9
        have hX : xs = xs.take n ++ (.If tc xc [] pc :: zs) := by rw [← hz, List.take_append_drop]
        have kx := main_ct x X sc _ pp g q6 h10
        rw [← hpp] at kx
        have key := main_pre pre X sc _ _ _ _ g q4 h6 (sSC_ct (pos := pc) (main_e c X sc _ g.e q5 h8).2 kx (main_sl rest X sc _ g q7 h11).toC)
        rw [← hX] at key
        exact sS_forc g (sI_ok g.e h1 h3 h5 q1 (fun z hz => (main_e a X sc z g.e q2 hz).1) (fun z hz => (main_e b X sc z g.e q3 hz).1) (main_z g.e q1 q2)) h2 h5 key
      · cases h7
    · cases h
  | .never, X, sc, x, g, q, h => sS_never
theorem main_ct : ∀ (ss : SL) (X : Cx) (sc : Scope) (xs : List Stmt) (p : Pos), GdS X N sc k → gdSL (FnG X k) (fun b => X.mg b = none) (GlG X) ss → chSL N sc ss xs = true → SSK X (xs ++ [.Continue p]) (asgsL ss) (evSL ss)
  | .nil, X, sc, xs, p, g, q, h => by
    unfold chSL at h
    split at h
    · exact sSK_nil
    · cases h
  | .cons s ss, X, sc, xs, p, g, q, h => by
    unfold chSL at h
    split at h
    · simp only [Bool.and_eq_true] at h
      exact sSK_cons (main_s s X sc _ g q.1 h.1) (main_ct ss X sc _ p g q.2 h.2)
    · cases h
theorem main_pre : ∀ (ss : SL) (X : Cx) (sc : Scope) (xs ys : List Stmt) (js : List Nat) (f : Nv → Option (Fl × Nv)), GdS X N sc k → gdSL (FnG X k) (fun b => X.mg b = none) (GlG X) ss → chSL N sc ss xs = true → SSC X ys js f → SSC X (xs ++ ys) (asgsL ss ++ js) (preF (evSL ss) f)
  | .nil, X, sc, xs, ys, js, f, g, q, h, hy => by
    unfold chSL at h
    split at h
    · rw [preF_nil]; exact hy
    · cases h
  | .cons s ss, X, sc, xs, ys, js, f, g, q, h, hy => by
    unfold chSL at h
    split at h
    · simp only [Bool.and_eq_true] at h
      rw [preF_cons, show asgsL (.cons s ss) = asgs s ++ asgsL ss from rfl, List.append_assoc]
      exact sSC_cons (main_s s X sc _ g q.1 h.1) (main_pre ss X sc _ ys js f g q.2 h.2 hy)
    · cases h
theorem main_sl : ∀ (ss : SL) (X : Cx) (sc : Scope) (xs : List Stmt), GdS X N sc k → gdSL (FnG X k) (fun b => X.mg b = none) (GlG X) ss → chSL N sc ss xs = true → SSL X xs (asgsL ss) (evSL ss)
  | .nil, X, sc, xs, g, q, h => by
    unfold chSL at h
    split at h
    · exact sSL_nil
    · cases h
  | .cons s ss, X, sc, xs, g, q, h => by
    unfold chSL at h
    split at h
    · simp only [Bool.and_eq_true] at h
      exact sSL_cons (main_s s X sc _ g q.1 h.1) (main_sl ss X sc _ g q.2 h.2)
    · cases h
end
end
end Ev

/-! A verified evaluator over the hand layer, part 16: defs keep what the evaluator promises. -/
namespace Ev
open PySem L2

def GlGm (K : PySem.W.Frag) (mg : Str → Option Value) (x : Str) (c : D) : Prop := ∃ u v, mg x = some u ∧ RelV v u ∧ (cvl c = some v ∨ (c = fnD x ∧ v = .ref (He.ga K x)))
theorem glGm_fn {K : PySem.W.Frag} {mg : Str → Option Value} {x : Str} (h : mg x = some (.ref (He.ga K x))) : GlGm K mg x (fnD x) := ⟨_, .ref (He.ga K x), h, rfl, .inr ⟨rfl, rfl⟩⟩
theorem glGm_c {K : PySem.W.Frag} {mg : Str → Option Value} {x : Str} {c : D} (h : ∃ u v, mg x = some u ∧ RelV v u ∧ cvl c = some v) : GlGm K mg x c := let ⟨u, v, a, b, d⟩ := h; ⟨u, v, a, b, .inl d⟩
section
variable {P : Program} {w : World} {K : PySem.W.Frag} {mg : Str → Option Value} {base : Heap}
section
variable {F F' : Addr → Prop} {H H' : Hp} {σ σ' : L2.St} {env env' : Nv}
theorem start_get {N : List Str} {vs : List V} {i : Nat} (h : i < vs.length) : (start N vs)[i]? = (vs.map some)[i]? := by
  unfold L2.start
  rw [List.getElem?_append_left (by rw [List.length_map]; exact h)]
theorem start_er {N : List Str} {vs : List V} {as : List Slot} (hl : vs.length ≤ N.length) (R : ER K F H (vs.map some) as) : ER K F H (start N vs) (as ++ List.replicate (N.length - vs.length) .un) := by
  have la : as.length = vs.length := by rw [R.len, List.length_map]
  have old : ∀ {i : Nat} {s : Slot}, (as ++ List.replicate (N.length - vs.length) Slot.un)[i]? = some s → (i < vs.length ∧ as[i]? = some s) ∨ s = .un := fun {i s} e => by
    by_cases h : i < as.length
    · rw [List.getElem?_append_left h] at e
      exact .inl ⟨by omega, e⟩
    · rw [List.getElem?_append_right (by omega), List.getElem?_replicate] at e
      split at e
      · cases e; exact .inr rfl
      · cases e
  have kd : ∀ {j : Nat}, (∃ l, (as ++ List.replicate (N.length - vs.length) Slot.un)[j]? = some (Slot.own l) ∨ (as ++ List.replicate (N.length - vs.length) Slot.un)[j]? = some (Slot.lent l)) → (∃ l, as[j]? = some (Slot.own l) ∨ as[j]? = some (Slot.lent l)) ∧ j < vs.length := fun {j} ⟨l', e4⟩ => by
    rcases e4 with e4 | e4
    · rcases old e4 with ⟨h, e⟩ | e
      · exact ⟨⟨l', .inl e⟩, h⟩
      · cases e
    · rcases old e4 with ⟨h, e⟩ | e
      · exact ⟨⟨l', .inr e⟩, h⟩
      · cases e
  refine ⟨?_, fun i s e => ?_, fun i j a e1 e2 e3 e4 => ?_, R.tr, R.tb⟩
  · unfold L2.start
    rw [List.length_append, List.length_append, List.length_replicate, List.length_replicate, List.length_map, la]
  · have hi := (List.getElem?_eq_some_iff.mp e).1
    rw [List.length_append, List.length_replicate] at hi
    rcases old e with ⟨h, e⟩ | rfl
    · obtain ⟨ov, e1, r⟩ := R.sl i s e
      exact ⟨ov, by rw [start_get h]; exact e1, r⟩
    · have hs : i < (start N vs).length := by
        unfold L2.start
        rw [List.length_append, List.length_replicate, List.length_map]
        omega
      exact ⟨_, List.getElem?_eq_getElem hs, .un⟩
  · obtain ⟨q1, h1⟩ := kd e1
    obtain ⟨q2, h2⟩ := kd e4
    rw [start_get h1] at e2
    rw [start_get h2] at e3
    exact R.inj i j a q1 e2 e3 q2
theorem start_own {N : List Str} {vs : List V} {as : List Slot} (R : ER K F H (vs.map some) as) : (∀ x, OwnA (vs.map some) as x → OwnA (start N vs) (as ++ List.replicate (N.length - vs.length) .un) x) ∧ (∀ x, OwnA (start N vs) (as ++ List.replicate (N.length - vs.length) .un) x → OwnA (vs.map some) as x) ∧
    ∀ x, LenA (start N vs) (as ++ List.replicate (N.length - vs.length) .un) x → LenA (vs.map some) as x := by
  have la : as.length = vs.length := by rw [R.len, List.length_map]
  have old : ∀ {i : Nat} {s : Slot}, (as ++ List.replicate (N.length - vs.length) Slot.un)[i]? = some s → (i < vs.length ∧ as[i]? = some s) ∨ s = .un := fun {i s} e => by
    by_cases h : i < as.length
    · rw [List.getElem?_append_left h] at e
      exact .inl ⟨by omega, e⟩
    · rw [List.getElem?_append_right (by omega), List.getElem?_replicate] at e
      split at e
      · cases e; exact .inr rfl
      · cases e
  refine ⟨fun x ⟨i, l, e1, e2⟩ => ⟨i, l, ?_, ?_⟩, fun x ⟨i, l, e1, e2⟩ => ?_, fun x ⟨i, l, e1, e2⟩ => ?_⟩
  · rw [List.getElem?_append_left (List.getElem?_eq_some_iff.mp e1).1]; exact e1
  · rw [start_get (by have := (List.getElem?_eq_some_iff.mp e1).1; omega)]; exact e2
  · rcases old e1 with ⟨h, e⟩ | e
    · rw [start_get h] at e2
      exact ⟨i, l, e, e2⟩
    · cases e
  · rcases old e1 with ⟨h, e⟩ | e
    · rw [start_get h] at e2
      exact ⟨i, l, e, e2⟩
    · cases e
theorem outs_get {asg : List Nat} : ∀ {n k i : Nat} {env : Nv} {s : Slot}, (outs asg k n env)[i]? = some s → i < n ∧ (s = .un ∨ (asg.contains (k + i) = false ∧ s = sAt env (k + i)))
  | 0, k, i, env, s, h => by simp [outs] at h
  | n + 1, k, 0, env, s, h => by
    simp only [outs, List.getElem?_cons_zero, Option.some.injEq] at h
    refine ⟨by omega, ?_⟩
    split at h
    · exact .inl h.symm
    · rename_i hc
      exact .inr ⟨by simpa using hc, h.symm⟩
  | n + 1, k, i + 1, env, s, h => by
    simp only [outs, List.getElem?_cons_succ] at h
    obtain ⟨h1, h2⟩ := outs_get h
    refine ⟨by omega, ?_⟩
    rw [show k + (i + 1) = k + 1 + i from by omega]
    exact h2
theorem outs_len {asg : List Nat} : ∀ {n k : Nat} {env : Nv}, (outs asg k n env).length = n
  | 0, _, _ => rfl
  | n + 1, k, env => by rw [outs, List.length_cons, outs_len]
theorem outs_ok {N : List Str} {vs : List V} {is asg : List Nat} (hl : vs.length ≤ N.length) (ag : Agr is (start N vs) σ') (R : ER K F' H' σ' env') (ha : ∀ i, i < vs.length → i ∈ is → asg.contains i = true) :
    ER K F' H' (vs.map some) (outs asg 0 vs.length env') ∧ (∀ x, OwnA (vs.map some) (outs asg 0 vs.length env') x → ∃ i, i < vs.length ∧ (∃ l, env'[i]? = some (.own l)) ∧ σ'[i]? = some (some (.ref x))) ∧
    ∀ x, LenA (vs.map some) (outs asg 0 vs.length env') x → ∃ i, i < vs.length ∧ (∃ l, env'[i]? = some (.lent l)) ∧ σ'[i]? = some (some (.ref x)) := by
  have at_ : ∀ {i : Nat} {s : Slot}, (outs asg 0 vs.length env')[i]? = some s → s ≠ .un → env'[i]? = some s ∧ (vs.map some)[i]? = σ'[i]? := fun {i s} e hn => by
    obtain ⟨h1, h2⟩ := outs_get e
    rw [Nat.zero_add] at h2
    rcases h2 with h2 | ⟨h2, h3⟩
    · exact absurd h2 hn
    · refine ⟨sAt_get h3.symm hn, ?_⟩
      rw [ag.at_ i (fun q => by rw [ha i h1 q] at h2; cases h2), start_get h1]
  have kd : ∀ {j : Nat}, (∃ l, (outs asg 0 vs.length env')[j]? = some (Slot.own l) ∨ (outs asg 0 vs.length env')[j]? = some (Slot.lent l)) → (∃ l, env'[j]? = some (Slot.own l) ∨ env'[j]? = some (Slot.lent l)) ∧ (vs.map some)[j]? = σ'[j]? := fun {j} ⟨l', e4⟩ => by
    rcases e4 with e4 | e4
    · obtain ⟨q1, q2⟩ := at_ e4 (fun z => nomatch z)
      exact ⟨⟨l', .inl q1⟩, q2⟩
    · obtain ⟨q1, q2⟩ := at_ e4 (fun z => nomatch z)
      exact ⟨⟨l', .inr q1⟩, q2⟩
  refine ⟨⟨by rw [outs_len, List.length_map], fun i s e => ?_, fun i j a e1 e2 e3 e4 => ?_, R.tr, R.tb⟩, fun x ⟨i, l, e1, e2⟩ => ?_, fun x ⟨i, l, e1, e2⟩ => ?_⟩
  · by_cases hs : s = .un
    · subst hs
      have hi := (outs_get e).1
      exact ⟨_, List.getElem?_eq_getElem (by rw [List.length_map]; exact hi), .un⟩
    · obtain ⟨q1, q2⟩ := at_ e hs
      obtain ⟨ov, e1, r⟩ := R.sl i s q1
      exact ⟨ov, q2.trans e1, r⟩
  · obtain ⟨q1, w1⟩ := kd e1
    obtain ⟨q2, w2⟩ := kd e4
    exact R.inj i j a q1 (w1.symm.trans e2) (w2.symm.trans e3) q2
  · obtain ⟨q1, q2⟩ := at_ e1 (fun z => nomatch z)
    exact ⟨i, (outs_get e1).1, ⟨l, q1⟩, q2.symm.trans e2⟩
  · obtain ⟨q1, q2⟩ := at_ e1 (fun z => nomatch z)
    exact ⟨i, (outs_get e1).1, ⟨l, q1⟩, q2.symm.trans e2⟩
end
theorem fn_body {name qual : Str} {bodyS : List Stmt} {scope : Scope} {f : Addr} {N ps : List Str} {k : Nat} {body : SL} {cdv : Value} {A : Around} {outer : List Env} {s : Shared} {H : Hp} {vs : List V} {Q : VK} {E : XK} (S : FnScope N ps scope) (hb : chSL N scope body bodyS = true)
    (hq : gdSL (FnGs P w K mg base k) (fun b => mg b = none) (GlGm K mg) body) (g : GdS (cxOf CX0 P w K mg base N qual scope f cdv A outer s H E).nox N scope k) (h : spOf K (mkFn name ps N.length (k + 1) body) vs H Q E) :
    ∃ t, PSs (cxOf CX0 P w K mg base N qual scope f cdv A outer s H E) bodyS t ∧ t { nx := fun _ H' => Q .non H', rt := Q } (start N vs) H := by
  have hpl : ps.length ≤ N.length := by have := congrArg List.length S.pre; rw [List.length_take] at this; omega
  let X : Cx := (cxOf CX0 P w K mg base N qual scope f cdv A outer s H E).nox
  obtain ⟨t, pt, ht⟩ := main_sl body X scope bodyS g hq hb
  refine ⟨t, PSs.nox pt, ?_⟩
  obtain ⟨F, as, r, bs, h1, R, h2, q⟩ := h
  have h1 : as.length = ps.length := h1
  have hv : vs.length = ps.length := by
    have := R.len
    rw [List.length_map] at this
    omega
  have h2 : runB ps.length N.length ((asgsL body).filter (· < ps.length)) body as = some (r, bs) := h2
  unfold runB at h2
  rw [if_pos h1, ← hv] at h2
  cases e : evSL body (as ++ List.replicate (N.length - vs.length) Slot.un) with
  | none => rw [e] at h2; cases h2
  | some p =>
    obtain ⟨fl, env'⟩ := p
    rw [e] at h2
    have hasg : ∀ i, i < vs.length → i ∈ asgsL body → ((asgsL body).filter (· < vs.length)).contains i = true := fun i hi hm => List.contains_iff_mem.mpr (List.mem_filter.mpr ⟨hm, by simpa using hi⟩)
    generalize (asgsL body).filter (· < vs.length) = asg at *
    have R0 : ER K F H (start N vs) (as ++ List.replicate (N.length - vs.length) Slot.un) := start_er (by omega) R
    obtain ⟨so1, so2, so3⟩ := start_own (N := N) R
    refine ht F H _ _ fl env' R0 e _ fun σ' F' H' R' s' ag => ?_
    have R' : ER K F' H' σ' env' := R'
    -- how the caller sees the end
    have ends : ∀ (F2 : Addr → Prop) (env2 : Nv), ER K F2 H' σ' env2 → Stp (wd (start N vs) (as ++ List.replicate (N.length - vs.length) Slot.un) F H) (wd σ' env2 F2 H') → ER K F2 H' (vs.map some) (outs asg 0 vs.length env2) ∧ Stp (wd (vs.map some) as F H) (wd (vs.map some) (outs asg 0 vs.length env2) F2 H') := fun F2 env2 R2 s2 => by
      obtain ⟨o1, o2, o3⟩ := outs_ok (by omega) ag R2 hasg
      refine ⟨o1, fun x o h n nt => s2.k x o h (fun z => n (so2 x z)) nt, s2.t, fun x z => ?_, fun x z => ?_, s2.f, fun x z => ?_⟩
      · obtain ⟨i, _, ⟨l, e1⟩, e2⟩ := o2 x z
        rcases s2.o x ⟨i, l, e1, e2⟩ with z | z
        · exact .inl (so2 x z)
        · exact .inr z
      · obtain ⟨i, _, ⟨l, e1⟩, e2⟩ := o3 x z
        rcases s2.l x ⟨i, l, e1, e2⟩ with z | z | z
        · exact .inl (so3 x z)
        · exact .inr (.inl (so2 x z))
        · exact .inr (.inr z)
      · rcases s2.g x z with z | z | z
        · exact .inl z
        · exact .inr (.inl (so2 x z))
        · exact .inr (.inr z)
    have frs : ∀ {l : List D} {v : V}, RR K F' H' σ' env' (.fr l) v → RR K F' H' (vs.map some) (outs asg 0 vs.length env') (.fr l) v := fun {l v} h => by
      obtain ⟨o1, o2, o3⟩ := outs_ok (by omega) ag R' hasg
      obtain ⟨a, xs, rfl, h1, z, r1, n1, n2, n3⟩ := h
      refine ⟨a, xs, rfl, h1, z, r1, n1, fun w => ?_, fun w => ?_⟩
      · obtain ⟨i, _, ⟨l, e1⟩, e2⟩ := o2 a w
        exact n2 ⟨i, l, e1, e2⟩
      · obtain ⟨i, _, ⟨l, e1⟩, e2⟩ := o3 a w
        exact n3 ⟨i, l, e1, e2⟩
    have pr : ∀ {l : List D} {v : V}, Prov (wd (start N vs) (as ++ List.replicate (N.length - vs.length) Slot.un) F H) (.fr l) v → Prov (wd (vs.map some) as F H) (.fr l) v := fun {l v} h a e => by
      rcases h a e with z | z
      · exact .inl (so2 a z)
      · exact .inr z
    cases fl with
    | nx =>
      cases h2
      obtain ⟨c1, c2⟩ := ends F' env' R' s'
      exact q .non F' H' c1 c2 Rp.non trivial
    | rt r0 =>
      intro v rr pp
      have rr : RR K F' H' σ' env' r0 v := rr
      obtain ⟨c1, c2⟩ := ends F' env' R' s'
      cases r0 with
      | val d =>
        cases h2
        exact q v F' H' c1 c2 rr trivial
      | fr l =>
        cases h2
        exact q v F' H' c1 c2 (frs rr) (pr pp)
      | pl i =>
        have h2 : (if i < vs.length then (keep env' (.pl i)).map fun (d, env) => (Res.val d, outs asg 0 vs.length env) else match sAt env' i with
          | .val d => some (.val d, outs asg 0 vs.length env')
          | .own l => some (.fr l, outs asg 0 vs.length env')
          | _ => none) = some (r, bs) := h2
        split at h2
        · simp only [Option.map_eq_some_iff, Prod.exists] at h2
          obtain ⟨d, env2, e1, e2⟩ := h2
          cases e2
          obtain ⟨F2, R2, s2, r2, _⟩ := keep_ok R' rr s' trivial e1
          obtain ⟨c1, c2⟩ := ends F2 env2 R2 s2
          exact q v F2 H' c1 c2 r2 trivial
        · rename_i hi
          have rr : σ'[i]? = some (some v) := rr
          cases hs : sAt env' i with
          | un => rw [hs] at h2; cases h2
          | lent l => rw [hs] at h2; cases h2
          | val d =>
            rw [hs] at h2
            cases h2
            obtain ⟨v', e1, r1⟩ := R'.val hs
            rw [rr] at e1; cases e1
            exact q v F' H' c1 c2 r1 trivial
          | own l =>
            rw [hs] at h2
            cases h2
            obtain ⟨a, xs, e1, h1, z, r1, nf, oa⟩ := R'.own hs
            rw [rr] at e1; cases e1
            obtain ⟨o1, o2, o3⟩ := outs_ok (by omega) ag R' hasg
            have eg := sAt_get hs (fun z => nomatch z)
            refine q _ F' H' c1 c2 ⟨a, xs, rfl, h1, z, r1, nf, fun w => ?_, fun w => ?_⟩ fun b eb => ?_
            · obtain ⟨j, hj, ⟨l2, e1⟩, e2⟩ := o2 a w
              exact hi (by rw [R'.inj i j a ⟨l, .inl eg⟩ rr e2 ⟨l2, .inl e1⟩]; exact hj)
            · obtain ⟨j, hj, ⟨l2, e1⟩, e2⟩ := o3 a w
              exact hi (by rw [R'.inj i j a ⟨l, .inl eg⟩ rr e2 ⟨l2, .inr e1⟩]; exact hj)
            · cases eb
              rcases s'.o a oa with z | z
              · exact .inl (so2 a z)
              · exact .inr z
theorem fn_ok {name x qual : Str} {params : Arguments} {bodyS : List Stmt} {scope : Scope} {f : Addr} {fd : FuncData} {N ps : List Str} {k n : Nat} {body : SL} (Fu : FunD K x qual params bodyS scope [] [] f fd) (S : FnScope N ps scope) (hN : N.length = n) (hk : (N.contains kpNm || lamNs.contains N) = false) (hb : chSL N scope body bodyS = true)
    (hq : gdSL (FnGs P w K mg base k) (fun b => mg b = none) (GlGm K mg) body) : FnOk P w K mg base CX0 (k + 1) f fd ps (spOf K (mkFn name ps n (k + 1) body)) := by
  subst hN
  refine Fu.ok S (fun vs H Q E h => ?_) (fun cdv A outer s H vs Q E hr h => fn_body S hb hq ⟨⟨rfl, S.nd, rfl, rfl, hr, (fun z => by rw [z] at hk; cases hk), (fun z => by rw [z, Bool.or_true] at hk; cases hk)⟩, S.kind, fun _ => rfl, rfl⟩ h)
  obtain ⟨F, as, r, bs, h1, R, _⟩ := h
  have := R.len
  rw [List.length_map] at this
  rw [← this]
  exact h1
theorem fn_okL {name x qual : Str} {params : Arguments} {bodyS : List Stmt} {scope : Scope} {fd : FuncData} {N ps : List Str} {k n : Nat} {body : SL} {p : Str × Option Str} (Fu : FunD K x qual params bodyS scope [] [] (He.fAd K p) fd) (S : FnScope N ps scope) (hN : N.length = n) (hk : N.contains kpNm = false) (hb : chSL N scope body bodyS = true)
    (hTB : ∀ d ∈ lamDs, LamX.TabB base mg (He.cT K d.1).1 (He.cT K d.1).2) (hm : (p, (qual ++ ".<locals>.") ++ "<lambda>") ∈ lamDs) (hu : ∀ d ∈ lamDs, (He.cT K d.1).2 = (He.cT K p).2 → d.2 = (qual ++ ".<locals>.") ++ "<lambda>")
    (hq : gdSL (FnGs P w K mg base (k + 1)) (fun b => mg b = none) (GlGm K mg) body) : FnOk P w K mg base CX0 (k + 1 + 1) (He.fAd K p) fd ps (spOf K (mkFn name ps n (k + 1 + 1) body)) := by
  subst hN
  obtain ⟨oc, od, dV, kV, doc, pm, an, cdv, ct, osl, e0, lk, hcd, _, _⟩ := Fu.ex
  subst e0
  obtain ⟨c, rfl⟩ := He.codeIn_ref hcd
  have ec : He.codeOf K p = c := He.codeOf_eq lk rfl
  refine fn_of lk hcd S (fun vs H Q E h => ?_) (fun A outer s H vs Q E hr h => fn_body S hb hq ⟨⟨rfl, S.nd, rfl, rfl, hr, (fun z => by rw [hk] at z; cases z), fun _ => ⟨⟨c, (He.cT K p).2, rfl, ?_, List.mem_map.mpr ⟨_, hm, rfl⟩, fun d hd he => ?_⟩, by omega⟩⟩, S.kind, fun _ => rfl, rfl⟩ h)
  · obtain ⟨F, as, r, bs, h1, R, _⟩ := h
    have := R.len
    rw [List.length_map] at this
    rw [← this]
    exact h1
  · have := hTB _ hm
    rw [← ec]
    exact this
  · obtain ⟨d', h1, rfl⟩ := List.mem_map.mp hd
    exact hu d' h1 he
theorem fn_up {f : Fn} {j : Nat} (h : FnGs P w K mg base j f) : FnGs P w K mg base (j + 1) (lvUp f) := by
  obtain ⟨⟨a, fd, h1, h2, h3, h4⟩, h5⟩ := h
  exact ⟨⟨a, fd, h1, h2, h3, h4.mono (Nat.le_succ _)⟩, Nat.succ_le_succ h5⟩
theorem no_tabs {H : Hp} (h : lamDs = []) : LamX.Tabs (tabsK K) H := fun p hp => by
  unfold tabsK at hp
  rw [h] at hp
  cases hp
theorem tabs_nil {H : Hp} (h : ∀ d ∈ lamDs, H (He.cT K d.1).2 = some (.tbl #[])) : LamX.Tabs (tabsK K) H := fun p hp => by
  obtain ⟨d, h1, rfl⟩ := List.mem_map.mp hp
  exact LamX.TabS.nil (h d h1)
theorem fn_good {name : Str} {ps : List Str} {f : Addr} {fd : FuncData} {j k n : Nat} {body : SL} (hg : mg name = some (.ref f)) (hk : PySem.W.keepIn K (.ref f) = true) (hb : Binds K fd ps []) (h : FnOk P w K mg base CX0 (k + 1) f fd ps (spOf K (mkFn name ps n (k + 1) body))) (hj : k + 1 ≤ j) :
    FnGs P w K mg base j (mkFn name ps n (k + 1) body) := ⟨⟨f, fd, hg, hk, hb, h⟩, hj⟩
theorem law_sp {f : Fn} {n : Nat} (hp : f.ps.length = 1) (hn : n ≤ 1000) (h : ∀ ns : List Int, ns.length ≤ n → ∃ bs, f.run [.val (.list (ns.map .int))] = some (.val (.bool true), bs)) (H : Hp) (a : Addr) (ns : List Int) (hl : ns.length ≤ n) (hT : LamX.Tabs (tabsK K) H) (hS : SqL K H a (ns.map V.int)) :
    spOf K f [.ref a] H (fun v _ => v = .bl true) fun _ _ _ => False := by
  obtain ⟨bs, e⟩ := h ns hl
  have hz : (ns.map V.int).length ≤ sizeLine := by rw [List.length_map, sizeLine_eq]; omega
  have main : ∀ (F : Addr → Prop), (∀ b, F b → ∃ o, H b = some o) → Rp K F H (.ref a) (.list (ns.map .int)) → spOf K f [.ref a] H (fun v _ => v = .bl true) fun _ _ _ => False := fun F ht r => by
    refine ⟨F, _, _, bs, by rw [hp]; rfl, ⟨rfl, fun i s e => ?_, fun i j b e1 e2 e3 e4 => ?_, ht, hT⟩, e, fun v F' H' R' s' r' p' => ?_⟩
    · cases i with
      | zero =>
        simp only [List.getElem?_cons_zero, Option.some.injEq] at e
        subst e
        exact ⟨_, rfl, .val r⟩
      | succ i => simp at e
    · cases i with
      | zero =>
        obtain ⟨l, e1⟩ := e1
        rcases e1 with e1 | e1 <;> simp at e1
      | succ i =>
        obtain ⟨l, e1⟩ := e1
        rcases e1 with e1 | e1 <;> simp at e1
    · exact (Bw.rp r').bl
  rcases hS with (h1 | ⟨o, h1⟩) | h1
  · refine main (fun b => b = a) (fun b e => ⟨.lst (ns.map V.int), by rw [e]; exact h1⟩) (.lst rfl h1 hz (RpL.of_ints ns))
  · exact main (fun _ => False) (fun _ z => z.elim) (.cst (.inl ⟨o, h1⟩) hz (RpL.of_ints ns))
  · obtain ⟨ob, its, m, q⟩ := h1
    exact main (fun _ => False) (fun _ z => z.elim) (.cst (.inr ⟨ob, its, m, q⟩) hz (RpL.of_ints ns))
end
theorem walk_ofL {l : PySem.W.OpenLaw} {n k : Nat} {q : Program} {loose : List Str} {XP : (Str → Option Value) → Heap → Prop} {YP : World → Heap → Prop} {d : DefRec} {x : Str}
    (hn : l.most = some n) (hn2 : n ≤ sizeLine) (hdf : d.params.defaults = []) (hr : Room k callerA)
    (F : ∀ (w : World) (mg : Str → Option Value) (fa : Addr) (h : Heap), YP w h → h.Ns mainGlobals mg → mg d.name = some (.ref fa) →
      ∃ (K : PySem.W.Frag) (fd : FuncData) (sp : Sp), K.In h ∧ (∀ (s : Shared) (u : Value), BindsTo s fd ⟨[u], []⟩ [(x, u)]) ∧ (∀ d ∈ lamDs, h.get? (He.cT K d.1).2 = some { cls := .none, data := .fields #[] } ∧ K.lookup (He.cT K d.1).2 = none ∧ PySem.W.codeHdIn K (He.cT K d.1).1 (He.cT K d.1).2 = true) ∧
        (∀ (H : Hp) (a : Addr) (ns : List Int), ns.length ≤ n → LamX.Tabs (tabsK K) H → SqL K H a (ns.map V.int) → sp [.ref a] H (fun v _ => v = .bl true) fun _ _ _ => False) ∧
        ∀ base : Heap, K.In base → base.Ns mainGlobals mg → (∀ d ∈ lamDs, LamX.TabB base mg (He.cT K d.1).1 (He.cT K d.1).2) → FnOk l.prog w K mg base CX0 k fa fd [x] sp) :
    PySem.W.WalkO q loose XP YP l.row.toRowW d [] (fun f vs => PySem.call f vs) := by
  refine Att.attach_callB hn hdf fun w s₀ s₁ mg mb fa o pm cd doc a vs ns G Y ho hd hcd hmg hobj hints hlen hbits hg => ?_
  obtain ⟨K, fd, sp, KX, hb, hT, hsp, hF⟩ := F w mg fa _ Y G.T.g hmg
  have hcs : ∀ {p : Addr × Addr}, p ∈ lamDs.map (fun d => He.cT K d.1) → ∃ d ∈ lamDs, He.cT K d.1 = p := fun h => by
    obtain ⟨d, h1, h2⟩ := List.mem_map.mp h
    exact ⟨d, h1, h2⟩
  refine LamX.law_callTs (cs := lamDs.map fun d => He.cT K d.1) KX G.T.g G.T.b G.T.builtins G.T.nolimit hg (fun p hp => ?_) (fun p hp => ?_) (fun p hp => ?_) G.T.bmain hobj hints (Nat.le_trans hlen hn2) hr (fun base h1 h2 h3 => hF base h1 h2 fun d hd => h3 _ (List.mem_map.mpr ⟨d, hd, rfl⟩)) hb (fun H hH hS => hsp H a ns hlen (tabs_nil fun d hd => hH _ (List.mem_map.mpr ⟨d, hd, rfl⟩)) hS) fun H e s' z => z
  · obtain ⟨d, h1, rfl⟩ := hcs hp
    exact (hT d h1).1
  · obtain ⟨d, h1, rfl⟩ := hcs hp
    exact (hT d h1).2.1
  · obtain ⟨d, h1, rfl⟩ := hcs hp
    exact PySem.W.codeHd_of_K KX (hT d h1).2.2
end Ev

/-! A def that is run where nothing is being shown (the law itself): there the text of a list, a tuple is known. -/
namespace Ev
open PySem PySem.Spec PyProof.Rows L2
section
variable {P : Program} {w : World} {K : PySem.W.Frag} {mg mb : Str → Option Value} {base : Heap}
structure FnOkG (P : Program) (w : World) (K : PySem.W.Frag) (mg : Str → Option Value) (base : Heap) (k : Nat) (f : Addr) (fd : FuncData) (ps : List Str) (sp : Sp) : Prop where
  go : ∀ (A : Around) (outer : List Env) (s : Shared) (H : Hp) (args : Args) (us : List Value) (vs : List V) (Q : VK) (E : XK), Room k A → A.guards = some [] → Env0 P w K mg base A outer s H → BindsTo s fd args (ps.zip us) → Vals vs us → sp vs H Q E →
    codeAny (model P w) A (.call (.ref f) args) (CR CX0 outer P w H s Q E) s
theorem deeper_gu {A : Around} {e : Env} (h : A.guards = some []) : (A.deeper e).guards = some [] := by
  first
    | exact h
    | (unfold Around.deeper; exact h)
theorem fn_okG {name x qual : Str} {params : Arguments} {bodyS : List Stmt} {scope : Scope} {f : Addr} {fd : FuncData} {N ps : List Str} {k n : Nat} {body : SL} (Fu : FunD K x qual params bodyS scope [] [] f fd) (S : FnScope N ps scope) (hN : N.length = n) (hlN : lamNs.contains N = false) (hb : chSL N scope body bodyS = true)
    (hq : gdSL (FnGs P w K mg base k) (fun b => mg b = none) (GlGm K mg) body) : FnOkG P w K mg base (k + 1) f fd ps (spOf K (mkFn name ps n (k + 1) body)) := by
  subst hN
  obtain ⟨oc, od, dV, kV, doc, pm, an, cdv, ct, osl, e0, lk, hcd, _, _⟩ := Fu.ex
  subst e0
  refine ⟨fun A outer s H args us vs Q E hr hgu en hbd hv hsp => ?_⟩
  have grown : ∀ b o, base.get? b = some o → s.heap.get? b = some o := fun b o e => (en.bs b o e).1
  have inK : K.In s.heap := en.mod.kin.keeps grown
  have hlen : vs.length = ps.length := by
    obtain ⟨F, as, r, bs, h1, R, _⟩ := hsp
    have := R.len
    rw [List.length_map] at this
    rw [← this]
    exact h1
  refine codeAny_call_function hr.depth (inK _ _ lk) rfl S.co S.gen rfl (PySem.W.codeRec_of inK hcd) (hbd _ _ _ _ (wpAny_newFunctionEnv_cells S.kind (fun ⟨y, u⟩ hy => ?_) fun en' he s1 hin => ?_))
  · rcases S.par y (List.of_mem_zip hy).1 with q | q
    · exact .inl q
    · exact .inr ⟨q, PySem.W.cellsFrom_some _ _ _ (.inl q)⟩
  · subst he
    refine ⟨(en.mod.nolimit.keeps grown).keeps hin.toInCall.keep, codeAny_func ?_⟩
    have g : GdS (cxOf CX0 P w K mg base N qual scope f cdv A outer s H E).nox N scope k := ⟨⟨rfl, S.nd, rfl, rfl, hr.deeper _, fun _ => deeper_gu hgu, fun z => by rw [hlN] at z; cases z⟩, S.kind, fun _ => rfl, rfl⟩
    obtain ⟨t, pt, ht⟩ := fn_body S hb hq g hsp
    refine wpAny_mono (pt.run [] s1 (start N vs) H _ (inv_start S hr.hd en hlen hv hin) ht) (fun fl s2 h2 => ?_) fun _ _ h2 => h2
    have out : ∀ {σ' : L2.St} {H' : Hp} {v : V} {u : Value}, L2.Inv (cxOf CX0 P w K mg base N qual scope f cdv A outer s H E) [] σ' H' s2 → RelV v u → Q v H' → CE outer P w H s Q u s2 :=
      fun J rv q => ⟨_, _, J.os, J.bare, J.base, J.hok, rv, q⟩
    match fl, h2 with
    | .ret u, ⟨v, σ', H', J, rv, q⟩ => exact out J rv q
    | .next, ⟨σ', H', J, q⟩ => exact out (v := V.non) (u := Value.none) J rfl q
    | .brk, ⟨_, _, _, q⟩ => exact q.elim
    | .cont, ⟨_, _, _, q⟩ => exact q.elim
theorem callG {k : Nat} {fa a : Addr} {fd : FuncData} {x : Str} {sp : Sp} {s : Shared} {vs : List Value} {ns : List Int}
    (inK : K.In s.heap) (hM : s.heap.Ns mainGlobals mg) (hB : s.heap.Ns builtinsNs mb) (hbb : ∀ x : Str, x ≠ "__name__" → mb x = bootBuiltins x) (hL : s.heap.NoLimit) (hG : s.gens = #[])
    (ha : s.heap.get? a = some { cls := .type "list", data := .seq vs.toArray }) (hi : IntsAre vs ns) (hz : ns.length ≤ sizeLine) (hr : Room k callerA)
    (F : ∀ base : Heap, K.In base → base.Ns mainGlobals mg → FnOkG P w K mg base k fa fd [x] sp) (hbd : ∀ (s : Shared) (u : Value), BindsTo s fd ⟨[u], []⟩ [(x, u)])
    (hsp : ∀ H : Hp, Only H → SqL K H a (ns.map V.int) → sp [.ref a] H (fun v _ => v = .bl true) fun _ _ _ => False) :
    codeAny (model P w) callerA (.call (.ref fa) ⟨[.ref a], []⟩) (fun r s' => r = .ok (.ret (.bool true)) ∧ OldK s.heap s'.heap ∧ s'.os = s.os ∧ AllBare s'.gens) s := by
  have rv := vals_ints hi
  have hvl := hi.length
  obtain ⟨ob, hob⟩ : ∃ ob : Obj, ob = { cls := .type "list", data := .seq vs.toArray } := ⟨_, rfl⟩
  rw [← hob] at ha
  -- what is tracked: the script, unless it is an object of the module
  obtain ⟨H, hH⟩ : ∃ H : Hp, ∀ b, H b = if b = a ∧ K.lookup a = none then some (.frz ob (.lst (ns.map V.int))) else none := ⟨_, fun _ => rfl⟩
  have hin : ∀ b u, H b = some u → b = a ∧ K.lookup a = none ∧ u = .frz ob (.lst (ns.map V.int)) := fun b u e => by
    rw [hH] at e
    split at e
    · rename_i q
      exact ⟨q.1, q.2, (Option.some.inj e).symm⟩
    · cases e
  have hO : Only H := fun b => by
    cases e : H b with
    | none => exact .inl rfl
    | some u => exact .inr ⟨ob, _, by rw [(hin b u e).2.2]⟩
  have hout : ∀ {b : Addr} {o : Obj}, s.heap.get? b = some o → (b = a → K.lookup a = none → False) → (hidT s.heap H).get? b = some o := fun {b o} e n => hidT_get e (by
    cases q : H b with
    | none => rfl
    | some u => exact (n (hin b u q).1 (hin b u q).2.1).elim)
  have notA : ∀ {b : Addr} {o : Obj} {es : Array DictEntry} {ep : Nat}, s.heap.get? b = some o → o.data = .dict es ep → b = a → False := fun {b o es ep} e d z => by
    rw [z, ha] at e
    have e2 : ob = o := Option.some.inj e
    rw [← e2, hob] at d
    cases (show Data.seq vs.toArray _ = Data.dict es ep from d)
  have hns : ∀ {b : Addr} {m : Str → Option Value}, s.heap.Ns b m → (hidT s.heap H).Ns b m := fun {b m} ⟨o, es, ep, e, d, r⟩ => ⟨o, es, ep, hout e (fun z _ => notA e d z), d, r⟩
  have hK : K.In (hidT s.heap H) := fun b o e => hout (inK b o e) fun z q => by
    subst z
    rw [q] at e
    cases e
  have hok : HOk P w H s.heap := fun b u e => by
    obtain ⟨rfl, _, rfl⟩ := hin b u e
    exact ⟨ha, by rw [List.length_map]; exact hz, vs, _, rv, by rw [ha, hob]⟩
  have hS : SqL K H a (ns.map V.int) := by
    cases q : K.lookup a with
    | none => exact .inl (.inr ⟨ob, by rw [hH, if_pos ⟨rfl, q⟩]⟩)
    | some o =>
      have e := inK a o q
      rw [ha] at e
      cases e
      exact .inr ⟨ob, vs.toArray, _, q, by rw [hob], by rw [hob], by rw [hob], by rw [List.size_toArray, hvl]; exact hz, by simpa using rv⟩
  have en : Env0 P w K mg (hidT s.heap H) callerA [] s H :=
    ⟨rfl, ⟨hK, hns hM, ⟨mb, hns hB, hbb⟩, let ⟨mc, h1, h2⟩ := hL; ⟨mc, hns h1, h2⟩⟩, fun _ _ e => of_hidT e, Nat.le_of_eq (hidT_size _ _), trivial, fun b hb => absurd (show b ∈ ([] : List Addr) from hb) (by simp), hok, .of_eq hG⟩
  refine codeAny_mono ((F _ hK (hns hM)).go callerA [] s H ⟨[.ref a], []⟩ [.ref a] [.ref a] _ _ hr rfl en (hbd s (.ref a)) (.cons rfl .nil) (hsp H hO hS)) fun r s' h => ?_
  match r, h with
  | .error e, h => exact (show False from h).elim
  | .ok .next, h => exact (show False from h).elim
  | .ok .brk, h => exact (show False from h).elim
  | .ok .cont, h => exact (show False from h).elim
  | .ok (.ret u), h =>
    obtain ⟨v, H', os, bare, un, hok', rv', q⟩ := h
    have q' : v = .bl true := q
    subst q'
    have hu : u = Value.bool true := rv'
    refine ⟨by rw [hu], OldK.of_keep fun b o e => ?_, os, bare⟩
    cases hb : H b with
    | none => exact un.keep b o e hb (fun z => absurd (show b ∈ ([] : List Addr) from z) (by simp)) (by simp)
    | some u =>
      obtain ⟨rfl, _, rfl⟩ := hin b u hb
      have e1 := (hok b _ hb).1
      have e2 := (hok' b _ (un.frzs b ob _ hb)).1
      rw [e] at e1
      cases e1
      exact e2
end
theorem walkG {l : PySem.W.OpenLaw} {n k : Nat} {q : Program} {loose : List Str} {XP : (Str → Option Value) → Heap → Prop} {YP : World → Heap → Prop} {d : DefRec} {x : Str}
    (hn : l.most = some n) (hz : n ≤ sizeLine) (hdf : d.params.defaults = []) (hr : Room k callerA)
    (F : ∀ (w : World) (mg : Str → Option Value) (fa : Addr) (h : Heap), YP w h → h.Ns mainGlobals mg → mg d.name = some (.ref fa) →
      ∃ (K : PySem.W.Frag) (fd : FuncData) (sp : Sp), K.In h ∧ (∀ (s : Shared) (u : Value), BindsTo s fd ⟨[u], []⟩ [(x, u)]) ∧
        (∀ (H : Hp) (a : Addr) (ns : List Int), ns.length ≤ n → Only H → SqL K H a (ns.map V.int) → sp [.ref a] H (fun v _ => v = .bl true) fun _ _ _ => False) ∧
        ∀ base : Heap, K.In base → base.Ns mainGlobals mg → FnOkG l.prog w K mg base k fa fd [x] sp) :
    PySem.W.WalkO q loose XP YP l.row.toRowW d [] (fun f vs => PySem.call f vs) :=
  Att.attach_call hn hdf fun w _ s₁ mg _ fa _ _ _ _ a vs ns G Y _ _ _ hmg hobj hints hlen hg =>
    let ⟨_, _, _, inK, hbd, hsp, hF⟩ := F w mg fa _ Y G.T.g hmg
    callG inK G.T.g G.T.b G.T.builtins G.T.nolimit hg hobj hints (Nat.le_trans hlen hz) hr hF hbd fun H hO hS => hsp H a ns hlen hO hS
section
variable {P : Program} {w : World} {K : PySem.W.Frag} {mg mb : Str → Option Value}
theorem callGL {k : Nat} {fa a : Addr} {cs : List Addr} {fd : FuncData} {x : Str} {sp : Sp} {s : Shared} {vs : List Value} {ns : List Int} {ct : Addr → Addr}
    (inK : K.In s.heap) (hM : s.heap.Ns mainGlobals mg) (hB : s.heap.Ns builtinsNs mb) (hbb : ∀ x : Str, x ≠ "__name__" → mb x = bootBuiltins x) (hL : s.heap.NoLimit) (hG : s.gens = #[])
    (tE : ∀ p ∈ cs, s.heap.get? p = some { cls := .none, data := .fields #[] }) (tK : ∀ p ∈ cs, K.lookup p = none) (tC : ∀ p ∈ cs, PySem.W.CodeHd s.heap (ct p) p)
    (bMod : ∃ (bm : Addr) (ob : Obj), mg "__builtins__" = some (.ref bm) ∧ bm ≠ builtinsNs ∧ s.heap.get? bm = some ob ∧ ob.cls = .type "module" ∧ ob.dict = some builtinsNs ∧ ob.data = .plain)
    (ha : s.heap.get? a = some { cls := .type "list", data := .seq vs.toArray }) (hi : IntsAre vs ns) (hz : ns.length ≤ sizeLine) (hr : Room k callerA)
    (F : ∀ base : Heap, K.In base → base.Ns mainGlobals mg → (∀ p ∈ cs, LamX.TabB base mg (ct p) p) → FnOkG P w K mg base k fa fd [x] sp) (hbd : ∀ (s : Shared) (u : Value), BindsTo s fd ⟨[u], []⟩ [(x, u)])
    (hsp : ∀ H : Hp, (∀ p ∈ cs, H p = some (.tbl #[])) → SqL K H a (ns.map V.int) → sp [.ref a] H (fun v _ => v = .bl true) fun _ _ _ => False) :
    codeAny (model P w) callerA (.call (.ref fa) ⟨[.ref a], []⟩) (fun r s' => r = .ok (.ret (.bool true)) ∧ OldK s.heap s'.heap ∧ s'.os = s.os ∧ AllBare s'.gens) s := by
  have rv := vals_ints hi
  have hvl := hi.length
  obtain ⟨ob, hob⟩ : ∃ ob : Obj, ob = { cls := .type "list", data := .seq vs.toArray } := ⟨_, rfl⟩
  rw [← hob] at ha
  have an : a ∉ cs := fun z => by
    have q := tE a z
    rw [ha] at q
    have q := congrArg Obj.data (Option.some.inj q)
    rw [hob] at q
    cases (show Data.seq vs.toArray _ = Data.fields #[] from q)
  obtain ⟨H, hH⟩ : ∃ H : Hp, ∀ b, H b = if b = a ∧ K.lookup a = none then some (.frz ob (.lst (ns.map V.int))) else if b ∈ cs then some (.tbl #[]) else none := ⟨_, fun _ => rfl⟩
  have hin : ∀ b u, H b = some u → (b = a ∧ K.lookup a = none ∧ u = .frz ob (.lst (ns.map V.int))) ∨ (b ∈ cs ∧ u = .tbl #[]) := fun b u e => by
    rw [hH] at e
    split at e
    · rename_i q
      exact .inl ⟨q.1, q.2, (Option.some.inj e).symm⟩
    · split at e
      · rename_i q
        exact .inr ⟨q, (Option.some.inj e).symm⟩
      · cases e
  have hT : ∀ p ∈ cs, H p = some (.tbl #[]) := fun p hp => by
    rw [hH, if_neg (fun z => an (by rw [← z.1]; exact hp)), if_pos hp]
  have hout : ∀ {b : Addr} {o : Obj}, s.heap.get? b = some o → (b = a → K.lookup a = none → False) → b ∉ cs → (hidT s.heap H).get? b = some o := fun {b o} e n m => hidT_get e (by
    cases q : H b with
    | none => rfl
    | some u =>
      rcases hin b u q with z | z
      · exact (n z.1 z.2.1).elim
      · exact (m z.1).elim)
  have notA : ∀ {b : Addr} {o : Obj}, s.heap.get? b = some o → (∀ n, o.data ≠ .seq vs.toArray n) → b = a → False := fun {b o} e d z => by
    rw [z, ha] at e
    have e2 : ob = o := Option.some.inj e
    rw [← e2, hob] at d
    exact d _ rfl
  have notT : ∀ {b : Addr} {o : Obj}, s.heap.get? b = some o → o.data ≠ .fields #[] → b ∉ cs := fun {b o} e d z => by
    rw [tE b z] at e
    cases e
    exact d rfl
  have hns : ∀ {b : Addr} {m : Str → Option Value}, s.heap.Ns b m → (hidT s.heap H).Ns b m := fun {b m} ⟨o, es, ep, e, d, r⟩ => ⟨o, es, ep, hout e (fun z _ => notA e (fun n y => by rw [d] at y; cases y) z) (notT e fun y => by rw [d] at y; cases y), d, r⟩
  have hK : K.In (hidT s.heap H) := fun b o e => hout (inK b o e) (fun z q => by
    subst z
    rw [q] at e
    cases e) fun z => by rw [tK b z] at e; cases e
  have hok : HOk P w H s.heap := fun b u e => by
    rcases hin b u e with ⟨rfl, _, rfl⟩ | ⟨z, rfl⟩
    · exact ⟨ha, by rw [List.length_map]; exact hz, vs, _, rv, by rw [ha, hob]⟩
    · exact tE b z
  have hS : SqL K H a (ns.map V.int) := by
    cases q : K.lookup a with
    | none => exact .inl (.inr ⟨ob, by rw [hH, if_pos ⟨rfl, q⟩]⟩)
    | some o =>
      have e := inK a o q
      rw [ha] at e
      cases e
      exact .inr ⟨ob, vs.toArray, _, q, by rw [hob], by rw [hob], by rw [hob], by rw [List.size_toArray, hvl]; exact hz, by simpa using rv⟩
  have TB : ∀ p ∈ cs, LamX.TabB (hidT s.heap H) mg (ct p) p := fun p hp => by
    have hTp := tE p hp
    refine ⟨?_, ?_, fun z => ?_⟩
    · obtain ⟨o, us, file, tf, flags, tg, inF, text, tt, e1, r1, r2, r3, r4, r5, r6, r7, r8, hne⟩ := tC p hp
      refine ⟨o, us, file, tf, flags, tg, inF, text, tt, hout e1 (fun z _ => notA e1 (fun n y => by rw [r2] at y; cases y) z) (notT e1 fun y => ?_), r1, r2, r3, r4, r5, r6, r7, r8, hne⟩
      rw [r2] at y
      cases y
      simp at r3
    · obtain ⟨bm, om, b1, b2, b3, b4, b5, b6⟩ := bMod
      have nG : bm ≠ mainGlobals := fun q => by
        obtain ⟨o, es, ep, e, hd, _⟩ := hM
        rw [q, e] at b3
        cases b3
        rw [hd] at b6
        cases b6
      have nP : bm ≠ p := fun q => by
        rw [q, hTp] at b3
        cases b3
        cases b6
      exact ⟨bm, om, b1, b2, nG, nP, hout b3 (fun z _ => notA b3 (fun n y => by rw [b6] at y; cases y) z) (notT b3 fun y => by rw [b6] at y; cases y), b4, b5, b6⟩
    · obtain ⟨o, es, ep, e, hd, _⟩ := hM
      rw [z, hTp] at e
      cases e
      cases hd
  have en : Env0 P w K mg (hidT s.heap H) callerA [] s H :=
    ⟨rfl, ⟨hK, hns hM, ⟨mb, hns hB, hbb⟩, let ⟨mc, h1, h2⟩ := hL; ⟨mc, hns h1, h2⟩⟩, fun _ _ e => of_hidT e, Nat.le_of_eq (hidT_size _ _), trivial, fun b hb => absurd (show b ∈ ([] : List Addr) from hb) (by simp), hok, .of_eq hG⟩
  refine codeAny_mono ((F _ hK (hns hM) TB).go callerA [] s H ⟨[.ref a], []⟩ [.ref a] [.ref a] _ _ hr rfl en (hbd s (.ref a)) (.cons rfl .nil) (hsp H hT hS)) fun r s' h => ?_
  match r, h with
  | .error e, h => exact (show False from h).elim
  | .ok .next, h => exact (show False from h).elim
  | .ok .brk, h => exact (show False from h).elim
  | .ok .cont, h => exact (show False from h).elim
  | .ok (.ret u), h =>
    obtain ⟨v, H', os, bare, un, hok', rv', q⟩ := h
    have q' : v = .bl true := q
    subst q'
    have hu : u = Value.bool true := rv'
    have key : ∀ b o, b ∉ cs → s.heap.get? b = some o → s'.heap.get? b = some o := fun b o nb e => by
      cases hb : H b with
      | none => exact un.keep b o e hb (fun z => absurd (show b ∈ ([] : List Addr) from z) (by simp)) (by simp)
      | some u =>
        rcases hin b u hb with ⟨rfl, _, rfl⟩ | ⟨z, _⟩
        · have e1 := (hok b _ hb).1
          have e2 := (hok' b _ (un.frzs b ob _ hb)).1
          rw [e] at e1
          cases e1
          exact e2
        · exact absurd z nb
    have gr : ∀ p ∈ cs, ∃ more : Array Value, s'.heap.get? p = some { cls := .none, data := .fields more } := fun p hp => by
      obtain ⟨more, z⟩ := un.tbls p #[] (hT p hp)
      exact ⟨_, hok' p _ z⟩
    refine ⟨by rw [hu], ⟨fun b o e => ?_, fun b o e => ?_⟩, os, bare⟩
    · by_cases hb : b ∈ cs
      · obtain ⟨more, hm⟩ := gr b hb
        rw [tE b hb] at e
        cases e
        exact .inr (.inl ⟨((tC b hb).tab (tE b hb)).isCodeTable, rfl, #[], more, rfl, by rw [Array.empty_append]; exact hm⟩)
      · exact .inl (key b o hb e)
    · by_cases hb : b ∈ cs
      · obtain ⟨more, hm⟩ := gr b hb
        exact ⟨_, hm⟩
      · exact ⟨o, key b o hb e⟩
end
theorem walkGL {l : PySem.W.OpenLaw} {n k : Nat} {q : Program} {loose : List Str} {XP : (Str → Option Value) → Heap → Prop} {YP : World → Heap → Prop} {d : DefRec} {x : Str}
    (hn : l.most = some n) (hz : n ≤ sizeLine) (hdf : d.params.defaults = []) (hr : Room k callerA) (hl1 : lamDs.length ≤ 1)
    (F : ∀ (w : World) (mg : Str → Option Value) (fa : Addr) (h : Heap), YP w h → h.Ns mainGlobals mg → mg d.name = some (.ref fa) →
      ∃ (K : PySem.W.Frag) (fd : FuncData) (sp : Sp), K.In h ∧ (∀ (s : Shared) (u : Value), BindsTo s fd ⟨[u], []⟩ [(x, u)]) ∧ (∀ d ∈ lamDs, h.get? (He.cT K d.1).2 = some { cls := .none, data := .fields #[] } ∧ K.lookup (He.cT K d.1).2 = none ∧ PySem.W.codeHdIn K (He.cT K d.1).1 (He.cT K d.1).2 = true) ∧
        (∀ (H : Hp) (a : Addr) (ns : List Int), ns.length ≤ n → LamX.Tabs (tabsK K) H → SqL K H a (ns.map V.int) → sp [.ref a] H (fun v _ => v = .bl true) fun _ _ _ => False) ∧
        ∀ base : Heap, K.In base → base.Ns mainGlobals mg → (∀ d ∈ lamDs, LamX.TabB base mg (He.cT K d.1).1 (He.cT K d.1).2) → FnOkG l.prog w K mg base k fa fd [x] sp) :
    PySem.W.WalkO q loose XP YP l.row.toRowW d [] (fun f vs => PySem.call f vs) := by
  refine Att.attach_callB hn hdf fun w s₀ s₁ mg mb fa o pm cd doc a vs ns G Y ho hd hcd hmg hobj hints hlen hbits hg => ?_
  obtain ⟨K, fd, sp, inK, hb, hT, hsp, hF⟩ := F w mg fa _ Y G.T.g hmg
  have one : ∀ d ∈ lamDs, ∀ e ∈ lamDs, d = e := fun d hd e he => by
    match h : lamDs, hd, he with
    | [], hd, _ => cases hd
    | [z], hd, he => rw [List.mem_singleton.mp hd, List.mem_singleton.mp he]
    | _ :: _ :: _, _, _ => rw [h] at hl1; simp at hl1
  obtain ⟨ct, hct⟩ : ∃ ct : Addr → Addr, ∀ d ∈ lamDs, ct (He.cT K d.1).2 = (He.cT K d.1).1 := by
    match h : lamDs with
    | [] => exact ⟨fun _ => 0, fun d hd => by cases hd⟩
    | z :: r => exact ⟨fun _ => (He.cT K z.1).1, fun d hd => by rw [one d (by rw [h]; exact hd) z (by rw [h]; exact List.mem_cons_self)]⟩
  have hcs : ∀ {p : Addr}, p ∈ lamDs.map (fun d => (He.cT K d.1).2) → ∃ d ∈ lamDs, (He.cT K d.1).2 = p := fun h => by
    obtain ⟨d, h1, h2⟩ := List.mem_map.mp h
    exact ⟨d, h1, h2⟩
  refine callGL (cs := lamDs.map fun d => (He.cT K d.1).2) (ct := ct) inK G.T.g G.T.b G.T.builtins G.T.nolimit hg (fun p hp => ?_) (fun p hp => ?_) (fun p hp => ?_) G.T.bmain hobj hints (Nat.le_trans hlen hz) hr
    (fun base h1 h2 h3 => hF base h1 h2 fun d hd => by rw [← hct d hd]; exact h3 _ (List.mem_map.mpr ⟨d, hd, rfl⟩)) hb (fun H hH hS => hsp H a ns hlen (tabs_nil fun d hd => hH _ (List.mem_map.mpr ⟨d, hd, rfl⟩)) hS)
  · obtain ⟨d, h1, rfl⟩ := hcs hp
    exact (hT d h1).1
  · obtain ⟨d, h1, rfl⟩ := hcs hp
    exact (hT d h1).2.1
  · obtain ⟨d, h1, rfl⟩ := hcs hp
    rw [hct d h1]
    exact PySem.W.codeHd_of_K inK (hT d h1).2.2
end Ev

/-! What a run of the evaluator comes to, rule by rule (all rules rewrite at the root, from the left). -/
namespace Ev
open PySem L2

structure Tg {γ : Sort _} (x : γ) : Type where

def Iv (p : Prop) (_ : Tg p := ⟨⟩) : Prop := p
def w1 {α : Type} (o : Option α) (P : α → Prop) (_ : Tg P := ⟨⟩) : Prop := ∃ a, o = some a ∧ P a
def w2 {α β : Type} (o : Option (α × β)) (P : α → β → Prop) (_ : Tg P := ⟨⟩) : Prop := ∃ a b, o = some (a, b) ∧ P a b
section
variable {α β γ δ : Type}
@[simp] theorem w1_some {a : α} {P : α → Prop} {t_ : Tg P} : w1 (some a) P t_ ↔ P a := ⟨fun ⟨_, e, h⟩ => (by cases e; exact h), fun h => ⟨a, rfl, h⟩⟩
@[simp] theorem w1_none {P : α → Prop} {t_ : Tg P} : w1 none P t_ ↔ False := by
  constructor
  · rintro ⟨_, e, _⟩; cases e
  · exact False.elim
@[simp] theorem w1_if {c : Prop} {_ : Decidable c} {x : α} {P : α → Prop} {t_ : Tg P} : w1 (if c then some x else none) P t_ ↔ c ∧ P x := by
  by_cases h : c
  · rw [if_pos h, w1_some]; exact ⟨fun q => ⟨h, q⟩, fun q => q.2⟩
  · rw [if_neg h, w1_none]; exact ⟨False.elim, fun q => h q.1⟩
@[simp] theorem w1_ifn {c : Prop} {_ : Decidable c} {x : α} {P : α → Prop} {t_ : Tg P} : w1 (if c then none else some x) P t_ ↔ ¬ c ∧ P x := by
  by_cases h : c
  · rw [if_pos h, w1_none]; exact ⟨False.elim, fun q => q.1 h⟩
  · rw [if_neg h, w1_some]; exact ⟨fun q => ⟨h, q⟩, fun q => q.2⟩
theorem w1_ite {c : Prop} [Decidable c] {x y : Option α} {P : α → Prop} {t_ : Tg P} : w1 (if c then x else y) P t_ ↔ (c → w1 x P) ∧ (¬ c → w1 y P) := by
  by_cases h : c
  · rw [if_pos h]; exact ⟨fun q => ⟨fun _ => q, fun n => absurd h n⟩, fun q => q.1 h⟩
  · rw [if_neg h]; exact ⟨fun q => ⟨fun n => absurd n h, fun _ => q⟩, fun q => q.2 h⟩
@[simp] theorem w1_map {o : Option α} {f : α → β} {P : β → Prop} {t_ : Tg P} : w1 (o.map f) P t_ ↔ w1 o fun a => P (f a) := by
  cases o with
  | none => rw [Option.map_none, w1_none, w1_none]
  | some a => rw [Option.map_some, w1_some, w1_some]
theorem w1_bind {o : Option α} {f : α → Option β} {P : β → Prop} {t_ : Tg P} : w1 (o.bind f) P t_ ↔ w1 o fun a => w1 (f a) P := by
  cases o with
  | none => rw [Option.bind_none, w1_none, w1_none]
  | some a => rw [Option.bind_some, w1_some]
@[simp] theorem w2_some {a : α} {b : β} {P : α → β → Prop} {t_ : Tg P} : w2 (some (a, b)) P t_ ↔ P a b := by
  constructor
  · rintro ⟨_, _, e, h⟩; cases e; exact h
  · exact fun h => ⟨a, b, rfl, h⟩
@[simp] theorem w2_none {P : α → β → Prop} {t_ : Tg P} : w2 none P t_ ↔ False := by
  constructor
  · rintro ⟨_, _, e, _⟩; cases e
  · exact False.elim
theorem w2_b1 {o : Option α} {f : α → Option (γ × δ)} {P : γ → δ → Prop} {t_ : Tg P} : w2 (o >>= f) P t_ ↔ w1 o fun a => w2 (f a) P := by
  cases o with
  | none => rw [w1_none]; exact w2_none
  | some a => rw [w1_some]; exact Iff.rfl
theorem w2_b2 {o : Option (α × β)} {f : α × β → Option (γ × δ)} {P : γ → δ → Prop} {t_ : Tg P} : w2 (o >>= f) P t_ ↔ w2 o fun a b => w2 (f (a, b)) P := by
  cases o with
  | none => exact ⟨fun h => (w2_none.mp h).elim, fun h => (w2_none.mp h).elim⟩
  | some p => obtain ⟨a, b⟩ := p; rw [w2_some]; exact Iff.rfl
theorem w2_if {c : Prop} {_ : Decidable c} {a : α} {b : β} {P : α → β → Prop} {t_ : Tg P} : w2 (if c then some (a, b) else none) P t_ ↔ c ∧ P a b := by
  by_cases h : c
  · rw [if_pos h, w2_some]; exact ⟨fun q => ⟨h, q⟩, fun q => q.2⟩
  · rw [if_neg h, w2_none]; exact ⟨False.elim, fun q => h q.1⟩
theorem w2_ite {c : Prop} [Decidable c] {x y : Option (α × β)} {P : α → β → Prop} {t_ : Tg P} : w2 (if c then x else y) P t_ ↔ (c → w2 x P) ∧ (¬ c → w2 y P) := by
  by_cases h : c
  · rw [if_pos h]; exact ⟨fun q => ⟨fun _ => q, fun n => absurd h n⟩, fun q => q.1 h⟩
  · rw [if_neg h]; exact ⟨fun q => ⟨fun n => absurd n h, fun _ => q⟩, fun q => q.2 h⟩
theorem w2_iff {c : Prop} [Decidable c] {x : Option (α × β)} {P : α → β → Prop} {t_ : Tg P} : w2 (if c then x else none) P t_ ↔ c ∧ w2 x P := by
  by_cases h : c
  · rw [if_pos h]; exact ⟨fun q => ⟨h, q⟩, fun q => q.2⟩
  · rw [if_neg h, w2_none]; exact ⟨False.elim, fun q => h q.1⟩
theorem w2_map {o : Option (α × β)} {f : α × β → γ × δ} {P : γ → δ → Prop} {t_ : Tg P} : w2 (o.map f) P t_ ↔ w2 o fun a b => P (f (a, b)).1 (f (a, b)).2 := by
  cases o with
  | none => exact ⟨fun h => (w2_none.mp h).elim, fun h => (w2_none.mp h).elim⟩
  | some p => obtain ⟨a, b⟩ := p; rw [w2_some]; exact w2_some
theorem w1_congr {o : Option α} {P Q : α → Prop} (h : ∀ a, P a ↔ Q a) : w1 o P ↔ w1 o Q := exists_congr fun a => and_congr Iff.rfl (h a)
theorem w2_congr {o : Option (α × β)} {P Q : α → β → Prop} (h : ∀ a b, P a b ↔ Q a b) : w2 o P ↔ w2 o Q := exists_congr fun a => exists_congr fun b => and_congr Iff.rfl (h a b)
theorem w1_mono {o : Option α} {P Q : α → Prop} (h : w1 o P) (k : ∀ a, P a → Q a) : w1 o Q := let ⟨a, e, p⟩ := h; ⟨a, e, k a p⟩
theorem w2_mono {o : Option (α × β)} {P Q : α → β → Prop} (h : w2 o P) (k : ∀ a b, P a b → Q a b) : w2 o Q := let ⟨a, b, e, p⟩ := h; ⟨a, b, e, k a b p⟩
theorem w2_eq {o : Option (α × β)} {a : α} {b : β} : w2 o (fun x y => x = a ∧ y = b) ↔ o = some (a, b) :=
  ⟨fun ⟨_, _, e, h1, h2⟩ => by rw [e, h1, h2], fun e => ⟨a, b, e, rfl, rfl⟩⟩
theorem w2_of {o : Option (α × β)} {a : α} {b : β} {P : α → β → Prop} (e : o = some (a, b)) {t_ : Tg P} : w2 o P t_ ↔ P a b := by rw [e]; exact w2_some
theorem w1_of {o : Option α} {a : α} {P : α → Prop} (e : o = some a) {t_ : Tg P} : w1 o P t_ ↔ P a := by rw [e]; exact w1_some
end

/-! ### slots, by their places -/
variable {P : Res → Nv → Prop} {env xs : Nv} {x : Slot} {i n : Nat}
@[simp] theorem sAt_0 : sAt (x :: xs) 0 = x := rfl
@[simp] theorem sAt_s : sAt (x :: xs) (n + 1) = sAt xs n := rfl
def wv (s : Slot) (i : Nat) (P : Res → Prop) (_ : Tg P := ⟨⟩) : Prop := match s with
  | .un => False
  | .val d => P (.val d)
  | _ => P (.pl i)
section
variable {Q : Res → Prop} {R : D → Prop} {L : List D → Prop} {d : D} {l : List D} {k : Nat}
theorem wv_s {t_ : Tg Q} : wv (sAt (x :: xs) (n + 1)) k Q t_ ↔ wv (sAt xs n) k Q := Iff.rfl
theorem wv_0 {t_ : Tg Q} : wv (sAt (x :: xs) 0) k Q t_ ↔ wv x k Q := Iff.rfl
@[simp] theorem wv_val {t_ : Tg Q} : wv (.val d) k Q t_ ↔ Q (.val d) := Iff.rfl
@[simp] theorem wv_own {t_ : Tg Q} : wv (.own l) k Q t_ ↔ Q (.pl k) := Iff.rfl
@[simp] theorem wv_lent {t_ : Tg Q} : wv (.lent l) k Q t_ ↔ Q (.pl k) := Iff.rfl
def wg (s : Slot) (R : D → Prop) (_ : Tg R := ⟨⟩) : Prop := w1 s.get R
theorem wg_s {t_ : Tg R} : wg (sAt (x :: xs) (n + 1)) R t_ ↔ wg (sAt xs n) R := Iff.rfl
theorem wg_0 {t_ : Tg R} : wg (sAt (x :: xs) 0) R t_ ↔ wg x R := Iff.rfl
@[simp] theorem wg_val {t_ : Tg R} : wg (.val d) R t_ ↔ R d := w1_some
@[simp] theorem wg_own {t_ : Tg R} : wg (.own l) R t_ ↔ R (.list l) := w1_some
@[simp] theorem wg_lent {t_ : Tg R} : wg (.lent l) R t_ ↔ R (.list l) := w1_some
def wo (s : Slot) (L : List D → Prop) (_ : Tg L := ⟨⟩) : Prop := ∃ l, s = .own l ∧ L l
theorem wo_s {t_ : Tg L} : wo (sAt (x :: xs) (n + 1)) L t_ ↔ wo (sAt xs n) L := Iff.rfl
theorem wo_0 {t_ : Tg L} : wo (sAt (x :: xs) 0) L t_ ↔ wo x L := Iff.rfl
@[simp] theorem wo_own {t_ : Tg L} : wo (.own l) L t_ ↔ L l := ⟨fun ⟨_, e, h⟩ => by cases e; exact h, fun h => ⟨l, rfl, h⟩⟩
theorem wo_T : wo (.own l) (fun _ => True) ↔ True := wo_own
def ws (env : Nv) (i : Nat) (s : Slot) (E : Nv → Prop) (_ : Tg E := ⟨⟩) : Prop := E (env.set i s)
variable {E : Nv → Prop} {s : Slot}
@[simp] theorem ws_s {t_ : Tg E} : ws (x :: xs) (n + 1) s E t_ ↔ ws xs n s fun e => E (x :: e) := Iff.rfl
@[simp] theorem ws_0 {t_ : Tg E} : ws (x :: xs) 0 s E t_ ↔ E (s :: xs) := Iff.rfl
end

/-! ### values read -/
section
variable {R : D → Prop} {d : D} {l : List D}
@[simp] theorem rd_val {t_ : Tg R} : w1 (rd env (.val d)) R t_ ↔ R d := w1_some
@[simp] theorem rd_fr {t_ : Tg R} : w1 (rd env (.fr l)) R t_ ↔ R (.list l) := w1_some
@[simp] theorem rd_pl {t_ : Tg R} : w1 (rd env (.pl i)) R t_ ↔ wg (sAt env i) R := Iff.rfl
@[simp] theorem rdS_int {a : Int} {t_ : Tg R} : w1 (rdS env (.val (.int a))) R t_ ↔ R (.int a) := w1_some
@[simp] theorem rdS_tup {l : List D} {t_ : Tg R} : w1 (rdS env (.val (.tuple l))) R t_ ↔ R (.tuple l) := w1_some
@[simp] theorem rdS_str {l : Str} {t_ : Tg R} : w1 (rdS env (.val (.str l))) R t_ ↔ R (.str l) := w1_some
@[simp] theorem rdS_fr {t_ : Tg R} : w1 (rdS env (.fr l)) R t_ ↔ R (.list l) := w1_some
@[simp] theorem rdS_pl {t_ : Tg R} : w1 (rdS env (.pl i)) R t_ ↔ wo (sAt env i) fun l => R (.list l) := by
  have : rdS env (.pl i) = (match sAt env i with | .own l => some (.list l) | _ => none) := rfl
  unfold wo
  rw [this]
  cases sAt env i <;> simp [w1]
@[simp] theorem rdB_add {r : Res} {t_ : Tg R} : w1 (rdB .Add env r) R t_ ↔ w1 (rd env r) R := Iff.rfl
@[simp] theorem rdB_sub {r : Res} {t_ : Tg R} : w1 (rdB .Sub env r) R t_ ↔ w1 (rd env r) R := Iff.rfl
@[simp] theorem rdB_mul {r : Res} {t_ : Tg R} : w1 (rdB .Mult env r) R t_ ↔ w1 (rdS env r) R := Iff.rfl
@[simp] theorem rdB_div {r : Res} {t_ : Tg R} : w1 (rdB .FloorDiv env r) R t_ ↔ w1 (rd env r) R := Iff.rfl
@[simp] theorem rdB_mod {r : Res} {t_ : Tg R} : w1 (rdB .Mod env r) R t_ ↔ w1 (rd env r) R := Iff.rfl
@[simp] theorem rdB_pow {r : Res} {t_ : Tg R} : w1 (rdB .Pow env r) R t_ ↔ w1 (rd env r) R := Iff.rfl
@[simp] theorem rdB_shl {r : Res} {t_ : Tg R} : w1 (rdB .LShift env r) R t_ ↔ w1 (rd env r) R := Iff.rfl
@[simp] theorem rdB_shr {r : Res} {t_ : Tg R} : w1 (rdB .RShift env r) R t_ ↔ w1 (rd env r) R := Iff.rfl
@[simp] theorem rdB_and {r : Res} {t_ : Tg R} : w1 (rdB .BitAnd env r) R t_ ↔ w1 (rd env r) R := Iff.rfl
@[simp] theorem rdB_or {r : Res} {t_ : Tg R} : w1 (rdB .BitOr env r) R t_ ↔ w1 (rd env r) R := Iff.rfl
@[simp] theorem rdB_xor {r : Res} {t_ : Tg R} : w1 (rdB .BitXor env r) R t_ ↔ w1 (rd env r) R := Iff.rfl
def wkp (env : Nv) (r : Res) (K : D → Nv → Prop) (_ : Tg K := ⟨⟩) : Prop := w2 (keep env r) K
variable {K : D → Nv → Prop}
@[simp] theorem kp_val {t_ : Tg K} : wkp env (.val d) K t_ ↔ K d env := w2_some
@[simp] theorem kp_fr {t_ : Tg K} : wkp env (.fr l) K t_ ↔ K (.list l) env := w2_some
def wq (s : Slot) (i : Nat) (env : Nv) (K : D → Nv → Prop) (_ : Tg K := ⟨⟩) : Prop := match s with
  | .own l => K (.list l) (env.set i (.val (.list l)))
  | .val d => K d env
  | _ => False
theorem wq_s {e : Nv} {j : Nat} {t_ : Tg K} : wq (sAt (x :: xs) (n + 1)) j e K t_ ↔ wq (sAt xs n) j e K := Iff.rfl
theorem wq_0 {e : Nv} {j : Nat} {t_ : Tg K} : wq (sAt (x :: xs) 0) j e K t_ ↔ wq x j e K := Iff.rfl
@[simp] theorem wq_own {e : Nv} {j : Nat} {t_ : Tg K} : wq (.own l) j e K t_ ↔ ws e j (.val (.list l)) fun e => K (.list l) e := Iff.rfl
@[simp] theorem wq_val {e : Nv} {j : Nat} {t_ : Tg K} : wq (.val d) j e K t_ ↔ K d e := Iff.rfl
@[simp] theorem kp_pl {t_ : Tg K} : wkp env (.pl i) K t_ ↔ wq (sAt env i) i env K := by
  unfold wkp
  have : keep env (.pl i) = keepS i env (sAt env i) := rfl
  rw [this]
  cases sAt env i with
  | un => exact w2_none
  | lent l => exact w2_none
  | own l => exact w2_some
  | val d => exact w2_some
end

/-! ### results of a kind -/
def wint (r : Res) (I : Int → Prop) (_ : Tg I := ⟨⟩) : Prop := ∃ i, r = .val (.int i) ∧ I i
def wbl (r : Res) (B : Bool → Prop) (_ : Tg B := ⟨⟩) : Prop := ∃ b, r = .val (.bool b) ∧ B b
def wtu (r : Res) (T : List D → Prop) (_ : Tg T := ⟨⟩) : Prop := ∃ l, r = .val (.tuple l) ∧ T l
section
variable {I : Int → Prop} {B : Bool → Prop} {T : List D → Prop} {a : Int} {b : Bool} {l : List D} {α β : Type} {Z : α → β → Prop}
@[simp] theorem wint_v {t_ : Tg I} : wint (.val (.int a)) I t_ ↔ I a := ⟨fun ⟨_, e, h⟩ => by cases e; exact h, fun h => ⟨a, rfl, h⟩⟩
@[simp] theorem wbl_v {t_ : Tg B} : wbl (.val (.bool b)) B t_ ↔ B b := ⟨fun ⟨_, e, h⟩ => by cases e; exact h, fun h => ⟨b, rfl, h⟩⟩
@[simp] theorem wtu_v {t_ : Tg T} : wtu (.val (.tuple l)) T t_ ↔ T l := ⟨fun ⟨_, e, h⟩ => by cases e; exact h, fun h => ⟨l, rfl, h⟩⟩
theorem m_int {r : Res} {f : Int → Option (α × β)} {t_ : Tg Z} : w2 (match r with | .val (.int i) => f i | _ => none) Z t_ ↔ wint r fun i => w2 (f i) Z := by
  constructor
  · intro h
    split at h
    · exact ⟨_, rfl, h⟩
    · exact (w2_none.mp h).elim
  · rintro ⟨i, rfl, h⟩
    exact h
theorem m_bl {r : Res} {f : Bool → Option (α × β)} {t_ : Tg Z} : w2 (match r with | .val (.bool i) => f i | _ => none) Z t_ ↔ wbl r fun i => w2 (f i) Z := by
  constructor
  · intro h
    split at h
    · exact ⟨_, rfl, h⟩
    · exact (w2_none.mp h).elim
  · rintro ⟨i, rfl, h⟩
    exact h
theorem m_tu {r : Res} {f : List D → Option (α × β)} {t_ : Tg Z} : w2 (match r with | .val (.tuple i) => f i | _ => none) Z t_ ↔ wtu r fun i => w2 (f i) Z := by
  constructor
  · intro h
    split at h
    · exact ⟨_, rfl, h⟩
    · exact (w2_none.mp h).elim
  · rintro ⟨i, rfl, h⟩
    exact h
theorem m_own {s : Slot} {f : List D → Option (α × β)} {t_ : Tg Z} : w2 (match s with | .own l => f l | _ => none) Z t_ ↔ wo s fun l => w2 (f l) Z := by
  constructor
  · intro h
    split at h
    · exact ⟨_, rfl, h⟩
    · exact (w2_none.mp h).elim
  · rintro ⟨i, rfl, h⟩
    exact h
theorem wint_congr {r : Res} {I J : Int → Prop} (h : ∀ i, I i ↔ J i) : wint r I ↔ wint r J := exists_congr fun i => and_congr Iff.rfl (h i)
theorem wbl_congr {r : Res} {I J : Bool → Prop} (h : ∀ i, I i ↔ J i) : wbl r I ↔ wbl r J := exists_congr fun i => and_congr Iff.rfl (h i)
theorem wtu_congr {r : Res} {I J : List D → Prop} (h : ∀ i, I i ↔ J i) : wtu r I ↔ wtu r J := exists_congr fun i => and_congr Iff.rfl (h i)
theorem wo_congr {s : Slot} {I J : List D → Prop} (h : ∀ i, I i ↔ J i) : wo s I ↔ wo s J := exists_congr fun i => and_congr Iff.rfl (h i)
@[simp] theorem if_dec {p A C : Prop} {_ : Decidable p} : (if decide p = true then A else C) ↔ (p → A) ∧ (¬ p → C) := by
  by_cases h : p <;> simp [h]
@[simp] theorem if_t {A C : Prop} : (if true = true then A else C) ↔ A := by simp
@[simp] theorem if_f {A C : Prop} : (if false = true then A else C) ↔ C := by simp
@[simp] theorem if_not {A C : Prop} : (if (!b) = true then A else C) ↔ if b = true then C else A := by cases b <;> simp
theorem if_b {A C : Prop} : (if b = true then A else C) ↔ (b = true → A) ∧ (b = false → C) := by cases b <;> simp
end

/-! ### expressions -/
section
variable {a b c e : E} {es : EL}
@[simp] theorem r_var {t_ : Tg P} : w2 (ev (.var i) env) P t_ ↔ wv (sAt env i) i fun r => P r env := by
  rw [ev]
  unfold wv
  cases sAt env i with
  | un => exact w2_none
  | val d => exact w2_some
  | own l => exact w2_some
  | lent l => exact w2_some
@[simp] theorem r_cst {d : D} {t_ : Tg P} : w2 (ev (.cst d) env) P t_ ↔ P (.val d) env := by rw [ev]; exact w2_some
@[simp] theorem r_glo {y : Str} {d : D} {t_ : Tg P} : w2 (ev (.glo y d) env) P t_ ↔ P (.val d) env := by rw [ev]; exact w2_some
@[simp] theorem r_tup {t_ : Tg P} : w2 (ev (.tup es) env) P t_ ↔ w2 (evK es env) fun ds e => P (.val (.tuple ds)) e := by
  rw [ev]; exact w2_b2.trans (w2_congr fun _ _ => w2_some)
@[simp] theorem r_lst {t_ : Tg P} : w2 (ev (.lst es) env) P t_ ↔ w2 (evK es env) fun ds e => P (.fr ds) e := by
  rw [ev]; exact w2_b2.trans (w2_congr fun _ _ => w2_some)
@[simp] theorem r_bin {op : Operator} {t_ : Tg P} : w2 (ev (.bin op a b) env) P t_ ↔ w2 (ev a env) fun ra e1 => w2 (ev b e1) fun rb e2 => w1 (rdB op e2 ra) fun da => w1 (rd e2 rb) fun db => w1 (opv op da db) fun r => P r e2 := by
  rw [ev]; exact w2_b2.trans (w2_congr fun _ _ => w2_b2.trans (w2_congr fun _ _ => w2_b1.trans (w1_congr fun _ => w2_b1.trans (w1_congr fun _ => w2_b1.trans (w1_congr fun _ => w2_some)))))
@[simp] theorem r_neg {t_ : Tg P} : w2 (ev (.neg a) env) P t_ ↔ w2 (ev a env) fun ra e1 => wint ra fun i => P (.val (.int (-i))) e1 := by
  rw [ev]; exact w2_b2.trans (w2_congr fun _ _ => m_int.trans (wint_congr fun _ => w2_some))
@[simp] theorem r_cmp {op : CmpOp} {t_ : Tg P} : w2 (ev (.cmp op a b) env) P t_ ↔ w2 (ev a env) fun ra e1 => w2 (ev b e1) fun rb e2 => w1 (rd e2 ra) fun da => w1 (rd e2 rb) fun db => w1 (cmpv op da db) fun r => P (.val (.bool r)) e2 := by
  rw [ev]; exact w2_b2.trans (w2_congr fun _ _ => w2_b2.trans (w2_congr fun _ _ => w2_b1.trans (w1_congr fun _ => w2_b1.trans (w1_congr fun _ => w2_b1.trans (w1_congr fun _ => w2_some)))))
@[simp] theorem r_chn {o1 o2 : CmpOp} {t_ : Tg P} : w2 (ev (.chn o1 o2 a b c) env) P t_ ↔ w2 (ev a env) fun ra e1 => w2 (ev b e1) fun rb e2 => wint ra fun i => wint rb fun j => w1 (cmpv o1 (.int i) (.int j)) fun t => if t = true then w2 (ev c e2) fun rc e3 => wint rc fun k => w1 (cmpv o2 (.int j) (.int k)) fun u => P (.val (.bool u)) e3 else P (.val (.bool false)) e2 := by
  rw [ev]
  have m2 : ∀ {ra rb : Res} {f : Int → Int → Option (Res × Nv)}, w2 (match ra, rb with | .val (.int i), .val (.int j) => f i j | _, _ => none) P ↔ wint ra fun i => wint rb fun j => w2 (f i j) P := by
    intro ra rb f
    constructor
    · intro h
      split at h
      · exact ⟨_, rfl, _, rfl, h⟩
      · exact (w2_none.mp h).elim
    · rintro ⟨i, rfl, j, rfl, h⟩
      exact h
  refine w2_b2.trans (w2_congr fun _ _ => w2_b2.trans (w2_congr fun _ _ => m2.trans (wint_congr fun _ => wint_congr fun _ => w2_b1.trans (w1_congr fun t => ?_))))
  cases t with
  | false => rw [if_neg Bool.false_ne_true, if_neg Bool.false_ne_true]; exact w2_some
  | true =>
    rw [if_pos rfl, if_pos rfl]
    exact w2_b2.trans (w2_congr fun _ _ => m_int.trans (wint_congr fun _ => w2_b1.trans (w1_congr fun _ => w2_some)))
@[simp] theorem r_bop {conj : Bool} {t_ : Tg P} : w2 (ev (.bop conj es) env) P t_ ↔ w2 (evB conj es env) fun b e => P (.val (.bool b)) e := by
  rw [ev]; exact w2_b2.trans (w2_congr fun _ _ => w2_some)
@[simp] theorem r_bop1 {conj : Bool} {Z : Bool → Nv → Prop} {t_ : Tg Z} : w2 (evB conj (.cons e .nil) env) Z t_ ↔ w2 (ev e env) fun r e1 => wbl r fun b => Z b e1 := by
  rw [evB]; exact w2_b2.trans (w2_congr fun _ _ => m_bl.trans (wbl_congr fun _ => w2_some))
@[simp] theorem r_and {e2 : E} {Z : Bool → Nv → Prop} {t_ : Tg Z} : w2 (evB true (.cons e (.cons e2 es)) env) Z t_ ↔ w2 (ev e env) fun r e1 => wbl r fun b => if b = true then w2 (evB true (.cons e2 es) e1) Z else Z false e1 := by
  rw [evB]
  refine w2_b2.trans (w2_congr fun _ _ => m_bl.trans (wbl_congr fun t => ?_))
  cases t with
  | true => rw [if_pos rfl, if_pos rfl]
  | false => rw [if_neg (by decide), if_neg (by decide), w2_some]
@[simp] theorem r_or {e2 : E} {Z : Bool → Nv → Prop} {t_ : Tg Z} : w2 (evB false (.cons e (.cons e2 es)) env) Z t_ ↔ w2 (ev e env) fun r e1 => wbl r fun b => if b = true then Z true e1 else w2 (evB false (.cons e2 es) e1) Z := by
  rw [evB]
  refine w2_b2.trans (w2_congr fun _ _ => m_bl.trans (wbl_congr fun t => ?_))
  cases t with
  | false => rw [if_pos rfl, if_neg (by decide)]
  | true => rw [if_neg (by decide), if_pos rfl, w2_some]
@[simp] theorem r_not {t_ : Tg P} : w2 (ev (.not a) env) P t_ ↔ w2 (ev a env) fun ra e1 => wbl ra fun b => P (.val (.bool (!b))) e1 := by
  rw [ev]; exact w2_b2.trans (w2_congr fun _ _ => m_bl.trans (wbl_congr fun _ => w2_some))
@[simp] theorem r_ix {t_ : Tg P} : w2 (ev (.ix a b) env) P t_ ↔ w2 (ev a env) fun ra e1 => w2 (ev b e1) fun rb e2 => w1 (rd e2 ra) fun da => w1 (rd e2 rb) fun db => w1 (ixv da db) fun d => P (.val d) e2 := by
  rw [ev]; exact w2_b2.trans (w2_congr fun _ _ => w2_b2.trans (w2_congr fun _ _ => w2_b1.trans (w1_congr fun _ => w2_b1.trans (w1_congr fun _ => w2_b1.trans (w1_congr fun _ => w2_some)))))
def wO (no : Bool) (f : Nv → Option (Res × Nv)) (env : Nv) (Z : Option Int → Nv → Prop) (_ : Tg Z := ⟨⟩) : Prop := w2 (evO no f env) Z
@[simp] theorem wO_t {f : Nv → Option (Res × Nv)} {Z : Option Int → Nv → Prop} {t_ : Tg Z} : wO true f env Z t_ ↔ Z none env := w2_some
@[simp] theorem wO_f {f : Nv → Option (Res × Nv)} {Z : Option Int → Nv → Prop} {t_ : Tg Z} : wO false f env Z t_ ↔ w2 (f env) fun r e1 => wint r fun i => Z (some i) e1 := by
  unfold wO evO
  rw [if_neg Bool.false_ne_true]; exact w2_b2.trans (w2_congr fun _ _ => m_int.trans (wint_congr fun _ => w2_some))
@[simp] theorem r_sl {t_ : Tg P} : w2 (ev (.sl a b c) env) P t_ ↔ w2 (ev a env) fun ra e1 => wO b.isNo (fun e => ev b e) e1 fun l e2 => wO c.isNo (fun e => ev c e) e2 fun h e3 => w1 (rd e3 ra) fun da => w1 (slv da l h) fun r => P r e3 := by
  rw [ev]; exact w2_b2.trans (w2_congr fun _ _ => w2_b2.trans (w2_congr fun _ _ => w2_b2.trans (w2_congr fun _ _ => w2_b1.trans (w1_congr fun _ => w2_b1.trans (w1_congr fun _ => w2_some)))))
def wcr (r : Res) (Z : Res → Prop) (_ : Tg Z := ⟨⟩) : Prop := match r with
  | .pl _ => False
  | r => Z r
@[simp] theorem wcr_val {Z : Res → Prop} {d : D} {t_ : Tg Z} : wcr (.val d) Z t_ ↔ Z (.val d) := Iff.rfl
@[simp] theorem wcr_fr {Z : Res → Prop} {l : List D} {t_ : Tg Z} : wcr (.fr l) Z t_ ↔ Z (.fr l) := Iff.rfl
@[simp] theorem r_call {f : Fn} {t_ : Tg P} : w2 (ev (.call f es) env) P t_ ↔ w2 (evL es env) fun rs e1 => (dupPl rs = false) ∧ w1 (argS f.asg 0 e1 rs) fun as => w2 (f.run as) fun r bs => wcr r fun r => P r (putB f.asg e1 0 e1 rs bs) := by
  rw [ev, w2_b2]
  refine exists_congr fun rs => exists_congr fun e1 => and_congr Iff.rfl ?_
  dsimp only
  cases dupPl rs with
  | true => rw [if_pos rfl]; exact ⟨fun h => (w2_none.mp h).elim, fun h => nomatch h.1⟩
  | false =>
    rw [if_neg Bool.false_ne_true, w2_b1]
    refine ⟨fun h => ⟨rfl, w1_mono h fun as h => ?_⟩, fun h => w1_mono h.2 fun as h => ?_⟩
    · rw [w2_b2] at h
      refine w2_mono h fun r bs h => ?_
      cases r with
      | pl i => exact (w2_none.mp h).elim
      | val d => exact (show wcr (.val d) _ from (w2_some (P := P)).mp h)
      | fr d => exact (show wcr (.fr d) _ from (w2_some (P := P)).mp h)
    · rw [w2_b2]
      refine w2_mono h fun r bs h => ?_
      cases r with
      | pl i => exact h.elim
      | val d => exact w2_some.mpr h
      | fr d => exact w2_some.mpr h
@[simp] theorem r_b1 {o : B1} {t_ : Tg P} : w2 (ev (.b1 o a) env) P t_ ↔ w2 (ev a env) fun ra e1 => w1 (rd e1 ra) fun da => w1 (b1v o da) fun r => P r e1 := by
  rw [ev]; exact w2_b2.trans (w2_congr fun _ _ => w2_b1.trans (w1_congr fun _ => w2_b1.trans (w1_congr fun _ => w2_some)))
@[simp] theorem r_b2 {o : B2} {t_ : Tg P} : w2 (ev (.b2 o a c) env) P t_ ↔ w2 (ev a env) fun ra e1 => w2 (ev c e1) fun rb e2 => w1 (rd e2 ra) fun da => w1 (rd e2 rb) fun db => w1 (b2v o da db) fun r => P r e2 := by
  rw [ev]; exact w2_b2.trans (w2_congr fun _ _ => w2_b2.trans (w2_congr fun _ _ => w2_b1.trans (w1_congr fun _ => w2_b1.trans (w1_congr fun _ => w2_b1.trans (w1_congr fun _ => w2_some)))))
@[simp] theorem r_isi {t : String} {t_ : Tg P} : w2 (ev (.isi a t) env) P t_ ↔ w2 (ev a env) fun ra e1 => w1 (rd e1 ra) fun da => spc da = false ∧ P (.val (.bool (isiv da t))) e1 := by
  rw [ev]
  refine w2_b2.trans (w2_congr fun _ _ => w2_b1.trans (w1_congr fun da => ?_))
  cases spc da with
  | true => exact ⟨fun h => (w2_none.mp h).elim, fun h => nomatch h.1⟩
  | false => exact w2_some.trans ⟨fun h => ⟨rfl, h⟩, fun h => h.2⟩
@[simp] theorem spc_non : spc .none = false := rfl
@[simp] theorem spc_b {b : Bool} : spc (.bool b) = false := rfl
@[simp] theorem spc_i {b : Int} : spc (.int b) = false := rfl
@[simp] theorem spc_st {b : Str} : spc (.str b) = false := rfl
@[simp] theorem spc_l {b : List D} : spc (.list b) = false := rfl
@[simp] theorem spc_t {b : List D} : spc (.tuple b) = false := rfl
@[simp] theorem spc_d0 : spc (.dict []) = false := rfl
@[simp] theorem errOf_e {x : Str} : errOf (.dict [(.none, .str x)]) = some x := rfl
@[simp] theorem fnOf_f {x : Str} : fnOf (.dict [(.bool true, .str x)]) = some x := rfl
@[simp] theorem r_isx {y : Str} {t_ : Tg P} : w2 (ev (.isx a y) env) P t_ ↔ w2 (ev a env) fun ra e1 => w1 (rd e1 ra) fun da => w1 (errOf da) fun x => P (.val (.bool (subE x y))) e1 := by
  rw [ev]; exact w2_b2.trans (w2_congr fun _ _ => w2_b1.trans (w1_congr fun _ => w2_b1.trans (w1_congr fun _ => w2_some)))
@[simp] theorem errOf_d {x : Str} {l : List (D × D)} : errOf (.dict ((.none, .str x) :: l)) = some x := rfl
@[simp] theorem r_fld {f : Str} {t_ : Tg P} : w2 (ev (.fld i f) env) P t_ ↔ w1 (rd env (.pl i)) fun da => w1 (fldOf f da) fun d => P (.val d) env := by
  rw [ev]; exact w2_b1.trans (w1_congr fun _ => w2_b1.trans (w1_congr fun _ => w2_some))
@[simp] theorem r_isxT {ys : List Str} {t_ : Tg P} : w2 (ev (.isxT a ys) env) P t_ ↔ w2 (ev a env) fun ra e1 => w1 (rd e1 ra) fun da => w1 (errOf da) fun x => P (.val (.bool (ys.any (subE x)))) e1 := by
  rw [ev]; exact w2_b2.trans (w2_congr fun _ _ => w2_b1.trans (w1_congr fun _ => w2_b1.trans (w1_congr fun _ => w2_some)))
@[simp] theorem r_isv {t_ : Tg P} : w2 (ev (.isv a) env) P t_ ↔ w2 (ev a env) fun ra e1 => w1 (rd e1 ra) fun da => w1 (errOf da) fun x => P (.val (.bool true)) e1 := by
  rw [ev]; exact w2_b2.trans (w2_congr fun _ _ => w2_b1.trans (w1_congr fun _ => w2_b1.trans (w1_congr fun _ => w2_some)))
def wfn (s : Slot) (Q : Str → Prop) (_ : Tg Q := ⟨⟩) : Prop := ∃ x, s = .val (fnD x) ∧ Q x
@[simp] theorem wfn_val {x : Str} {Q : Str → Prop} {t_ : Tg Q} : wfn (.val (.dict [(.bool true, .str x)])) Q t_ ↔ Q x := ⟨fun ⟨_, e, h⟩ => by cases e; exact h, fun h => ⟨x, rfl, h⟩⟩
theorem fnAt_w {Q : Str → Prop} {t_ : Tg Q} : w1 (fnAt env i) Q t_ ↔ wfn (sAt env i) Q := by
  unfold fnAt
  constructor
  · rintro ⟨x, e, h⟩
    split at e
    · rename_i d hd
      have := fnOf_eq e
      subst this
      exact ⟨x, hd, h⟩
    · cases e
  · rintro ⟨x, e, h⟩
    exact ⟨x, by rw [e]; rfl, h⟩
theorem callE_w {f : Fn} {rs : List Res} {t_ : Tg P} : w2 (callE f rs env) P t_ ↔ (dupPl rs = false) ∧ w1 (argS f.asg 0 env rs) fun as => w2 (f.run as) fun v bs => wcr v fun v => P v (putB f.asg env 0 env rs bs) := by
  unfold callE
  cases dupPl rs with
  | true => rw [if_pos rfl]; exact ⟨fun h => (w2_none.mp h).elim, fun h => nomatch h.1⟩
  | false =>
    rw [if_neg Bool.false_ne_true]
    refine Iff.trans ?_ (Iff.symm (and_iff_right rfl))
    cases argS f.asg 0 env rs with
    | none => exact ⟨fun h => (w2_none.mp h).elim, fun h => (w1_none.mp h).elim⟩
    | some as =>
      rw [w1_some]
      dsimp only
      cases f.run as with
      | none => exact ⟨fun h => (w2_none.mp h).elim, fun h => (w2_none.mp h).elim⟩
      | some p =>
        obtain ⟨v, bs⟩ := p
        rw [w2_some]
        cases v with
        | val d => exact w2_some
        | fr l => exact w2_some
        | pl i => exact ⟨fun h => (w2_none.mp h).elim, fun h => h.elim⟩
def wat (r : Res) (Q : D → Prop) (_ : Tg Q := ⟨⟩) : Prop := w1 (atomR r) Q
@[simp] theorem wat_i {i : Int} {Q : D → Prop} {t_ : Tg Q} : wat (.val (.int i)) Q t_ ↔ Q (.int i) := w1_some
@[simp] theorem wat_b {b : Bool} {Q : D → Prop} {t_ : Tg Q} : wat (.val (.bool b)) Q t_ ↔ Q (.bool b) := w1_some
@[simp] theorem ownL_0 {l : List D} {s : List Slot} : ownL (.own l :: s) 0 = some l := rfl
@[simp] theorem ownL_s {x : Slot} {s : List Slot} {n : Nat} : ownL (x :: s) (n + 1) = ownL s n := rfl
@[simp] theorem r_callP {f : Fn} {as es : EL} {t_ : Tg P} : w2 (ev (.callP f i as es) env) P t_ ↔ w1 (ownL env i) fun _ => w2 (evK as env) fun d1 e1 => w2 (evK es e1) fun d2 e2 => w1 (ownL e2 i) fun l => d2.length + 1 = f.ps.length ∧ w2 (f.run (.val (.tuple (.list l :: d1)) :: d2.map .val)) fun r _ => wat r fun d => P (.val d) e2 := by
  rw [ev]
  exact w2_b1.trans (w1_congr fun _ => w2_b2.trans (w2_congr fun d1 e1 => w2_b2.trans (w2_congr fun d2 e2 => w2_b1.trans (w1_congr fun l => w2_iff.trans (and_congr Iff.rfl (w2_b2.trans (w2_congr fun r _ => w2_b1.trans (w1_congr fun d => w2_some))))))))
@[simp] theorem r_callv {fs : List Fn} {es : EL} {t_ : Tg P} : w2 (ev (.callv i fs es) env) P t_ ↔ wfn (sAt env i) fun x => w1 (fs.find? fun f => decide (f.name = x)) fun f => es.length = f.ps.length ∧ w2 (evL es env) fun rs e1 => (dupPl rs = false) ∧ w1 (argS f.asg 0 e1 rs) fun as => w2 (f.run as) fun v bs => wcr v fun v => P v (putB f.asg e1 0 e1 rs bs) := by
  rw [ev]
  exact w2_b1.trans (fnAt_w.trans (exists_congr fun x => and_congr Iff.rfl (w2_b1.trans (w1_congr fun f => w2_iff.trans (and_congr Iff.rfl (w2_b2.trans (w2_congr fun rs e1 => callE_w)))))))
@[simp] theorem el_nil : EL.length .nil = 0 := rfl
@[simp] theorem el_cons {e : E} {es : EL} : EL.length (.cons e es) = es.length + 1 := rfl
@[simp] theorem r_lrng {t_ : Tg P} : w2 (ev (.lrng a) env) P t_ ↔ w2 (ev a env) fun ra e1 => wint ra fun n => (0 ≤ n ∧ n ≤ 1000000) ∧ P (.fr (rngL 0 n)) e1 := by
  rw [ev]; exact w2_b2.trans (w2_congr fun _ _ => m_int.trans (wint_congr fun _ => w2_if))
@[simp] theorem r_lrev {t_ : Tg P} : w2 (ev (.lrev a) env) P t_ ↔ w2 (ev a env) fun ra e1 => w1 (rd e1 ra) fun da => ∃ l, da = .list l ∧ P (.fr l.reverse) e1 := by
  rw [ev]
  refine w2_b2.trans (w2_congr fun _ _ => w2_b1.trans (w1_congr fun t => ?_))
  cases t <;> first
    | exact ⟨fun h => (w2_none.mp h).elim, fun ⟨_, e, _⟩ => nomatch e⟩
    | exact w2_some.trans ⟨fun h => ⟨_, rfl, h⟩, fun ⟨_, e, h⟩ => by cases e; exact h⟩
@[simp] theorem r_dct {t_ : Tg P} : w2 (ev .dct env) P t_ ↔ P (.val (.dict [])) env := by rw [ev]; exact w2_some
@[simp] theorem r_dspe {k : E} {t_ : Tg P} : w2 (ev (.dspe k a) env) P t_ ↔ w2 (ev k env) fun r e1 => wint r fun i => w2 (ev a e1) fun r e2 => wkp e2 r fun d e3 => P (.val (.dict [(.int i, d)])) e3 := by
  rw [ev]; exact w2_b2.trans (w2_congr fun _ _ => m_int.trans (wint_congr fun _ => w2_b2.trans (w2_congr fun _ _ => w2_b2.trans (w2_congr fun _ _ => w2_some))))
@[simp] theorem r_dsp2 {k l : Int ⊕ Str} {t_ : Tg P} : w2 (ev (.dsp2 k a l b) env) P t_ ↔ w2 (ev a env) fun r e1 => wkp e1 r fun d e2 => w2 (ev b e2) fun u e3 => wkp e3 u fun c e4 => ¬ k = l ∧ P (.val (.dict [(keyD k, d), (keyD l, c)])) e4 := by
  rw [ev]
  refine w2_b2.trans (w2_congr fun _ _ => w2_b2.trans (w2_congr fun _ _ => w2_b2.trans (w2_congr fun _ _ => w2_b2.trans (w2_congr fun _ _ => ?_))))
  by_cases h : k = l
  · show w2 (if k = l then none else _) P ↔ _
    rw [if_pos h]; exact ⟨fun z => (w2_none.mp z).elim, fun z => absurd h z.1⟩
  · show w2 (if k = l then none else _) P ↔ _
    rw [if_neg h]; exact w2_some.trans ⟨fun z => ⟨h, z⟩, fun z => z.2⟩
@[simp] theorem r_dsp {k : Int ⊕ Str} {t_ : Tg P} : w2 (ev (.dsp k a) env) P t_ ↔ w2 (ev a env) fun r e1 => wkp e1 r fun d e2 => P (.val (.dict [(keyD k, d)])) e2 := by
  rw [ev]; exact w2_b2.trans (w2_congr fun _ _ => w2_b2.trans (w2_congr fun _ _ => w2_some))
@[simp] theorem r_mx3 {t_ : Tg P} : w2 (ev (.mx3 a b c) env) P t_ ↔ w2 (ev a env) fun ra e1 => w2 (ev b e1) fun rb e2 => w2 (ev c e2) fun rc e3 => w1 (rd e3 ra) fun da => w1 (rd e3 rb) fun db => w1 (rd e3 rc) fun dc => w1 (mx3v da db dc) fun r => P r e3 := by
  rw [ev]; exact w2_b2.trans (w2_congr fun _ _ => w2_b2.trans (w2_congr fun _ _ => w2_b2.trans (w2_congr fun _ _ => w2_b1.trans (w1_congr fun _ => w2_b1.trans (w1_congr fun _ => w2_b1.trans (w1_congr fun _ => w2_b1.trans (w1_congr fun _ => w2_some)))))))
@[simp] theorem r_srv {t_ : Tg P} : w2 (ev (.srv a) env) P t_ ↔ w2 (ev a env) fun ra e1 => w1 (rd e1 ra) fun da => w1 (srvv da) fun r => P r e1 := by
  rw [ev]; exact w2_b2.trans (w2_congr fun _ _ => w2_b1.trans (w1_congr fun _ => w2_b1.trans (w1_congr fun _ => w2_some)))
@[simp] theorem r_rvt {t_ : Tg P} : w2 (ev (.rvt a) env) P t_ ↔ w2 (ev a env) fun ra e1 => w1 (rd e1 ra) fun da => w1 (rvtv da) fun r => P r e1 := by
  rw [ev]; exact w2_b2.trans (w2_congr fun _ _ => w2_b1.trans (w1_congr fun _ => w2_b1.trans (w1_congr fun _ => w2_some)))
@[simp] theorem r_rp {r : Bool} {t_ : Tg P} : w2 (ev (.rp r a) env) P t_ ↔ w2 (ev a env) fun ra e1 => w1 (rd e1 ra) fun da => (if r = true then okRx da else okRp da) = true ∧ P (.val (.str da.shown)) e1 := by
  rw [ev]; exact w2_b2.trans (w2_congr fun _ e1 => w2_b1.trans (w1_congr fun da => by
    by_cases h : (if r = true then okRx da else okRp da) = true
    · show w2 (if (if r = true then okRx da else okRp da) = true then _ else none) P ↔ _
      rw [if_pos h]; exact w2_some.trans ⟨fun p => ⟨h, p⟩, fun p => p.2⟩
    · show w2 (if (if r = true then okRx da else okRp da) = true then _ else none) P ↔ _
      rw [if_neg h]; exact ⟨fun p => (w2_none.mp p).elim, fun p => (h p.1).elim⟩))
@[simp] theorem r_rvl {t_ : Tg P} : w2 (ev (.rvl a) env) P t_ ↔ w2 (ev a env) fun ra e1 => w1 (rd e1 ra) fun da => w1 (rvlv da) fun r => P r e1 := by
  rw [ev]; exact w2_b2.trans (w2_congr fun _ _ => w2_b1.trans (w1_congr fun _ => w2_b1.trans (w1_congr fun _ => w2_some)))
@[simp] theorem r_eqn {t_ : Tg P} : w2 (ev (.eqn a) env) P t_ ↔ w2 (ev a env) fun ra e1 => ∃ l, ra = .fr l ∧ P (.val (.bool l.isEmpty)) e1 := by
  rw [ev]
  refine w2_b2.trans (w2_congr fun t _ => ?_)
  cases t <;> first
    | exact ⟨fun h => (w2_none.mp h).elim, fun ⟨_, e, _⟩ => nomatch e⟩
    | exact w2_some.trans ⟨fun h => ⟨_, rfl, h⟩, fun ⟨_, e, h⟩ => by cases e; exact h⟩
@[simp] theorem r_lset {t_ : Tg P} : w2 (ev (.lset a) env) P t_ ↔ w2 (ev a env) fun ra e1 => w1 (rd e1 ra) fun da => w1 (lsetv da) fun r => P r e1 := by
  rw [ev]; exact w2_b2.trans (w2_congr fun _ _ => w2_b1.trans (w1_congr fun _ => w2_b1.trans (w1_congr fun _ => w2_some)))
@[simp] theorem r_srs {t_ : Tg P} : w2 (ev (.srs a) env) P t_ ↔ w2 (ev a env) fun ra e1 => w1 (rd e1 ra) fun da => w1 (srsv da) fun r => P r e1 := by
  rw [ev]; exact w2_b2.trans (w2_congr fun _ _ => w2_b1.trans (w1_congr fun _ => w2_b1.trans (w1_congr fun _ => w2_some)))
@[simp] theorem r_frz {P : Res → Nv → Prop} {t_ : Tg P} : w2 (ev (.frz a) env) P t_ ↔ w2 (ev a env) fun ra e1 => wkp e1 ra fun d e2 => P (.val d) e2 := by
  rw [ev]; exact w2_b2.trans (w2_congr fun _ _ => w2_b2.trans (w2_congr fun _ _ => w2_some))
@[simp] theorem rvlv_t {l : List D} : rvlv (.tuple l) = some (.val (.tuple l.reverse)) := rfl
@[simp] theorem rvtv_l {l : List D} : rvtv (.list l) = some (.val (.tuple l.reverse)) := rfl
@[simp] theorem rvtv_t {l : List D} : rvtv (.tuple l) = if l ≠ [] then some (.val (.tuple l.reverse)) else none := rfl
@[simp] theorem rvlv_l {l : List D} : rvlv (.list l) = some (.fr l.reverse) := rfl
theorem isOwn_w : isOwn env i = true ↔ wo (sAt env i) fun _ => True := by
  unfold isOwn wo
  cases sAt env i <;> simp
@[simp] theorem r_trng {t_ : Tg P} : w2 (ev (.trng a) env) P t_ ↔ w2 (ev a env) fun ra e1 => wint ra fun n => (0 ≤ n ∧ n ≤ 1000000) ∧ P (.val (.tuple (rngL 0 n))) e1 := by
  rw [ev]; exact w2_b2.trans (w2_congr fun _ _ => m_int.trans (wint_congr fun _ => w2_if))
@[simp] theorem r_inv {t_ : Tg P} : w2 (ev (.inv a) env) P t_ ↔ w2 (ev a env) fun ra e1 => wint ra fun n => P (.val (.int (Builtin.bitNot n))) e1 := by
  rw [ev]; exact w2_b2.trans (w2_congr fun _ _ => m_int.trans (wint_congr fun _ => w2_some))
@[simp] theorem r_mnd {c : Int} {t_ : Tg P} : w2 (ev (.mnd a c) env) P t_ ↔ w2 (ev a env) fun ra e1 => w1 (rd e1 ra) fun da => w1 (mndv c da) fun r => P r e1 := by
  rw [ev]; exact w2_b2.trans (w2_congr fun _ _ => w2_b1.trans (w1_congr fun _ => w2_b1.trans (w1_congr fun _ => w2_some)))
@[simp] theorem r_mn3 {t_ : Tg P} : w2 (ev (.mn3 a b c) env) P t_ ↔ w2 (ev a env) fun ra e1 => w2 (ev b e1) fun rb e2 => w2 (ev c e2) fun rc e3 => w1 (rd e3 ra) fun da => w1 (rd e3 rb) fun db => w1 (rd e3 rc) fun dc => w1 (mn3v da db dc) fun r => P r e3 := by
  rw [ev]; exact w2_b2.trans (w2_congr fun _ _ => w2_b2.trans (w2_congr fun _ _ => w2_b2.trans (w2_congr fun _ _ => w2_b1.trans (w1_congr fun _ => w2_b1.trans (w1_congr fun _ => w2_b1.trans (w1_congr fun _ => w2_b1.trans (w1_congr fun _ => w2_some)))))))
def wl (d : D) (L : List D → Prop) (_ : Tg L := ⟨⟩) : Prop := ∃ l, d = .list l ∧ L l
@[simp] theorem wl_l {l : List D} {L : List D → Prop} {t_ : Tg L} : wl (.list l) L t_ ↔ L l := ⟨fun ⟨_, e, h⟩ => by cases e; exact h, fun h => ⟨l, rfl, h⟩⟩
def wfr (r : Res) (L : List D → Prop) (_ : Tg L := ⟨⟩) : Prop := ∃ l, r = .fr l ∧ L l
@[simp] theorem wfr_f {l : List D} {L : List D → Prop} {t_ : Tg L} : wfr (.fr l) L t_ ↔ L l := ⟨fun ⟨_, e, h⟩ => by cases e; exact h, fun h => ⟨l, rfl, h⟩⟩
theorem wl_congr {d : D} {L M : List D → Prop} (h : ∀ l, L l ↔ M l) : wl d L ↔ wl d M := exists_congr fun l => and_congr Iff.rfl (h l)
theorem m_list {d : D} {f : List D → Option (Res × Nv)} {t_ : Tg P} : w2 (match d with | .list l => f l | _ => none) P t_ ↔ wl d fun l => w2 (f l) P := by
  cases d <;> first
    | exact ⟨fun h => (w2_none.mp h).elim, fun ⟨_, e, _⟩ => nomatch e⟩
    | exact ⟨fun h => ⟨_, rfl, h⟩, fun ⟨_, e, h⟩ => by cases e; exact h⟩
theorem m_fr2 {r : Res} {f : List D → Option (Res × Nv)} {t_ : Tg P} : w2 (match r with | .fr l => f l | _ => none) P t_ ↔ wfr r fun l => w2 (f l) P := by
  cases r <;> first
    | exact ⟨fun h => (w2_none.mp h).elim, fun ⟨_, e, _⟩ => nomatch e⟩
    | exact ⟨fun h => ⟨_, rfl, h⟩, fun ⟨_, e, h⟩ => by cases e; exact h⟩
theorem wfr_congr {d : Res} {L M : List D → Prop} (h : ∀ l, L l ↔ M l) : wfr d L ↔ wfr d M := exists_congr fun l => and_congr Iff.rfl (h l)
theorem m_opt {α : Type} {o : Option α} {f : α → Option (Res × Nv)} {t_ : Tg P} : w2 (match o with | some l => f l | none => none) P t_ ↔ w1 o fun l => w2 (f l) P := by
  cases o with
  | none => exact ⟨fun h => (w2_none.mp h).elim, fun h => (w1_none.mp h).elim⟩
  | some a => exact (w1_some (P := fun l => w2 (f l) P)).symm
theorem m_rlB {o : Option D} {f : List D → Option (Res × Nv)} {P : Res → Nv → Prop} : w2 (match o with | some (.list l) => f l | _ => none) P ↔ w1 o fun d => wl d fun l => w2 (f l) P := by
  constructor
  · intro h
    split at h
    · exact ⟨_, rfl, _, rfl, h⟩
    · exact (w2_none.mp h).elim
  · rintro ⟨d, rfl, l, rfl, h⟩
    exact h
@[simp] theorem r_mtC {P : Res → Nv → Prop} {t_ : Tg P} : w2 (ev (.mt true a) env) P t_ ↔ w2 (ev a env) fun ra e1 => w1 (rd e1 ra) fun d => wl d fun l => w1 (boolsE l) fun bs => P (.val (.int (bs.count true : Nat))) e1 := by
  rw [ev]
  exact w2_b2.trans (w2_congr fun ra e1 => m_rlB.trans (w1_congr fun d => wl_congr fun l => w2_b1.trans (w1_congr fun bs => w2_some)))
@[simp] theorem r_mtI {P : Res → Nv → Prop} {t_ : Tg P} : w2 (ev (.mt false a) env) P t_ ↔ w2 (ev a env) fun ra e1 => w1 (rd e1 ra) fun d => wl d fun l => w1 (boolsE l) fun bs => w1 (fstT bs) fun j => P (.val (.int (j : Nat))) e1 := by
  rw [ev]
  exact w2_b2.trans (w2_congr fun ra e1 => m_rlB.trans (w1_congr fun d => wl_congr fun l => w2_b1.trans (w1_congr fun bs => w2_b1.trans (w1_congr fun j => w2_some))))
@[simp] theorem r_idx {e : E} {t_ : Tg P} : w2 (ev (.idx a e) env) P t_ ↔ w2 (ev a env) fun ra e1 => w1 (rd e1 ra) fun d0 => wl d0 fun _ => w2 (ev e e1) fun re e2 => w1 (rd e2 ra) fun da => w1 (rd e2 re) fun de => w1 (idxv da de) fun r => P r e2 := by
  rw [ev]; exact w2_b2.trans (w2_congr fun _ _ => w2_b1.trans (w1_congr fun _ => m_list.trans (wl_congr fun _ => w2_b2.trans (w2_congr fun _ _ => w2_b1.trans (w1_congr fun _ => w2_b1.trans (w1_congr fun _ => w2_b1.trans (w1_congr fun _ => w2_some)))))))
def wdl (r : Res) (Q : Int → List D → Prop) (_ : Tg Q := ⟨⟩) : Prop := ∃ i ds, r = .val (dlD i ds) ∧ Q i ds
@[simp] theorem wdl_v {i : Int} {ds : List D} {Q : Int → List D → Prop} {t_ : Tg Q} : wdl (.val (dlD i ds)) Q t_ ↔ Q i ds := ⟨fun ⟨_, _, e, h⟩ => by cases e; exact h, fun h => ⟨i, ds, rfl, h⟩⟩
theorem wdl_congr {r : Res} {Q M : Int → List D → Prop} (h : ∀ i l, Q i l ↔ M i l) : wdl r Q ↔ wdl r M := exists_congr fun i => exists_congr fun l => and_congr Iff.rfl (h i l)
theorem dlvP_eqn {d : D} {p : Int × List D} (h : dlvP d = some p) : d = dlD p.1 p.2 := by
  unfold dlvP at h
  split at h
  · cases h; rfl
  · cases h
theorem m_dl {r : Res} {f : Int × List D → Option (Res × Nv)} {P : Res → Nv → Prop} : w2 (match r with | .val d => (dlvP d).bind f | _ => none) P ↔ wdl r fun i ds => w2 (f (i, ds)) P := by
  constructor
  · intro h
    split at h
    · rename_i d
      cases e : dlvP d with
      | none => rw [e] at h; exact (w2_none.mp h).elim
      | some p => rw [e] at h; exact ⟨p.1, p.2, by rw [dlvP_eqn e], h⟩
    · exact (w2_none.mp h).elim
  · rintro ⟨i, ds, rfl, h⟩
    exact h
theorem m_rdl {o : Option D} {i : Int} {e : Nv} {P : Res → Nv → Prop} : w2 (match o with | some (.list l) => some (Res.val (dlD i l), e) | _ => none) P ↔ w1 o fun d => wl d fun l => P (.val (dlD i l)) e := by
  constructor
  · intro h
    split at h
    · exact ⟨_, rfl, _, rfl, w2_some.mp h⟩
    · exact (w2_none.mp h).elim
  · rintro ⟨d, rfl, l, rfl, h⟩
    exact w2_some.mpr h
@[simp] theorem r_dlh {P : Res → Nv → Prop} {t_ : Tg P} : w2 (ev (.dlh a b) env) P t_ ↔ w2 (ev a env) fun ra e1 => wint ra fun i => w2 (ev b e1) fun rb e2 => w1 (rd e2 rb) fun d => wl d fun l => P (.val (dlD i l)) e2 := by
  rw [ev]
  exact w2_b2.trans (w2_congr fun ra e1 => m_int.trans (wint_congr fun i => w2_b2.trans (w2_congr fun rb e2 => m_rdl)))
@[simp] theorem r_undl {P : Res → Nv → Prop} {t_ : Tg P} : w2 (ev (.undl a) env) P t_ ↔ w2 (ev a env) fun ra e1 => wdl ra fun i ds => P (.val (.tuple [.int i, .tuple ds])) e1 := by
  rw [ev]
  exact w2_b2.trans (w2_congr fun ra e1 => m_dl.trans (wdl_congr fun i ds => w2_some))
theorem w2_ne1 {n : Int} {o : Option (Res × Nv)} {P : Res → Nv → Prop} : w2 (if n ≠ 1 then none else o) P ↔ n = 1 ∧ w2 o P := by
  by_cases h : n = 1
  · rw [if_neg fun z => z h]; exact ⟨fun q => ⟨h, q⟩, fun q => q.2⟩
  · rw [if_pos h]; exact ⟨fun q => (w2_none.mp q).elim, fun q => absurd q.1 h⟩
@[simp] theorem r_dli {c : E} {P : Res → Nv → Prop} {t_ : Tg P} : w2 (ev (.dli a c b) env) P t_ ↔ w2 (ev a env) fun ra e1 => wdl ra fun i ds => w2 (ev c e1) fun rc e2 => wint rc fun n => n = 1 ∧ w2 (ev b e2) fun rb e3 => wint rb fun k => w1 (intsD ds) fun ns => w1 (idxI k ns) fun j => P (.val (.int (j : Nat))) e3 := by
  rw [ev]
  exact w2_b2.trans (w2_congr fun ra e1 => m_dl.trans (wdl_congr fun i ds => w2_b2.trans (w2_congr fun rc e2 => m_int.trans (wint_congr fun n => w2_ne1.trans (and_congr Iff.rfl (w2_b2.trans (w2_congr fun rb e3 => m_int.trans (wint_congr fun k => w2_b1.trans (w1_congr fun ns => w2_b1.trans (w1_congr fun j => w2_some))))))))))
theorem m_dct {d : D} {e : Nv} {P : Res → Nv → Prop} : w2 (match d with | .list l => (keysD l).bind fun ns => if ns = [] then none else some (Res.val (kdV ns), e) | _ => none) P ↔ wl d fun l => w1 (keysD l) fun ns => ns ≠ [] ∧ P (.val (kdV ns)) e := by
  constructor
  · intro h
    split at h
    · refine ⟨_, rfl, ?_⟩
      cases hk : keysD _ with
      | none => rw [hk] at h; exact (w2_none.mp h).elim
      | some ns =>
        rw [hk] at h
        refine ⟨ns, hk, ?_⟩
        rw [Option.bind_some] at h
        split at h
        · exact (w2_none.mp h).elim
        · rename_i hn; exact ⟨hn, w2_some.mp h⟩
    · exact (w2_none.mp h).elim
  · rintro ⟨l, rfl, ns, hk, hn, h⟩
    show w2 ((keysD l).bind _) P
    rw [hk, Option.bind_some, if_neg hn]
    exact w2_some.mpr h
@[simp] theorem r_dctP {P : Res → Nv → Prop} {t_ : Tg P} : w2 (ev (.dctP a) env) P t_ ↔ w2 (ev a env) fun ra e1 => w1 (rd e1 ra) fun d => wl d fun l => w1 (keysD l) fun ns => ns ≠ [] ∧ P (.val (kdV ns)) e1 := by
  rw [ev]
  exact w2_b2.trans (w2_congr fun ra e1 => w2_b1.trans (w1_congr fun d => m_dct))
theorem keysD_map : ∀ ns : List Int, keysD (ns.map fun n => .tuple [.int n, .bool true]) = some ns
  | [] => rfl
  | n :: ns => by rw [List.map_cons, keysD, keysD_map ns]; rfl
theorem intsD_map0 : ∀ ns : List Int, intsD (ns.map PyData.int) = some ns
  | [] => rfl
  | n :: ns => by rw [List.map_cons, intsD, intsD_map0 ns]; rfl
@[simp] theorem cm_niK {i : Int} {ns : List Int} : cmpv .NotIn (.int i) (kdV ns) = some (!decide (i ∈ ns)) := by
  show (intsD (ns.map PyData.int)).map _ = _
  rw [intsD_map0]; rfl
@[simp] theorem r_srtK {n : Str} {is : List Nat} {t_ : Tg P} : w2 (ev (.srtK a n is b) env) P t_ ↔ w2 (ev a env) fun ra e1 => w1 (rd e1 ra) fun da => wl da fun l => w1 (capS e1 is) fun cs => w1 (keysV (fun env => ev b env) cs l) fun ks => w1 (srtKv ks l) fun out => P (.fr out) e1 := by
  rw [ev]; exact w2_b2.trans (w2_congr fun _ _ => w2_b1.trans (w1_congr fun _ => m_list.trans (wl_congr fun _ => w2_b1.trans (w1_congr fun _ => w2_b1.trans (w1_congr fun _ => w2_b1.trans (w1_congr fun _ => w2_some))))))
@[simp] theorem capS_0 : capS env [] = some [] := rfl
theorem keysV_of {f : Nv → Option (Res × Nv)} {cs : List Slot} {key : D → D} : ∀ {l : List D}, (∀ d ∈ l, w2 (f (.val d :: cs)) fun r _ => r = .val (key d)) → keysV f cs l = some (l.map key)
  | [], _ => rfl
  | d :: l, h => by
    obtain ⟨r, e, h1, rfl⟩ := h d List.mem_cons_self
    have h2 := keysV_of fun c hc => h c (List.mem_cons_of_mem _ hc)
    show (f (.val d :: cs) >>= _) = _
    rw [h1]
    show (keysV f cs l >>= _) = _
    rw [h2] <;> rfl
@[simp] theorem r_app {t_ : Tg P} : w2 (ev (.app i a) env) P t_ ↔ (wo (sAt env i) fun _ => True) ∧ w2 (ev a env) fun ra e1 => wkp e1 ra fun d e2 => wo (sAt e2 i) fun l => l.length < big ∧ ws e2 i (.own (l ++ [d])) fun e3 => P (.val .none) e3 := by
  rw [ev, ← isOwn_w, w2_iff]
  exact and_congr Iff.rfl (w2_b2.trans (w2_congr fun _ _ => w2_b2.trans (w2_congr fun _ _ => m_own.trans (wo_congr fun _ => w2_if))))
@[simp] theorem r_pop {t_ : Tg P} : w2 (ev (.pop i) env) P t_ ↔ wo (sAt env i) fun l => w1 (l[l.length - 1]?) fun d => ws env i (.own l.dropLast) fun e => P (.val d) e := by
  rw [ev]
  refine m_own.trans (wo_congr fun l => ?_)
  cases l[l.length - 1]? with
  | none => exact ⟨fun h => (w2_none.mp h).elim, fun h => (w1_none.mp h).elim⟩
  | some d => rw [w1_some]; exact w2_some
@[simp] theorem r_popAt {t_ : Tg P} : w2 (ev (.popAt i a) env) P t_ ↔ (wo (sAt env i) fun _ => True) ∧ w2 (ev a env) fun ra e1 => wint ra fun k => wo (sAt e1 i) fun l => (0 ≤ k ∧ k < l.length) ∧ w1 (l[k.toNat]?) fun d => ws e1 i (.own (l.eraseIdx k.toNat)) fun e => P (.val d) e := by
  rw [ev, ← isOwn_w, w2_iff]
  refine and_congr Iff.rfl (w2_b2.trans (w2_congr fun _ _ => m_int.trans (wint_congr fun k => m_own.trans (wo_congr fun l => w2_iff.trans (and_congr Iff.rfl ?_)))))
  cases l[k.toNat]? with
  | none => exact ⟨fun h => (w2_none.mp h).elim, fun h => (w1_none.mp h).elim⟩
  | some d => rw [w1_some]; exact w2_some
@[simp] theorem r_ext {t_ : Tg P} : w2 (ev (.ext i a) env) P t_ ↔ (wo (sAt env i) fun _ => True) ∧ w2 (ev a env) fun ra e1 => wfr ra fun m => wo (sAt e1 i) fun l => l.length + m.length ≤ big ∧ ws e1 i (.own (l ++ m)) fun e => P (.val .none) e := by
  rw [ev, ← isOwn_w, w2_iff]
  exact and_congr Iff.rfl (w2_b2.trans (w2_congr fun _ _ => m_fr2.trans (wfr_congr fun m => m_own.trans (wo_congr fun l => w2_if))))
@[simp] theorem r_rvI {t_ : Tg P} : w2 (ev (.rvI i) env) P t_ ↔ wo (sAt env i) fun l => ws env i (.own l.reverse) fun e => P (.val .none) e := by
  rw [ev]
  exact m_own.trans (wo_congr fun l => w2_some)
@[simp] theorem r_rmv {t_ : Tg P} : w2 (ev (.rmv i a) env) P t_ ↔ (wo (sAt env i) fun _ => True) ∧ w2 (ev a env) fun ra e1 => wint ra fun k => wo (sAt e1 i) fun l => w1 (intsD l) fun ns => w1 (idxI k ns) fun j => ws e1 i (.own (l.eraseIdx j)) fun e => P (.val .none) e := by
  rw [ev, ← isOwn_w, w2_iff]
  refine and_congr Iff.rfl (w2_b2.trans (w2_congr fun _ _ => m_int.trans (wint_congr fun k => m_own.trans (wo_congr fun l => ?_))))
  cases intsD l with
  | none => exact ⟨fun h => (w2_none.mp h).elim, fun h => (w1_none.mp h).elim⟩
  | some ns =>
    rw [w1_some]
    simp only
    cases idxI k ns with
    | none => exact ⟨fun h => (w2_none.mp h).elim, fun h => (w1_none.mp h).elim⟩
    | some j => rw [w1_some]; exact w2_some
@[simp] theorem r_L0 {Z : List Res → Nv → Prop} {t_ : Tg Z} : w2 (evL .nil env) Z t_ ↔ Z [] env := by rw [evL]; exact w2_some
@[simp] theorem r_Ls {Z : List Res → Nv → Prop} {t_ : Tg Z} : w2 (evL (.cons e es) env) Z t_ ↔ w2 (ev e env) fun r e1 => w2 (evL es e1) fun rs e2 => Z (r :: rs) e2 := by
  rw [evL]; exact w2_b2.trans (w2_congr fun _ _ => w2_b2.trans (w2_congr fun _ _ => w2_some))
@[simp] theorem r_K0 {Z : List D → Nv → Prop} {t_ : Tg Z} : w2 (evK .nil env) Z t_ ↔ Z [] env := by rw [evK]; exact w2_some
@[simp] theorem r_Ks {Z : List D → Nv → Prop} {t_ : Tg Z} : w2 (evK (.cons e es) env) Z t_ ↔ w2 (ev e env) fun r e1 => wkp e1 r fun d e2 => w2 (evK es e2) fun ds e3 => Z (d :: ds) e3 := by
  rw [evK]; exact w2_b2.trans (w2_congr fun _ _ => w2_b2.trans (w2_congr fun _ _ => w2_b2.trans (w2_congr fun _ _ => w2_some)))
end

/-! ### statements -/
section
variable {Z : Fl → Nv → Prop} {a b c e : E} {ss : SL} {s : S}
def wf (f : Fl) (A : Prop) (B : Res → Prop) (_ : Tg A := ⟨⟩) (_ : Tg B := ⟨⟩) : Prop := match f with
  | .nx => A
  | .rt r => B r
@[simp] theorem wf_nx {A : Prop} {B : Res → Prop} {t_ : Tg A} {u_ : Tg B} : wf .nx A B t_ u_ ↔ A := Iff.rfl
@[simp] theorem wf_rt {A : Prop} {B : Res → Prop} {r : Res} {t_ : Tg A} {u_ : Tg B} : wf (.rt r) A B t_ u_ ↔ B r := Iff.rfl
@[simp] theorem r_nil {t_ : Tg Z} : w2 (evSL .nil env) Z t_ ↔ Z .nx env := by rw [evSL]; exact w2_some
theorem r_cons {t_ : Tg Z} : w2 (evSL (.cons s ss) env) Z t_ ↔ w2 (evS s env) fun f e1 => wf f (w2 (evSL ss e1) Z) fun r => Z (.rt r) e1 := by
  rw [evSL, w2_b2]
  refine exists_congr fun f => exists_congr fun e1 => and_congr Iff.rfl ?_
  cases f with
  | nx => exact Iff.rfl
  | rt r => exact w2_some
def wsl (env : Nv) (r : Res) (K : Slot → Nv → Prop) (_ : Tg K := ⟨⟩) : Prop := w2 (slotOf env r) K
variable {K : Slot → Nv → Prop}
@[simp] theorem sl_val {d : D} {t_ : Tg K} : wsl env (.val d) K t_ ↔ K (.val d) env := w2_some
@[simp] theorem sl_fr {l : List D} {t_ : Tg K} : wsl env (.fr l) K t_ ↔ K (.own l) env := w2_some
@[simp] theorem sl_pl {t_ : Tg K} : wsl env (.pl i) K t_ ↔ wkp env (.pl i) fun d e => K (.val d) e := w2_map
@[simp] theorem r_asg {t_ : Tg Z} : w2 (evSL (.cons (.asg i e) ss) env) Z t_ ↔ w2 (ev e env) fun r e1 => wsl e1 r fun s e2 => ws e2 i s fun e3 => w2 (evSL ss e3) Z := by
  rw [r_cons, evS]; exact w2_b2.trans (w2_congr fun _ _ => w2_b2.trans (w2_congr fun _ _ => w2_some))
@[simp] theorem r_asgT {is : List Nat} {t_ : Tg Z} : w2 (evSL (.cons (.asgT is e) ss) env) Z t_ ↔ w2 (ev e env) fun r e1 => wtu r fun ds => ds.length = is.length ∧ w2 (evSL ss (setMany is ds e1)) Z := by
  rw [r_cons, evS]; exact w2_b2.trans (w2_congr fun _ _ => m_tu.trans (wtu_congr fun _ => w2_if))
theorem m_fr {r : Res} {f : List D → Option (α × β)} {Z : α → β → Prop} : w2 (match r with | .fr i => f i | _ => none) Z ↔ ∃ l, r = .fr l ∧ w2 (f l) Z := by
  cases r with
  | fr l => exact ⟨fun h => ⟨l, rfl, h⟩, fun ⟨_, e, h⟩ => by cases e; exact h⟩
  | _ => exact ⟨fun h => (w2_none.mp h).elim, fun ⟨_, e, _⟩ => nomatch e⟩
def wli (r : Res) (L : List D → Prop) (_ : Tg L := ⟨⟩) : Prop := match r with
  | .fr l => L l
  | .val (.list l) => L l
  | _ => False
@[simp] theorem wli_fr {l : List D} {L : List D → Prop} {t_ : Tg L} : wli (.fr l) L t_ ↔ L l := Iff.rfl
@[simp] theorem wli_val {l : List D} {L : List D → Prop} {t_ : Tg L} : wli (.val (.list l)) L t_ ↔ L l := Iff.rfl
@[simp] theorem r_asgL {is : List Nat} {t_ : Tg Z} : w2 (evSL (.cons (.asgL is e) ss) env) Z t_ ↔ w2 (ev e env) fun r e1 => wli r fun ds => ds.length = is.length ∧ w2 (evSL ss (setMany is ds e1)) Z := by
  rw [r_cons, evS]
  refine w2_b2.trans (w2_congr fun r e1 => ?_)
  cases r with
  | fr l => exact w2_if
  | pl i => exact ⟨fun h => (w2_none.mp h).elim, fun h => h.elim⟩
  | val d =>
    cases d with
    | list l => exact w2_if
    | _ => exact ⟨fun h => (w2_none.mp h).elim, fun h => h.elim⟩
@[simp] theorem r_par3 {j l : Nat} {t_ : Tg Z} : w2 (evSL (.cons (.par3 i j l a b c) ss) env) Z t_ ↔ w2 (ev a env) fun ra e1 => wkp e1 ra fun d e2 => w2 (ev b e2) fun rb e3 => wkp e3 rb fun e e4 => w2 (ev c e4) fun rc e5 => wkp e5 rc fun f e6 => ws e6 i (.val d) fun e7 => ws e7 j (.val e) fun e8 => ws e8 l (.val f) fun e9 => w2 (evSL ss e9) Z := by
  rw [r_cons, evS]
  refine w2_b2.trans ?_
  rw [r_Ks]
  refine w2_congr fun _ _ => w2_congr fun _ _ => ?_
  rw [r_Ks]
  refine w2_congr fun _ _ => w2_congr fun _ _ => ?_
  rw [r_Ks]
  refine w2_congr fun _ _ => w2_congr fun _ _ => ?_
  rw [r_K0]
  exact w2_some
def wvl (r : Res) (K : D → Prop) (_ : Tg K := ⟨⟩) : Prop := ∃ d, r = .val d ∧ K d
@[simp] theorem wvl_v {d : D} {K : D → Prop} {t_ : Tg K} : wvl (.val d) K t_ ↔ K d := ⟨fun ⟨_, e, h⟩ => by cases e; exact h, fun h => ⟨d, rfl, h⟩⟩
@[simp] theorem r_paro {j : Nat} {t_ : Tg Z} : w2 (evSL (.cons (.paro i j a b) ss) env) Z t_ ↔ w2 (ev a env) fun ra e1 => wfr ra fun l => w2 (ev b e1) fun rb e2 => wvl rb fun c => ws e2 i (.own l) fun e5 => ws e5 j (.val c) fun e6 => w2 (evSL ss e6) Z := by
  rw [r_cons, evS]
  refine w2_b2.trans (w2_congr fun ra e1 => ?_)
  cases ra with
  | fr l =>
    refine Iff.trans ?_ wfr_f.symm
    refine w2_b2.trans (w2_congr fun rb e2 => ?_)
    cases rb with
    | val d => exact w2_some.trans (wvl_v (K := fun c => ws e2 i (.own l) fun e5 => ws e5 j (.val c) fun e6 => w2 (evSL ss e6) Z) (t_ := ⟨⟩)).symm
    | fr l => exact ⟨fun h => (w2_none.mp h).elim, fun ⟨_, e, _⟩ => by cases e⟩
    | pl i => exact ⟨fun h => (w2_none.mp h).elim, fun ⟨_, e, _⟩ => by cases e⟩
  | val d => exact ⟨fun h => (w2_none.mp h).elim, fun ⟨_, e, _⟩ => by cases e⟩
  | pl i => exact ⟨fun h => (w2_none.mp h).elim, fun ⟨_, e, _⟩ => by cases e⟩
@[simp] theorem r_par {j : Nat} {t_ : Tg Z} : w2 (evSL (.cons (.par i j a b) ss) env) Z t_ ↔ w2 (ev a env) fun ra e1 => wkp e1 ra fun d e2 => w2 (ev b e2) fun rb e3 => wkp e3 rb fun c e4 => ws e4 i (.val d) fun e5 => ws e5 j (.val c) fun e6 => w2 (evSL ss e6) Z := by
  rw [r_cons, evS]
  refine w2_b2.trans ?_
  rw [r_Ks]
  refine w2_congr fun _ _ => w2_congr fun _ _ => ?_
  rw [r_Ks]
  refine w2_congr fun _ _ => w2_congr fun _ _ => ?_
  rw [r_K0]
  exact w2_some
theorem m_swp {i ja jb : Nat} {r : Res} {env : Nv} {Z : Fl → Nv → Prop} : w2 (match r with
    | .val (.tuple [x, y]) => (match putN i ja x env with
      | some env => (match putN i jb y env with
        | some env => some (Fl.nx, env)
        | none => none)
      | none => none)
    | _ => none) Z ↔ ∃ x y env1 env2, r = .val (.tuple [x, y]) ∧ putN i ja x env = some env1 ∧ putN i jb y env1 = some env2 ∧ Z .nx env2 := by
  split
  · rename_i x y
    cases h1 : putN i ja x env with
    | none => exact ⟨fun h => (w2_none.mp h).elim, fun ⟨_, _, _, _, e, h, _⟩ => by cases e; rw [h1] at h; cases h⟩
    | some env1 =>
      simp only
      cases h2 : putN i jb y env1 with
      | none => exact ⟨fun h => (w2_none.mp h).elim, fun ⟨_, _, _, _, e, h, h', _⟩ => by cases e; rw [h1] at h; cases h; rw [h2] at h'; cases h'⟩
      | some env2 =>
        simp only
        exact w2_some.trans ⟨fun h => ⟨x, y, env1, env2, rfl, h1, h2, h⟩, fun ⟨_, _, _, _, e, h, h', z⟩ => by cases e; rw [h1] at h; cases h; rw [h2] at h'; cases h'; exact z⟩
  · rename_i hn
    exact ⟨fun h => (w2_none.mp h).elim, fun ⟨x, y, _, _, e, _⟩ => (hn x y e).elim⟩
@[simp] theorem r_swp {i ja jb : Nat} {t_ : Tg Z} : w2 (evSL (.cons (.swp i ja jb e) ss) env) Z t_ ↔ w2 (ev e env) fun r e1 => ∃ x y env1 env2, r = .val (.tuple [x, y]) ∧ putN i ja x e1 = some env1 ∧ putN i jb y env1 = some env2 ∧ w2 (evSL ss env2) Z := by
  rw [r_cons, evS]; exact w2_b2.trans (w2_congr fun _ _ => m_swp)
@[simp] theorem r_setIx {t_ : Tg Z} : w2 (evSL (.cons (.setIx i a e) ss) env) Z t_ ↔ w2 (ev e env) fun r e1 => wkp e1 r fun d e2 => (wo (sAt e2 i) fun _ => True) ∧ w2 (ev a e2) fun ri e3 => wint ri fun k => wo (sAt e3 i) fun l => w1 (ixN l.length k) fun n => ws e3 i (.own (l.set n d)) fun e4 => w2 (evSL ss e4) Z := by
  rw [r_cons, evS]
  refine w2_b2.trans (w2_congr fun _ _ => w2_b2.trans (w2_congr fun _ e2 => ?_))
  rw [← isOwn_w]
  refine w2_iff.trans (and_congr Iff.rfl (w2_b2.trans (w2_congr fun _ _ => m_int.trans (wint_congr fun k => m_own.trans (wo_congr fun l => ?_)))))
  cases ixN l.length k with
  | none => exact ⟨fun h => (w2_none.mp h).elim, fun h => (w1_none.mp h).elim⟩
  | some n => rw [w1_some]; exact w2_some
@[simp] theorem r_exp {t_ : Tg Z} : w2 (evSL (.cons (.exp e) ss) env) Z t_ ↔ w2 (ev e env) fun _ e1 => w2 (evSL ss e1) Z := by
  rw [r_cons, evS]; exact w2_b2.trans (w2_congr fun _ _ => w2_some)
@[simp] theorem r_ret {t_ : Tg Z} : w2 (evSL (.cons (.ret e) ss) env) Z t_ ↔ w2 (ev e env) fun r e1 => Z (.rt r) e1 := by
  rw [r_cons, evS]; exact w2_b2.trans (w2_congr fun _ _ => w2_some)
@[simp] theorem r_retN {t_ : Tg Z} : w2 (evSL (.cons .retN ss) env) Z t_ ↔ Z (.rt (.val .none)) env := by
  rw [r_cons, evS, w2_some]; rfl
@[simp] theorem r_ife {x y : SL} {t_ : Tg Z} : w2 (evSL (.cons (.ife c x y) ss) env) Z t_ ↔ w2 (ev c env) fun r e1 => wbl r fun t => if t = true then w2 (evSL x e1) fun f e2 => wf f (w2 (evSL ss e2) Z) fun r => Z (.rt r) e2 else w2 (evSL y e1) fun f e2 => wf f (w2 (evSL ss e2) Z) fun r => Z (.rt r) e2 := by
  rw [r_cons, evS]
  have hc : w2 (evC false (fun env => ev c env) env) (fun t e1 => w2 (if t = true then evSL x e1 else evSL y e1) fun f e1 => wf f (w2 (evSL ss e1) Z) fun r => Z (.rt r) e1) ↔ w2 (ev c env) fun r e1 => wbl r fun t => w2 (if t = true then evSL x e1 else evSL y e1) fun f e1 => wf f (w2 (evSL ss e1) Z) fun r => Z (.rt r) e1 := by
    unfold evC
    rw [if_neg Bool.false_ne_true]
    exact w2_b2.trans (w2_congr fun _ _ => m_bl.trans (wbl_congr fun _ => w2_some))
  refine w2_b2.trans (hc.trans (w2_congr fun _ _ => wbl_congr fun t => ?_))
  cases t with
  | true => rw [if_pos rfl, if_pos rfl]
  | false => rw [if_neg Bool.false_ne_true, if_neg Bool.false_ne_true]
/-! ### defs -/
def wfin (np : Nat) (asg : List Nat) (f : Fl) (env : Nv) (Y : Res → List Slot → Prop) (_ : Tg Y := ⟨⟩) : Prop := w2 (fin np asg (some (f, env))) Y
variable {Y : Res → List Slot → Prop} {np : Nat} {asg : List Nat}
@[simp] theorem fin_nx {t_ : Tg Y} : wfin np asg .nx env Y t_ ↔ Y (.val .none) (outs asg 0 np env) := w2_some
@[simp] theorem fin_val {d : D} {t_ : Tg Y} : wfin np asg (.rt (.val d)) env Y t_ ↔ Y (.val d) (outs asg 0 np env) := w2_some
@[simp] theorem fin_fr {l : List D} {t_ : Tg Y} : wfin np asg (.rt (.fr l)) env Y t_ ↔ Y (.fr l) (outs asg 0 np env) := w2_some
theorem fin_pl {t_ : Tg Y} : wfin np asg (.rt (.pl i)) env Y t_ ↔ (i < np ∧ wkp env (.pl i) fun d e => Y (.val d) (outs asg 0 np e)) ∨ (¬ i < np ∧ wv (sAt env i) i fun r => match r with
    | .val d => Y (.val d) (outs asg 0 np env)
    | _ => wo (sAt env i) fun l => Y (.fr l) (outs asg 0 np env)) := by
  unfold wfin
  by_cases h : i < np
  · have e : fin np asg (some (.rt (.pl i), env)) = (keep env (.pl i)).map fun (d, env) => (.val d, outs asg 0 np env) := if_pos h
    rw [e, w2_map]
    exact ⟨fun q => .inl ⟨h, q⟩, fun q => q.elim (·.2) fun z => absurd h z.1⟩
  · have e : fin np asg (some (.rt (.pl i), env)) = (match sAt env i with
      | .val d => some (.val d, outs asg 0 np env)
      | .own l => some (.fr l, outs asg 0 np env)
      | _ => none) := if_neg h
    rw [e]
    refine Iff.trans ?_ (Iff.symm (or_iff_right fun z => h z.1))
    refine Iff.trans ?_ (Iff.symm (and_iff_right h))
    unfold wv wo
    cases sAt env i with
    | un => exact w2_none
    | val d => exact w2_some
    | own l => exact w2_some.trans ⟨fun z => ⟨l, rfl, z⟩, fun ⟨_, e, z⟩ => by cases e; exact z⟩
    | lent l => exact ⟨fun z => (w2_none.mp z).elim, fun ⟨_, e, _⟩ => nomatch e⟩
theorem r_run {name : Str} {ps : List Str} {n lvl : Nat} {body : SL} {as : List Slot} {t_ : Tg Y} : w2 ((mkFn name ps n lvl body).run as) Y t_ ↔ as.length = ps.length ∧ w2 (evSL body (as ++ List.replicate (n - ps.length) .un)) fun f e => wfin ps.length ((asgsL body).filter (· < ps.length)) f e Y := by
  show w2 (runB ps.length n _ body as) Y ↔ _
  unfold runB
  rw [w2_iff]
  refine and_congr Iff.rfl ?_
  cases evSL body (as ++ List.replicate (n - ps.length) .un) with
  | none => exact ⟨fun h => (w2_none.mp h).elim, fun h => (w2_none.mp h).elim⟩
  | some p => obtain ⟨f, e⟩ := p; rw [w2_some]; exact Iff.rfl
end

theorem run_ok {name : Str} {ps : List Str} {n lvl np k : Nat} {body : SL} {asg : List Nat} {as : List Slot} {Y : Res → List Slot → Prop} (h1 : ps.length = np) (h2 : n - np = k) (h3 : (asgsL body).filter (· < np) = asg) :
    w2 ((mkFn name ps n lvl body).run as) Y ↔ as.length = np ∧ w2 (evSL body (as ++ List.replicate k .un)) fun f e => wfin np asg f e Y := by
  subst h1 h2 h3
  exact r_run
/-! ### loops -/
section
variable {a b c e : E} {ss : SL} {s : S}
theorem forL_go {tg : D → Nv → Option Nv} {body : Nv → Option (Fl × Nv)} {Z : Fl → Nv → Prop} {its : List D} (I : Nat → Nv → Prop)
    (step : ∀ i d env, its[i]? = some d → I i env → w1 (tg d env) fun e1 => w2 (body e1) fun f e2 => wf f (I (i + 1) e2) fun r => Z (.rt r) e2) (done : ∀ env, I its.length env → Z .nx env) : ∀ (n i : Nat) (env : Nv), its.length - i = n → i ≤ its.length → I i env → w2 (forL tg body (its.drop i) env) Z
  | 0, i, env, hn, hi, h => by
    rw [List.drop_eq_nil_of_le (by omega)]
    have : i = its.length := by omega
    subst this
    exact w2_some.mpr (done env h)
  | n + 1, i, env, hn, hi, h => by
    have hlt : i < its.length := by omega
    rw [List.drop_eq_getElem_cons hlt, forL]
    obtain ⟨e1, q1, f, e2, q2, q3⟩ := step i _ env (List.getElem?_eq_getElem hlt) h
    refine w2_b1.mpr ⟨e1, q1, w2_b2.mpr ⟨f, e2, q2, ?_⟩⟩
    cases f with
    | nx => exact forL_go I step done n (i + 1) e2 (by omega) (by omega) q3
    | rt r => exact w2_some.mpr q3
theorem forL_rule {tg : D → Nv → Option Nv} {body : Nv → Option (Fl × Nv)} {Z : Fl → Nv → Prop} {its : List D} (I : Nat → Nv → Prop) (h : I 0 env)
    (step : ∀ i d env, its[i]? = some d → I i env → w1 (tg d env) fun e1 => w2 (body e1) fun f e2 => wf f (I (i + 1) e2) fun r => Z (.rt r) e2) (done : ∀ env, I its.length env → Z .nx env) : w2 (forL tg body its env) Z :=
  forL_go I step done its.length 0 env rfl (Nat.zero_le _) h
def wfor (tup : Bool) (tg : List Nat) (body : SL) (its : List D) (env : Nv) (ln : List Nat) (ss : SL) (Z : Fl → Nv → Prop) (_ : Tg Z := ⟨⟩) : Prop := w2 (forL (setTg tup tg) (fun env => evSL body env) its env) fun f e3 => wf f (w2 (evSL ss (unlendE e3 ln)) Z) fun r => Z (.rt r) (unlendE e3 ln)
theorem r_for {Z : Fl → Nv → Prop} {tup : Bool} {tg : List Nat} {ik : IK} {body : SL} {t_ : Tg Z} : w2 (evSL (.cons (.for_ tup tg ik a b body) ss) env) Z t_ ↔ w2 (ev a env) fun ra e1 => w2 (evD ik (fun e => ev b e) e1) fun rb e2 => w1 (rd e2 ra) fun d1 => w1 (rd e2 rb) fun d2 => w1 (iterV ik d1 d2) fun its =>
    lnIn (tg ++ asgsL body) (lend1 e2 ra ++ lend1 e2 rb) = false ∧ wfor tup tg body its (lendE e2 (lend1 e2 ra ++ lend1 e2 rb)) (lend1 e2 ra ++ lend1 e2 rb) ss Z := by
  rw [r_cons, evS]
  refine w2_b2.trans (w2_congr fun ra e1 => w2_b2.trans (w2_congr fun rb e2 => w2_b1.trans (w1_congr fun d1 => w2_b1.trans (w1_congr fun d2 => w2_b1.trans (w1_congr fun its => ?_)))))
  dsimp only
  cases lnIn (tg ++ asgsL body) (lend1 e2 ra ++ lend1 e2 rb) with
  | true => rw [if_pos rfl]; exact ⟨fun h => (w2_none.mp h).elim, fun h => nomatch h.1⟩
  | false =>
    rw [if_neg Bool.false_ne_true]
    refine Iff.trans w2_b2 ?_
    refine Iff.trans (w2_congr fun f e3 => w2_some) ?_
    exact ⟨fun h => ⟨rfl, h⟩, fun h => h.2⟩
theorem wfor_rule {Z : Fl → Nv → Prop} {tup : Bool} {tg : List Nat} {body : SL} {its : List D} {ln : List Nat} (I : Nat → Nv → Prop) (h : I 0 env)
    (step : ∀ i d env, its[i]? = some d → I i env → w1 (setTg tup tg d env) fun e1 => w2 (evSL body e1) fun f e2 => wf f (I (i + 1) e2) fun r => Z (.rt r) (unlendE e2 ln)) (done : ∀ env, I its.length env → w2 (evSL ss (unlendE env ln)) Z) : wfor tup tg body its env ln ss Z :=
  forL_rule I h step done
theorem wfor_nil {Z : Fl → Nv → Prop} {tup : Bool} {tg : List Nat} {body : SL} {ln : List Nat} {t_ : Tg Z} : wfor tup tg body [] env ln ss Z t_ ↔ w2 (evSL ss (unlendE env ln)) Z := w2_some
theorem wfor_cons {Z : Fl → Nv → Prop} {tup : Bool} {tg : List Nat} {body : SL} {d : D} {ds : List D} {ln : List Nat} {t_ : Tg Z} : wfor tup tg body (d :: ds) env ln ss Z t_ ↔ w1 (setTg tup tg d env) fun e1 => w2 (evSL body e1) fun f e2 => wf f (wfor tup tg body ds e2 ln ss Z) fun r => Z (.rt r) (unlendE e2 ln) := by
  unfold wfor
  rw [forL]
  refine w2_b1.trans (w1_congr fun e1 => w2_b2.trans (w2_congr fun f e2 => ?_))
  cases f with
  | nx => exact Iff.rfl
  | rt r => exact w2_some
def wforc (tup : Bool) (tg : List Nat) (pre : SL) (c : E) (x rest : SL) (its : List D) (env : Nv) (ln : List Nat) (ss : SL) (Z : Fl → Nv → Prop) (_ : Tg Z := ⟨⟩) : Prop := w2 (forL (setTg tup tg) (preF (fun env => evSL pre env) (ctF (evC false fun env => ev c env) (fun env => evSL x env) (fun env => evSL rest env))) its env) fun f e3 => wf f (w2 (evSL ss (unlendE e3 ln)) Z) fun r => Z (.rt r) (unlendE e3 ln)
theorem r_forc {Z : Fl → Nv → Prop} {tup : Bool} {tg : List Nat} {ik : IK} {n : Nat} {pre x rest : SL} {t_ : Tg Z} : w2 (evSL (.cons (.forc tup tg ik a b n pre c x rest) ss) env) Z t_ ↔ w2 (ev a env) fun ra e1 => w2 (evD ik (fun e => ev b e) e1) fun rb e2 => w1 (rd e2 ra) fun d1 => w1 (rd e2 rb) fun d2 => w1 (iterV ik d1 d2) fun its =>
    lnIn (tg ++ (asgsL pre ++ (asgsL x ++ asgsL rest))) (lend1 e2 ra ++ lend1 e2 rb) = false ∧ wforc tup tg pre c x rest its (lendE e2 (lend1 e2 ra ++ lend1 e2 rb)) (lend1 e2 ra ++ lend1 e2 rb) ss Z := by
  rw [r_cons, evS]
  refine w2_b2.trans (w2_congr fun ra e1 => w2_b2.trans (w2_congr fun rb e2 => w2_b1.trans (w1_congr fun d1 => w2_b1.trans (w1_congr fun d2 => w2_b1.trans (w1_congr fun its => ?_)))))
  dsimp only
  cases lnIn (tg ++ (asgsL pre ++ (asgsL x ++ asgsL rest))) (lend1 e2 ra ++ lend1 e2 rb) with
  | true => rw [if_pos rfl]; exact ⟨fun h => (w2_none.mp h).elim, fun h => nomatch h.1⟩
  | false =>
    rw [if_neg Bool.false_ne_true]
    refine Iff.trans w2_b2 ?_
    refine Iff.trans (w2_congr fun f e3 => w2_some) ?_
    exact ⟨fun h => ⟨rfl, h⟩, fun h => h.2⟩
theorem wforc_rule {Z : Fl → Nv → Prop} {tup : Bool} {tg : List Nat} {pre x rest : SL} {its : List D} {ln : List Nat} (I : Nat → Nv → Prop) (h : I 0 env)
    (step : ∀ i d env, its[i]? = some d → I i env → w1 (setTg tup tg d env) fun e1 => w2 (evSL pre e1) fun f e2 => wf f (w2 (ev c e2) fun r e3 => wbl r fun t => if t = true then w2 (evSL x e3) fun f e4 => wf f (I (i + 1) e4) fun r => Z (.rt r) (unlendE e4 ln) else w2 (evSL rest e3) fun f e4 => wf f (I (i + 1) e4) fun r => Z (.rt r) (unlendE e4 ln)) fun r => Z (.rt r) (unlendE e2 ln))
    (done : ∀ env, I its.length env → w2 (evSL ss (unlendE env ln)) Z) : wforc tup tg pre c x rest its env ln ss Z := by
  refine forL_rule (Z := fun f e3 => wf f (w2 (evSL ss (unlendE e3 ln)) Z) fun r => Z (.rt r) (unlendE e3 ln)) I h (fun i d env hd hI => w1_mono (step i d env hd hI) fun e1 h1 => ?_) done
  obtain ⟨f, e2, q1, h2⟩ := h1
  rw [preF]
  refine w2_b2.mpr ⟨f, e2, q1, ?_⟩
  cases f with
  | rt r => exact w2_some.mpr h2
  | nx =>
    obtain ⟨r, e3, q2, h3⟩ := h2
    obtain ⟨b, rfl, h3⟩ := h3
    have hc : evC false (fun env => ev c env) e2 = some (b, e3) := by simp only [evC, q2, Bool.false_eq_true, if_false, Option.bind_eq_bind, Option.bind_some]
    show w2 (ctF _ _ _ e2) _
    rw [ctF]
    refine w2_b2.mpr ⟨b, e3, hc, ?_⟩
    cases b with
    | true => exact h3
    | false => exact h3
theorem whl_go {Z : Fl → Nv → Prop} {body : SL} (I : Nat → Nv → Prop)
    (step : ∀ m env, I m env → w2 (ev c env) fun r e1 => wbl r fun b => if b = true then w2 (evSL body e1) fun f e2 => wf f (∃ m', m' < m ∧ I m' e2) fun r => Z (.rt r) e2 else Z .nx e1) : ∀ (m : Nat) (env : Nv), I m env → w2 (whlL (evC false fun env => ev c env) (fun env => evSL body env) env) Z := by
  intro m
  induction m using Nat.strongRecOn with
  | _ m ih =>
    intro env h
    obtain ⟨r, e1, q1, b, rfl, q⟩ := step m env h
    have hc : evC false (fun env => ev c env) env = some (b, e1) := by simp only [evC, q1, Bool.false_eq_true, if_false, Option.bind_eq_bind, Option.bind_some]
    rw [whlL]
    refine w2_b2.mpr ⟨b, e1, hc, ?_⟩
    dsimp only
    cases b with
    | false =>
      rw [if_neg Bool.false_ne_true] at q ⊢
      exact w2_some.mpr q
    | true =>
      rw [if_pos rfl] at q ⊢
      obtain ⟨f, e2, q2, q3⟩ := q
      refine w2_b2.mpr ⟨f, e2, q2, ?_⟩
      cases f with
      | nx =>
        obtain ⟨m', hm, q4⟩ := q3
        exact ih m' hm e2 q4
      | rt r => exact w2_some.mpr q3
theorem r_whl {Z : Fl → Nv → Prop} {body : SL} (I : Nat → Nv → Prop) (m : Nat) (h : I m env)
    (step : ∀ m env, I m env → w2 (ev c env) fun r e1 => wbl r fun b => if b = true then w2 (evSL body e1) fun f e2 => wf f (∃ m', m' < m ∧ I m' e2) fun r => Z (.rt r) e2 else w2 (evSL ss e1) Z) : w2 (evSL (.cons (.whl c body) ss) env) Z := by
  rw [r_cons, evS]
  exact whl_go I step m env h
theorem lc_go {tg : D → Nv → Option Nv} {c : Nv → Option (Bool × Nv)} {el : Nv → Option (D × Nv)} {wp : Nv → Nv} {Z : List D → Nv → Prop} {its : List D} (I : Nat → List D → Nv → Prop)
    (step : ∀ i d acc env, its[i]? = some d → I i acc env → w1 (tg d env) fun e1 => w2 (c e1) fun b e2 => if b = true then w2 (el e2) fun y e3 => acc.length < big ∧ I (i + 1) (acc ++ [y]) (wp e3) else I (i + 1) acc (wp e2)) (done : ∀ acc env, I its.length acc env → Z acc env) :
    ∀ (n i : Nat) (acc : List D) (env : Nv), its.length - i = n → i ≤ its.length → I i acc env → w2 (lcLoop tg c el wp (its.drop i) acc env) Z
  | 0, i, acc, env, hn, hi, h => by
    rw [List.drop_eq_nil_of_le (by omega)]
    have : i = its.length := by omega
    subst this
    exact w2_some.mpr (done acc env h)
  | n + 1, i, acc, env, hn, hi, h => by
    have hlt : i < its.length := by omega
    rw [List.drop_eq_getElem_cons hlt, lcLoop]
    obtain ⟨e1, q1, b, e2, q2, q3⟩ := step i _ acc env (List.getElem?_eq_getElem hlt) h
    refine w2_b1.mpr ⟨e1, q1, w2_b2.mpr ⟨b, e2, q2, ?_⟩⟩
    dsimp only
    cases b with
    | false =>
      rw [if_neg Bool.false_ne_true] at q3 ⊢
      exact lc_go I step done n (i + 1) acc _ (by omega) (by omega) q3
    | true =>
      rw [if_pos rfl] at q3 ⊢
      obtain ⟨y, e3, q4, q5, q6⟩ := q3
      refine w2_b2.mpr ⟨y, e3, q4, ?_⟩
      dsimp only
      rw [if_pos q5]
      exact lc_go I step done n (i + 1) _ _ (by omega) (by omega) q6
def wlc (tup : Bool) (tg : List Nat) (c e : E) (vs : List Nat) (its : List D) (env : Nv) (Z : List D → Nv → Prop) (_ : Tg Z := ⟨⟩) : Prop :=
  w2 (lcLoop (setTg tup tg) (evC c.isNo fun env => ev c env) (fun env => do let (r, env) ← ev e env; keep env r) (fun env => wipeE env vs) its [] env) Z
theorem r_lc {own : List (Str × Nat)} {tup : Bool} {tg : List Nat} {ik : IK} {t_ : Tg P} : w2 (ev (.lc own tup tg ik a b c e) env) P t_ ↔ w2 (ev a env) fun ra e1 => w2 (evD ik (fun e => ev b e) e1) fun rb e2 => w1 (rd e2 ra) fun d1 => w1 (rd e2 rb) fun d2 => w1 (iterV ik d1 d2) fun its =>
    (own.map (·.2)).any (fun v => !plainS (sAt (lendE e2 (lend1 e2 ra ++ lend1 e2 rb)) v)) = false ∧ wlc tup tg c e (own.map (·.2)) its (wipeE (lendE e2 (lend1 e2 ra ++ lend1 e2 rb)) (own.map (·.2))) fun ds e3 => P (.fr ds) (unlendE (backE (lendE e2 (lend1 e2 ra ++ lend1 e2 rb)) e3 (own.map (·.2))) (lend1 e2 ra ++ lend1 e2 rb)) := by
  rw [ev]
  refine w2_b2.trans (w2_congr fun ra e1 => w2_b2.trans (w2_congr fun rb e2 => w2_b1.trans (w1_congr fun d1 => w2_b1.trans (w1_congr fun d2 => w2_b1.trans (w1_congr fun its => ?_)))))
  dsimp only
  cases (own.map (·.2)).any (fun v => !plainS (sAt (lendE e2 (lend1 e2 ra ++ lend1 e2 rb)) v)) with
  | true => rw [if_pos rfl]; exact ⟨fun h => (w2_none.mp h).elim, fun h => nomatch h.1⟩
  | false =>
    rw [if_neg Bool.false_ne_true]
    refine Iff.trans w2_b2 ?_
    refine Iff.trans (w2_congr fun f e3 => w2_some) ?_
    exact ⟨fun h => ⟨rfl, h⟩, fun h => h.2⟩
def wC (no : Bool) (c : E) (env : Nv) (Z : Bool → Nv → Prop) (_ : Tg Z := ⟨⟩) : Prop := w2 (evC no (fun env => ev c env) env) Z
@[simp] theorem wC_t {Z : Bool → Nv → Prop} {t_ : Tg Z} : wC true c env Z t_ ↔ Z true env := w2_some
@[simp] theorem wC_f {Z : Bool → Nv → Prop} {t_ : Tg Z} : wC false c env Z t_ ↔ w2 (ev c env) fun r e1 => wbl r fun b => Z b e1 := by
  unfold wC evC
  rw [if_neg Bool.false_ne_true]
  exact w2_b2.trans (w2_congr fun _ _ => m_bl.trans (wbl_congr fun _ => w2_some))
theorem wlc_rule {tup : Bool} {tg vs : List Nat} {its : List D} {Z : List D → Nv → Prop} (I : Nat → List D → Nv → Prop) (h : I 0 [] env)
    (step : ∀ i d acc env, its[i]? = some d → I i acc env → w1 (setTg tup tg d env) fun e1 => wC c.isNo c e1 fun b e2 => if b = true then w2 (ev e e2) fun r e3 => wkp e3 r fun y e4 => acc.length < big ∧ I (i + 1) (acc ++ [y]) (wipeE e4 vs) else I (i + 1) acc (wipeE e2 vs))
    (done : ∀ acc env, I its.length acc env → Z acc env) : wlc tup tg c e vs its env Z := by
  refine lc_go I (fun i d acc env hd hI => w1_mono (step i d acc env hd hI) fun e1 q => w2_mono q fun b e2 q => ?_) done its.length 0 [] env rfl (Nat.zero_le _) h
  cases b with
  | false => rw [if_neg Bool.false_ne_true] at q ⊢; exact q
  | true =>
    rw [if_pos rfl] at q ⊢
    exact w2_b2.mpr (w2_mono q fun r e3 q => q)
end
theorem wlc_ints {e0 : Nv} {tup : Bool} {c e : E} {tg vs : List Nat} {its : List D} {Z : List D → Nv → Prop} (v : Nat → Int) {n : Nat} (hn : its.length = n) (hb : n ≤ 1000000)
    (step : ∀ i d, its[i]? = some d → w1 (setTg tup tg d e0) fun e1 => wC c.isNo c e1 fun b e2 => b = true ∧ w2 (ev e e2) fun r e3 => wkp e3 r fun y e4 => y = .int (v i) ∧ wipeE e4 vs = e0)
    (done : Z (((List.range n).map v).map .int) e0) : wlc tup tg c e vs its e0 Z := by
  refine wlc_rule (fun i acc env => Iv (acc = ((List.range i).map v).map .int ∧ env = e0)) ⟨rfl, rfl⟩ ?_ ?_
  · rintro i d acc env hd ⟨rfl, rfl⟩
    have hi := (List.getElem?_eq_some_iff.mp hd).1
    refine w1_mono (step i d hd) fun e1 h => w2_mono h ?_
    rintro b e2 ⟨rfl, h⟩
    rw [if_pos rfl]
    refine w2_mono h fun r e3 h => w2_mono h ?_
    rintro y e4 ⟨rfl, h⟩
    refine ⟨by rw [List.length_map, List.length_map, List.length_range]; unfold big; omega, ?_, h⟩
    rw [List.range_succ, List.map_append, List.map_append]; rfl
  · rintro acc env ⟨rfl, rfl⟩
    rw [hn]
    exact done
theorem wlc_bools {e0 : Nv} {tup : Bool} {c e : E} {tg vs : List Nat} {its : List D} {Z : List D → Nv → Prop} (v : Nat → Bool) {n : Nat} (hn : its.length = n) (hb : n ≤ 1000000)
    (step : ∀ i d, its[i]? = some d → w1 (setTg tup tg d e0) fun e1 => wC c.isNo c e1 fun b e2 => b = true ∧ w2 (ev e e2) fun r e3 => wkp e3 r fun y e4 => y = .bool (v i) ∧ wipeE e4 vs = e0)
    (done : Z (((List.range n).map v).map .bool) e0) : wlc tup tg c e vs its e0 Z := by
  refine wlc_rule (fun i acc env => Iv (acc = ((List.range i).map v).map .bool ∧ env = e0)) ⟨rfl, rfl⟩ ?_ ?_
  · rintro i d acc env hd ⟨rfl, rfl⟩
    have hi := (List.getElem?_eq_some_iff.mp hd).1
    refine w1_mono (step i d hd) fun e1 h => w2_mono h ?_
    rintro b e2 ⟨rfl, h⟩
    rw [if_pos rfl]
    refine w2_mono h fun r e3 h => w2_mono h ?_
    rintro y e4 ⟨rfl, h⟩
    refine ⟨by rw [List.length_map, List.length_map, List.length_range]; unfold big; omega, ?_, h⟩
    rw [List.range_succ, List.map_append, List.map_append]; rfl
  · rintro acc env ⟨rfl, rfl⟩
    rw [hn]
    exact done
theorem wlc_vals {e0 : Nv} {tup : Bool} {c e : E} {tg vs : List Nat} {its : List D} {Z : List D → Nv → Prop} (v : Nat → D) {n : Nat} (hn : its.length = n) (hb : n ≤ 1000000)
    (step : ∀ i d, its[i]? = some d → w1 (setTg tup tg d e0) fun e1 => wC c.isNo c e1 fun b e2 => b = true ∧ w2 (ev e e2) fun r e3 => wkp e3 r fun y e4 => y = v i ∧ wipeE e4 vs = e0)
    (done : Z ((List.range n).map v) e0) : wlc tup tg c e vs its e0 Z := by
  refine wlc_rule (fun i acc env => Iv (acc = (List.range i).map v ∧ env = e0)) ⟨rfl, rfl⟩ ?_ ?_
  · rintro i d acc env hd ⟨rfl, rfl⟩
    have hi := (List.getElem?_eq_some_iff.mp hd).1
    refine w1_mono (step i d hd) fun e1 h => w2_mono h ?_
    rintro b e2 ⟨rfl, h⟩
    rw [if_pos rfl]
    refine w2_mono h fun r e3 h => w2_mono h ?_
    rintro y e4 ⟨rfl, h⟩
    refine ⟨by rw [List.length_map, List.length_range]; unfold big; omega, ?_, h⟩
    rw [List.range_succ, List.map_append]; rfl
  · rintro acc env ⟨rfl, rfl⟩
    rw [hn]
    exact done
theorem wlc_some {e0 : Nv} {tup : Bool} {c e : E} {tg vs : List Nat} {its : List D} {Z : List D → Nv → Prop} (v : Nat → Option D) {n : Nat} (hn : its.length = n) (hb : n ≤ 1000000)
    (step : ∀ i d, its[i]? = some d → w1 (setTg tup tg d e0) fun e1 => wC c.isNo c e1 fun b e2 => if b = true then w2 (ev e e2) fun r e3 => wkp e3 r fun y e4 => v i = some y ∧ wipeE e4 vs = e0 else v i = none ∧ wipeE e2 vs = e0)
    (done : Z ((List.range n).filterMap v) e0) : wlc tup tg c e vs its e0 Z := by
  refine wlc_rule (fun i acc env => Iv (acc = (List.range i).filterMap v ∧ env = e0)) ⟨rfl, rfl⟩ ?_ ?_
  · rintro i d acc env hd ⟨rfl, rfl⟩
    have hi := (List.getElem?_eq_some_iff.mp hd).1
    refine w1_mono (step i d hd) fun e1 h => w2_mono h ?_
    intro b e2 h
    cases b with
    | false =>
      rw [if_neg Bool.false_ne_true] at h ⊢
      refine ⟨?_, h.2⟩
      rw [List.range_succ, List.filterMap_append, List.filterMap_cons, h.1]; simp
    | true =>
      rw [if_pos rfl] at h ⊢
      refine w2_mono h fun r e3 h => w2_mono h ?_
      rintro y e4 ⟨h1, h⟩
      have hle := List.length_filterMap_le v (List.range i)
      rw [List.length_range] at hle
      refine ⟨by unfold big; omega, ?_, h⟩
      rw [List.range_succ, List.filterMap_append, List.filterMap_cons, h1]; simp
  · rintro acc env ⟨rfl, rfl⟩
    rw [hn]
    exact done
/-! ### operators -/
section
variable {a b : Int} {l m : List D} {x y : Str}
@[simp] theorem op_add' : opv .Add (.int a) (.int b) = some (.val (.int (a + b))) := rfl
@[simp] theorem op_addL : opv .Add (.list l) (.list m) = if l.length + m.length ≤ big then some (.fr (l ++ m)) else none := rfl
@[simp] theorem op_addT : opv .Add (.tuple l) (.tuple m) = if l.length + m.length ≤ big then some (.val (.tuple (l ++ m))) else none := rfl
@[simp] theorem op_sub' : opv .Sub (.int a) (.int b) = some (.val (.int (a - b))) := rfl
@[simp] theorem op_mul' : opv .Mult (.int a) (.int b) = if mulOk a b then some (.val (.int (a * b))) else none := rfl
@[simp] theorem op_mulL : opv .Mult (.list l) (.int b) = if -1000000 ≤ b ∧ b ≤ 1000000 ∧ l.length * b.toNat ≤ big then some (.fr (List.replicate b.toNat l).flatten) else none := rfl
@[simp] theorem op_mulT : opv .Mult (.tuple l) (.int b) = if l ≠ [] ∧ 0 ≤ b ∧ b ≤ 2000 ∧ l.length ≤ 1000 then some (.val (.tuple (List.replicate b.toNat l).flatten)) else none := rfl
@[simp] theorem op_div' : opv .FloorDiv (.int a) (.int b) = if b ≠ 0 ∧ b.natAbs.log2 < 9000 then some (.val (.int (a.fdiv b))) else none := rfl
@[simp] theorem op_mod' : opv .Mod (.int a) (.int b) = if b ≠ 0 then some (.val (.int (a.fmod b))) else none := rfl
@[simp] theorem op_pow' : opv .Pow (.int a) (.int b) = if 0 ≤ b ∧ b ≤ 1000000 ∧ a.natAbs < 2 ^ 64 then some (.val (.int (a ^ b.toNat))) else none := rfl
@[simp] theorem op_shl' : opv .LShift (.int a) (.int b) = if 0 ≤ b ∧ b ≤ 1000000 ∧ a.natAbs < 2 ^ 64 then some (.val (.int (a * 2 ^ b.toNat))) else none := rfl
@[simp] theorem op_shr' : opv .RShift (.int a) (.int b) = if 0 ≤ b then some (.val (.int (a / 2 ^ b.toNat))) else none := rfl
@[simp] theorem op_and' : opv .BitAnd (.int a) (.int b) = some (.val (.int (Builtin.bitAnd a b))) := rfl
@[simp] theorem op_or' : opv .BitOr (.int a) (.int b) = some (.val (.int (Builtin.bitOr a b))) := rfl
@[simp] theorem op_xor' : opv .BitXor (.int a) (.int b) = some (.val (.int (Builtin.bitXor a b))) := rfl
@[simp] theorem cm_lt : cmpv .Lt (.int a) (.int b) = some (decide (a < b)) := rfl
@[simp] theorem cm_le : cmpv .LtE (.int a) (.int b) = some (decide (a ≤ b)) := rfl
@[simp] theorem cm_gt : cmpv .Gt (.int a) (.int b) = some (decide (b < a)) := rfl
@[simp] theorem cm_ge : cmpv .GtE (.int a) (.int b) = some (decide (b ≤ a)) := rfl
@[simp] theorem cm_eq : cmpv .Eq (.int a) (.int b) = some (decide (a = b)) := rfl
@[simp] theorem cm_ne : cmpv .NotEq (.int a) (.int b) = some (!decide (a = b)) := rfl
@[simp] theorem cm_eqS : cmpv .Eq (.str x) (.str y) = some (decide (x = y)) := rfl
@[simp] theorem cm_neDi {i : Int} : cmpv .NotEq (.dict []) (.int i) = some true := rfl
@[simp] theorem cm_eqDs {i : Str} : cmpv .Eq (.dict []) (.str i) = some false := rfl
@[simp] theorem cm_neDs {i : Str} : cmpv .NotEq (.dict []) (.str i) = some true := rfl
@[simp] theorem cm_neS : cmpv .NotEq (.str x) (.str y) = some (!decide (x = y)) := rfl
@[simp] theorem cm_eqT : cmpv .Eq (.tuple l) (.tuple m) = (eqv (.tuple l) (.tuple m)).or (eqv0 l m) := rfl
@[simp] theorem cm_neT : cmpv .NotEq (.tuple l) (.tuple m) = (eqv (.tuple l) (.tuple m)).map not := rfl
@[simp] theorem cm_eqL : cmpv .Eq (.list l) (.list m) = eqv (.list l) (.list m) := rfl
@[simp] theorem cm_neL : cmpv .NotEq (.list l) (.list m) = (eqv (.list l) (.list m)).map not := rfl
@[simp] theorem cm_eqB {a b : Bool} : cmpv .Eq (.bool a) (.bool b) = some (decide (a = b)) := by cases a <;> cases b <;> rfl
@[simp] theorem cm_neB {a b : Bool} : cmpv .NotEq (.bool a) (.bool b) = some (!decide (a = b)) := by cases a <;> cases b <;> rfl
@[simp] theorem cm_isNN : cmpv .Is .none .none = some true := rfl
@[simp] theorem cm_isNI : cmpv .Is (.int a) .none = some false := rfl
@[simp] theorem cm_isNB {c : Bool} : cmpv .Is (.bool c) .none = some false := rfl
@[simp] theorem cm_isNT : cmpv .Is (.tuple l) .none = some false := rfl
@[simp] theorem cm_isNL : cmpv .Is (.list l) .none = some false := rfl
@[simp] theorem cm_isNS : cmpv .Is (.str x) .none = some false := rfl
@[simp] theorem cm_isND {l : List (D × D)} : cmpv .Is (.dict l) .none = some false := rfl
@[simp] theorem cm_noND {l : List (D × D)} : cmpv .IsNot (.dict l) .none = some true := rfl
@[simp] theorem cm_noNN : cmpv .IsNot .none .none = some false := rfl
@[simp] theorem cm_noNI : cmpv .IsNot (.int a) .none = some true := rfl
@[simp] theorem cm_noNB {c : Bool} : cmpv .IsNot (.bool c) .none = some true := rfl
@[simp] theorem cm_noNT : cmpv .IsNot (.tuple l) .none = some true := rfl
@[simp] theorem cm_noNL : cmpv .IsNot (.list l) .none = some true := rfl
@[simp] theorem cm_noNS : cmpv .IsNot (.str x) .none = some true := rfl
@[simp] theorem cm_isBB {c e : Bool} : cmpv .Is (.bool c) (.bool e) = some (decide (c = e)) := rfl
@[simp] theorem cm_noBB {c e : Bool} : cmpv .IsNot (.bool c) (.bool e) = some (!decide (c = e)) := rfl
@[simp] theorem ix_t {i : Int} : ixv (.tuple l) (.int i) = atI l i := rfl
@[simp] theorem ix_l {i : Int} : ixv (.list l) (.int i) = atI l i := rfl
@[simp] theorem sl_t {lo hi : Option Int} : slv (.tuple l) lo hi = some (.val (.tuple (cutD l lo hi))) := rfl
@[simp] theorem sl_l {lo hi : Option Int} : slv (.list l) lo hi = some (.fr (cutD l lo hi)) := rfl
@[simp] theorem b_lenL : b1v .len (.list l) = some (.val (.int l.length)) := rfl
@[simp] theorem b_lenT : b1v .len (.tuple l) = some (.val (.int l.length)) := rfl
@[simp] theorem b_intI : b1v .int (.int a) = some (.val (.int a)) := rfl
@[simp] theorem b_intB {c : Bool} : b1v .int (.bool c) = some (.val (.int (if c then 1 else 0))) := rfl
@[simp] theorem b_abs : b1v .abs (.int a) = some (.val (.int a.natAbs)) := rfl
@[simp] theorem b_lstL : b1v .lst (.list l) = some (.fr l) := rfl
@[simp] theorem b_lstT : b1v .lst (.tuple l) = some (.fr l) := rfl
@[simp] theorem b_tupL : b1v .tup (.list l) = some (.val (.tuple l)) := rfl
@[simp] theorem b_tupT : b1v .tup (.tuple l) = some (.val (.tuple l)) := rfl
@[simp] theorem b_min2 : b2v .min (.int a) (.int b) = some (.val (.int (if b < a then b else a))) := rfl
@[simp] theorem b_max2 : b2v .max (.int a) (.int b) = some (.val (.int (if b > a then b else a))) := rfl
theorem intsD_map : ∀ ns : List Int, intsD (ns.map .int) = some ns
  | [] => rfl
  | n :: ns => by rw [List.map_cons, intsD, intsD_map ns]; rfl
theorem srtKv_int (ns : List Int) (l : List D) : srtKv (ns.map .int) l = some (srtIK (ns.zip l)) := by
  unfold srtKv
  rw [intsD_map]
@[simp] theorem b_sum {ns : List Int} : b1v .sum (.list (ns.map .int)) = some (.val (.int ns.sum)) := by
  show (intsD (ns.map .int)).map _ = _
  rw [intsD_map]; rfl
@[simp] theorem b_sumT {ns : List Int} : b1v .sum (.tuple (ns.map .int)) = some (.val (.int ns.sum)) := by
  show (intsD (ns.map .int)).map _ = _
  rw [intsD_map]; rfl
@[simp] theorem b_mx3 {c : Int} : mx3v (.int a) (.int b) (.int c) = some (.val (.int (max3 a b c))) := rfl
@[simp] theorem b_srv {ns : List Int} : srvv (.list (ns.map .int)) = some (.fr ((sortR ns).map .int)) := by
  show (intsD (ns.map .int)).map _ = _
  rw [intsD_map]; rfl
theorem b_minL {ns : List Int} (h : ns ≠ []) : b1v .min (.list (ns.map .int)) = some (.val (.int (lMin ns))) := by
  show (intsD (ns.map .int)).bind _ = _
  rw [intsD_map]; exact if_neg h
theorem b_minT {ns : List Int} (h : ns ≠ []) : b1v .min (.tuple (ns.map .int)) = some (.val (.int (lMin ns))) := by
  show (intsD (ns.map .int)).bind _ = _
  rw [intsD_map]; exact if_neg h
theorem b_maxL {ns : List Int} (h : ns ≠ []) : b1v .max (.list (ns.map .int)) = some (.val (.int (lMax ns))) := by
  show (intsD (ns.map .int)).bind _ = _
  rw [intsD_map]; exact if_neg h
theorem b_maxT {ns : List Int} (h : ns ≠ []) : b1v .max (.tuple (ns.map .int)) = some (.val (.int (lMax ns))) := by
  show (intsD (ns.map .int)).bind _ = _
  rw [intsD_map]; exact if_neg h
@[simp] theorem cm_inL {d : D} : cmpv .In d (.list l) = inv d (.list l) l := by cases d <;> rfl
@[simp] theorem cm_inT {d : D} : cmpv .In d (.tuple l) = inv d (.tuple l) l := by cases d <;> rfl
@[simp] theorem cm_niL {d : D} : cmpv .NotIn d (.list l) = (inv d (.list l) l).map not := by cases d <;> rfl
@[simp] theorem cm_niT {d : D} : cmpv .NotIn d (.tuple l) = (inv d (.tuple l) l).map not := by cases d <;> rfl
@[simp] theorem isNo_dct : E.isNo .dct = false := rfl
@[simp] theorem b_srtL {ns : List Int} : b1v .srt (.list (ns.map .int)) = some (.fr ((sortI ns).map .int)) := by
  simp only [b1v, intsD_map]
theorem pairsD_map : ∀ ps : List (Int × Int), pairsD (ps.map pairD) = some ps
  | [] => rfl
  | p :: ps => by
    show (pairsD (ps.map pairD)).map _ = _
    rw [pairsD_map ps]; rfl
theorem b_srtP {ps : List (Int × Int)} : b1v .srt (.list (ps.map pairD)) = some (.fr ((sortP ps).map pairD)) := by
  cases ps with
  | nil =>
    have h := b_srtL (ns := [])
    have e1 : sortI [] = [] := by simp [sortI]
    have e2 : sortP [] = [] := by simp [sortP]
    rw [e1] at h
    rw [e2]
    exact h
  | cons p ps =>
    have h := pairsD_map (p :: ps)
    have e : intsD ((p :: ps).map pairD) = none := rfl
    simp only [b1v, e, h, Option.map_some]
@[simp] theorem b_srtT {ns : List Int} : b1v .srt (.tuple (ns.map .int)) = some (.fr ((sortI ns).map .int)) := by
  show (intsD (ns.map .int)).map _ = _
  rw [intsD_map]; rfl
theorem atI_nn {α : Type} {l : List α} {i : Int} (h0 : 0 ≤ i) : atI l i = l[i.toNat]? := by
  unfold atI ixN
  rw [if_pos h0]
  by_cases h : i < l.length
  · rw [if_pos h]; rfl
  · rw [if_neg h, List.getElem?_eq_none (by omega)]; rfl
theorem atI_lit {α : Type} {l : List α} {n : Nat} : atI l (n : Int) = l[n]? := by
  rw [atI_nn (by omega), Int.toNat_natCast]
@[simp] theorem atI_0 {α : Type} {l : List α} : atI l (0 : Int) = l[0]? := atI_lit (n := 0)
@[simp] theorem atI_1 {α : Type} {l : List α} : atI l (1 : Int) = l[1]? := atI_lit (n := 1)
@[simp] theorem atI_2 {α : Type} {l : List α} : atI l (2 : Int) = l[2]? := atI_lit (n := 2)
@[simp] theorem atI_3 {α : Type} {l : List α} : atI l (3 : Int) = l[3]? := atI_lit (n := 3)
@[simp] theorem atI_4 {α : Type} {l : List α} : atI l (4 : Int) = l[4]? := atI_lit (n := 4)
@[simp] theorem atI_5 {α : Type} {l : List α} : atI l (5 : Int) = l[5]? := atI_lit (n := 5)
@[simp] theorem atI_6 {α : Type} {l : List α} : atI l (6 : Int) = l[6]? := atI_lit (n := 6)
@[simp] theorem atI_7 {α : Type} {l : List α} : atI l (7 : Int) = l[7]? := atI_lit (n := 7)
@[simp] theorem atI_8 {α : Type} {l : List α} : atI l (8 : Int) = l[8]? := atI_lit (n := 8)
@[simp] theorem atI_9 {α : Type} {l : List α} : atI l (9 : Int) = l[9]? := atI_lit (n := 9)
@[simp] theorem atI_10 {α : Type} {l : List α} : atI l (10 : Int) = l[10]? := atI_lit (n := 10)
@[simp] theorem atI_11 {α : Type} {l : List α} : atI l (11 : Int) = l[11]? := atI_lit (n := 11)
@[simp] theorem atI_12 {α : Type} {l : List α} : atI l (12 : Int) = l[12]? := atI_lit (n := 12)
theorem mulOk_l (h : a.natAbs < 18446744073709551616) : mulOk a b = true := by simp [mulOk, h]
theorem mulOk_r (h : b.natAbs < 18446744073709551616) : mulOk a b = true := by simp [mulOk, h]
theorem lnIn_nil {vs : List Nat} : lnIn vs [] = false := rfl
@[simp] theorem mulOk_r' (h : b.natAbs < 18446744073709551616) : mulOk a b = true := mulOk_r h
@[simp] theorem mulOk_fm {m : Int} (h0 : 0 < m) (h1 : m ≤ 18446744073709551616) : mulOk (a.fmod m) b = true := by
  refine mulOk_l ?_
  have h2 := Int.fmod_nonneg_of_pos a h0
  have h3 := Int.fmod_lt_of_pos a h0
  omega
@[simp] theorem log2_s {n : Nat} (h : n < 18446744073709551616) : n.log2 < 9000 := by
  by_cases h0 : n = 0
  · subst h0; decide
  · have : n.log2 < 64 := (Nat.log2_lt h0).mpr (by omega)
    omega
theorem log2_of {n k : Nat} (h : n < 2 ^ k) (hk : k ≤ 9000) : n.log2 < 9000 := by
  by_cases h0 : n = 0
  · subst h0; decide
  · have := (Nat.log2_lt h0).mpr h
    omega
@[simp] theorem outs_0 {asg : List Nat} {k : Nat} {env : Nv} : outs asg k 0 env = [] := rfl
@[simp] theorem outs_s {asg : List Nat} {k n : Nat} {env : Nv} : outs asg k (n + 1) env = (if asg.contains k then .un else sAt env k) :: outs asg (k + 1) n env := rfl
@[simp] theorem dupPl_0 : dupPl [] = false := rfl
@[simp] theorem dupPl_v {d : D} {r : List Res} : dupPl (.val d :: r) = dupPl r := rfl
@[simp] theorem dupPl_f {l : List D} {r : List Res} : dupPl (.fr l :: r) = dupPl r := rfl
@[simp] theorem dupPl_p {i : Nat} {r : List Res} : dupPl (.pl i :: r) = ((r.any fun | .pl j => i == j | _ => false) || dupPl r) := rfl
@[simp] theorem arg_0 {asg : List Nat} {k : Nat} {env : Nv} : argS asg k env [] = some [] := rfl
@[simp] theorem arg_v {asg : List Nat} {k : Nat} {env : Nv} {d : D} {r : List Res} : argS asg k env (.val d :: r) = (argS asg (k + 1) env r).map (.val d :: ·) := rfl
@[simp] theorem arg_f {asg : List Nat} {k : Nat} {env : Nv} {l : List D} {r : List Res} : argS asg k env (.fr l :: r) = (argS asg (k + 1) env r).map (.own l :: ·) := rfl
@[simp] theorem arg_p {asg : List Nat} {k i : Nat} {env : Nv} {r : List Res} : argS asg k env (.pl i :: r) = match sAt env i with
    | .un => none
    | .val d => (argS asg (k + 1) env r).map (.val d :: ·)
    | .lent l => (argS asg (k + 1) env r).map (.lent l :: ·)
    | .own l => (argS asg (k + 1) env r).map ((if asg.contains k then .lent l else .own l) :: ·) := rfl
@[simp] theorem put_0 {asg : List Nat} {k : Nat} {e0 env : Nv} {ss : List Slot} : putB asg e0 k env [] ss = env := by cases ss <;> rfl
@[simp] theorem put_v {asg : List Nat} {k : Nat} {e0 env : Nv} {s : Slot} {ss : List Slot} {d : D} {r : List Res} : putB asg e0 k env (.val d :: r) (s :: ss) = putB asg e0 (k + 1) env r ss := rfl
@[simp] theorem put_f {asg : List Nat} {k : Nat} {e0 env : Nv} {s : Slot} {ss : List Slot} {d : List D} {r : List Res} : putB asg e0 k env (.fr d :: r) (s :: ss) = putB asg e0 (k + 1) env r ss := rfl
@[simp] theorem put_p {asg : List Nat} {k i : Nat} {e0 env : Nv} {s : Slot} {ss : List Slot} {r : List Res} : putB asg e0 k env (.pl i :: r) (s :: ss) = match sAt e0 i with
    | .own _ => putB asg e0 (k + 1) (if asg.contains k then env else env.set i s) r ss
    | _ => putB asg e0 (k + 1) env r ss := rfl
@[simp] theorem isNo_no : E.isNo .no = true := rfl
@[simp] theorem isNo_cst {d : D} : E.isNo (.cst d) = false := rfl
@[simp] theorem isNo_var {i : Nat} : E.isNo (.var i) = false := rfl
@[simp] theorem isNo_bin {o : Operator} {a b : E} : E.isNo (.bin o a b) = false := rfl
@[simp] theorem isNo_cmp {o : CmpOp} {a b : E} : E.isNo (.cmp o a b) = false := rfl
@[simp] theorem isNo_bop {o : Bool} {a : EL} : E.isNo (.bop o a) = false := rfl
@[simp] theorem isNo_not {a : E} : E.isNo (.not a) = false := rfl
@[simp] theorem isNo_call {f : Fn} {a : EL} : E.isNo (.call f a) = false := rfl
@[simp] theorem isNo_ix {a b : E} : E.isNo (.ix a b) = false := rfl
@[simp] theorem isNo_b1 {o : B1} {a : E} : E.isNo (.b1 o a) = false := rfl
@[simp] theorem isNo_b2 {o : B2} {a b : E} : E.isNo (.b2 o a b) = false := rfl
@[simp] theorem isNo_neg {a : E} : E.isNo (.neg a) = false := rfl
@[simp] theorem isNo_chn {o p : CmpOp} {a b c : E} : E.isNo (.chn o p a b c) = false := rfl
@[simp] theorem isNo_isi {a : E} {t : String} : E.isNo (.isi a t) = false := rfl
@[simp] theorem evD_r2 {f : Nv → Option (Res × Nv)} {env : Nv} : evD .r2 f env = f env := rfl
@[simp] theorem evD_zip3 {f : Nv → Option (Res × Nv)} {env : Nv} : evD .zip3 f env = some (.val .none, env) := rfl
@[simp] theorem it_zip3 {x y z d : D} : iterV .zip3 (.tuple [x, y, z]) d = zip3V (items x) (items y) (items z) := by cases d <;> rfl
@[simp] theorem zip3V_some {l m n : List D} : zip3V (some l) (some m) (some n) = some (zipL3 l m n) := rfl
@[simp] theorem evD_zip {f : Nv → Option (Res × Nv)} {env : Nv} : evD .zip f env = f env := rfl
@[simp] theorem evD_seq {f : Nv → Option (Res × Nv)} {env : Nv} : evD .seq f env = some (.val .none, env) := rfl
@[simp] theorem evD_r1 {f : Nv → Option (Res × Nv)} {env : Nv} : evD .r1 f env = some (.val .none, env) := rfl
@[simp] theorem evD_rev {f : Nv → Option (Res × Nv)} {env : Nv} : evD .rev f env = some (.val .none, env) := rfl
@[simp] theorem it_revT {d : D} : iterV .rev (.tuple l) d = some l.reverse := by cases d <;> rfl
@[simp] theorem it_revL {d : D} : iterV .rev (.list l) d = some l.reverse := by cases d <;> rfl
@[simp] theorem evD_enum {f : Nv → Option (Res × Nv)} {env : Nv} : evD .enum f env = some (.val .none, env) := rfl
@[simp] theorem it_r1 {d : D} : iterV .r1 (.int a) d = if -1000000 ≤ a ∧ a ≤ 1000000 then some (rngL 0 a) else none := by cases d <;> rfl
@[simp] theorem it_r2 : iterV .r2 (.int a) (.int b) = if -1000000 ≤ a ∧ a ≤ 1000000 ∧ -1000000 ≤ b ∧ b ≤ 1000000 then some (rngL a b) else none := rfl
@[simp] theorem it_seqL {d : D} : iterV .seq (.list l) d = some l := rfl
@[simp] theorem it_seqT {d : D} : iterV .seq (.tuple l) d = some l := rfl
@[simp] theorem it_enum {d : D} : iterV .enum (.list l) d = some (enumL 0 l) := by cases d <;> rfl
@[simp] theorem it_enumT {d : D} : iterV .enum (.tuple l) d = some (enumL 0 l) := by cases d <;> rfl
@[simp] theorem it_zipLT : iterV .zip (.list l) (.tuple m) = some (zipL l m) := rfl
@[simp] theorem it_zipTL : iterV .zip (.tuple l) (.list m) = some (zipL l m) := rfl
@[simp] theorem it_zipL : iterV .zip (.list l) (.list m) = some (zipL l m) := rfl
@[simp] theorem it_zipT : iterV .zip (.tuple l) (.tuple m) = some (zipL l m) := rfl
@[simp] theorem lend1_v {env : Nv} {d : D} : lend1 env (.val d) = [] := rfl
@[simp] theorem lend1_f {env : Nv} {d : List D} : lend1 env (.fr d) = [] := rfl
@[simp] theorem lend1_p {env : Nv} {i : Nat} : lend1 env (.pl i) = match sAt env i with | .own _ => [i] | _ => [] := rfl
@[simp] theorem lendE_0 {env : Nv} : lendE env [] = env := rfl
@[simp] theorem lendE_s {env : Nv} {i : Nat} {is : List Nat} : lendE env (i :: is) = match sAt env i with
    | .own l => lendE (env.set i (.lent l)) is
    | _ => lendE env is := rfl
@[simp] theorem unlendE_0 {env : Nv} : unlendE env [] = env := rfl
@[simp] theorem unlendE_s {env : Nv} {i : Nat} {is : List Nat} : unlendE env (i :: is) = match sAt env i with
    | .lent l => unlendE (env.set i (.own l)) is
    | _ => unlendE env is := rfl
@[simp] theorem plainS_un : plainS .un = true := rfl
@[simp] theorem plainS_val {d : D} : plainS (.val d) = true := rfl
@[simp] theorem plainS_own {d : List D} : plainS (.own d) = false := rfl
@[simp] theorem plainS_lent {d : List D} : plainS (.lent d) = false := rfl
@[simp] theorem wipeE_0 {env : Nv} : wipeE env [] = env := rfl
@[simp] theorem wipeE_s {env : Nv} {i : Nat} {is : List Nat} : wipeE env (i :: is) = (wipeE env is).set i .un := rfl
@[simp] theorem backE_0 {o env : Nv} : backE o env [] = env := rfl
@[simp] theorem backE_s {o env : Nv} {i : Nat} {is : List Nat} : backE o env (i :: is) = (backE o env is).set i (sAt o i) := rfl
@[simp] theorem lnIn_0 {vs : List Nat} : lnIn vs [] = false := rfl
@[simp] theorem lnIn_s {vs is : List Nat} {i : Nat} : lnIn vs (i :: is) = (vs.contains i || lnIn vs is) := rfl
@[simp] theorem as_asg {i : Nat} {e : E} : asgs (.asg i e) = [i] := rfl
@[simp] theorem as_asgT {i : List Nat} {e : E} : asgs (.asgT i e) = i := rfl
@[simp] theorem as_asgL {i : List Nat} {e : E} : asgs (.asgL i e) = i := rfl
@[simp] theorem as_par3 {i j l : Nat} {a b c : E} : asgs (.par3 i j l a b c) = [i, j, l] := rfl
@[simp] theorem as_paro {i j : Nat} {a b : E} : asgs (.paro i j a b) = [i, j] := rfl
@[simp] theorem as_par {i j : Nat} {a b : E} : asgs (.par i j a b) = [i, j] := rfl
@[simp] theorem as_swp {i ja jb : Nat} {a : E} : asgs (.swp i ja jb a) = [] := rfl
@[simp] theorem as_setIx {i : Nat} {a b : E} : asgs (.setIx i a b) = [] := rfl
@[simp] theorem as_exp {e : E} : asgs (.exp e) = [] := rfl
@[simp] theorem as_ret {e : E} : asgs (.ret e) = [] := rfl
@[simp] theorem as_retN : asgs .retN = [] := rfl
@[simp] theorem as_never : asgs .never = [] := rfl
@[simp] theorem as_ife {c : E} {a b : SL} : asgs (.ife c a b) = asgsL a ++ asgsL b := rfl
@[simp] theorem as_for {t : Bool} {tg : List Nat} {k : IK} {a b : E} {x : SL} : asgs (.for_ t tg k a b x) = tg ++ asgsL x := rfl
@[simp] theorem as_forc {t : Bool} {tg : List Nat} {k : IK} {a b c : E} {n : Nat} {p x r : SL} : asgs (.forc t tg k a b n p c x r) = tg ++ (asgsL p ++ (asgsL x ++ asgsL r)) := rfl
@[simp] theorem as_whl {c : E} {a : SL} : asgs (.whl c a) = asgsL a := rfl
@[simp] theorem as_nil : asgsL .nil = [] := rfl
@[simp] theorem as_cons {s : S} {ss : SL} : asgsL (.cons s ss) = asgs s ++ asgsL ss := rfl
@[simp] theorem setTg_1 {i : Nat} {d : D} {env : Nv} : setTg false [i] d env = some (env.set i (.val d)) := rfl
@[simp] theorem setTg_t {tg : List Nat} {ds : List D} {env : Nv} : setTg true tg (.tuple ds) env = if ds.length = tg.length then some (setMany tg ds env) else none := by
  cases tg with
  | nil => rfl
  | cons i r => cases r <;> rfl
@[simp] theorem setMany_0 {ds : List D} {env : Nv} : setMany [] ds env = env := by cases ds <;> rfl
@[simp] theorem setMany_s {i : Nat} {is : List Nat} {d : D} {ds : List D} {env : Nv} : setMany (i :: is) (d :: ds) env = setMany is ds (env.set i (.val d)) := rfl
@[simp] theorem big_val : big = 16777216 := rfl
@[simp] theorem rngL_len {x y : Int} : (rngL x y).length = (y - x).toNat := by unfold rngL; rw [List.length_map, List.length_range]
theorem rngL_get {x y : Int} {i : Nat} {d : D} (h : (rngL x y)[i]? = some d) : d = .int (x + i) ∧ (i : Int) < y - x := by
  unfold rngL at h
  rw [List.getElem?_map] at h
  cases e : (List.range (y - x).toNat)[i]? with
  | none => rw [e] at h; cases h
  | some j =>
    rw [e] at h
    cases h
    obtain ⟨h1, h2⟩ := List.getElem?_eq_some_iff.mp e
    rw [List.getElem_range] at h2
    rw [List.length_range] at h1
    subst h2
    exact ⟨rfl, by omega⟩
theorem at_map {os : List Int} {i : Int} (h0 : 0 ≤ i) (h1 : i < os.length) : atI (os.map PyData.int) i = some (.int (os.getD i.toNat 0)) := by
  rw [atI_nn h0, List.getElem?_map, List.getD_eq_getElem?_getD, List.getElem?_eq_getElem (by omega)]; rfl
theorem ixN_nn {n : Nat} {i : Int} (h0 : 0 ≤ i) (h1 : i < n) : ixN n i = some i.toNat := by
  unfold ixN; rw [if_pos h0, if_pos h1]
theorem setI_map {os : List Int} {k : Nat} {x : Int} : (os.map PyData.int).set k (.int x) = (os.set k x).map .int := (List.map_set ..).symm
theorem app_map {os : List Int} {x : Int} : os.map PyData.int ++ [.int x] = (os ++ [x]).map .int := by simp
theorem cut_pre {ds : List D} {k : Nat} : cutD ds none (some (k : Int)) = ds.take k := by
  unfold cutD
  rw [HT.sIx_none, HT.sIx_nat, List.drop_zero, Nat.sub_zero]
  by_cases h : k ≤ ds.length
  · rw [Nat.min_eq_left h]
  · rw [Nat.min_eq_right (by omega), List.take_of_length_le (Nat.le_refl _), List.take_of_length_le (by omega)]
theorem cut_suf {ds : List D} {k : Nat} : cutD ds (some (k : Int)) none = ds.drop k := by
  unfold cutD
  rw [HT.sIx_none, HT.sIx_nat]
  by_cases h : k ≤ ds.length
  · rw [Nat.min_eq_left h, List.take_of_length_le (by rw [List.length_drop]; omega)]
  · rw [Nat.min_eq_right (by omega), List.drop_eq_nil_of_le (by omega), List.drop_eq_nil_of_le (by omega)]; simp
theorem lay_ints : ∀ is : List Int, PyData.canLayAll0 (is.map .int) = true
  | [] => rfl
  | i :: is => by rw [List.map_cons, PyData.canLayAll0, lay_ints is]; rfl
theorem dep_ints : ∀ is : List Int, PyData.depthAll (is.map .int) = 0
  | [] => rfl
  | i :: is => by rw [List.map_cons, PyData.depthAll, dep_ints is]; rfl
theorem eqv_ints : ∀ is js : List Int, PyData.eqvAll (is.map .int) (js.map .int) = decide (is = js)
  | [], [] => rfl
  | [], j :: js => rfl
  | i :: is, [] => rfl
  | i :: is, j :: js => by
    rw [List.map_cons, List.map_cons, PyData.eqvAll, eqv_ints is js]
    show (i == j && decide (is = js)) = _
    by_cases h : i = j <;> by_cases k : is = js <;> simp [h, k]
theorem shp_ints (is : List Int) : SeqAt.shaped (.tuple (is.map .int)) = true ∧ SeqAt.shaped (.list (is.map .int)) = true := by
  constructor
  · show (PyData.canLayAll0 (is.map .int) && decide (PyData.depthAll (is.map .int) + 1 ≤ 64)) = true
    rw [lay_ints, dep_ints]; rfl
  · show (PyData.canLayAll0 (is.map .int) && decide (PyData.depthAll (is.map .int) + 1 ≤ 64)) = true
    rw [lay_ints, dep_ints]; rfl
@[simp] theorem eqv_tt (is js : List Int) : eqv (.tuple (is.map .int)) (.tuple (js.map .int)) = some (decide (is = js)) := by
  unfold eqv
  rw [if_pos ⟨(shp_ints is).1, (shp_ints js).1⟩]
  exact congrArg some (eqv_ints is js)
@[simp] theorem eqv_ll (is js : List Int) : eqv (.list (is.map .int)) (.list (js.map .int)) = some (decide (is = js)) := by
  unfold eqv
  rw [if_pos ⟨(shp_ints is).2, (shp_ints js).2⟩]
  exact congrArg some (eqv_ints is js)
@[simp] theorem eqv_t2 (a b c d : Int) : eqv (.tuple [.int a, .int b]) (.tuple [.int c, .int d]) = some (decide (a = c ∧ b = d)) := by
  have := eqv_tt [a, b] [c, d]
  simpa using this
@[simp] theorem eqv_l0 (is : List Int) : eqv (.list (is.map .int)) (.list []) = some (decide (is = [])) := eqv_ll is []
@[simp] theorem eqv_00 : eqv (.list []) (.list []) = some true := eqv_ll [] []
@[simp] theorem eqv_l3 (a b c d e f : Int) : eqv (.list [.int a, .int b, .int c]) (.list [.int d, .int e, .int f]) = some (decide ([a, b, c] = [d, e, f])) := eqv_ll [a, b, c] [d, e, f]
end
end Ev

/-! Sets of things as whole numbers; houses of pieces; plain Lean. -/
namespace Ev
open PySem L2
theorem band_n (a b : Nat) : Builtin.bitAnd (a : Int) (b : Int) = ((a &&& b : Nat) : Int) := by
  rw [PyProof.Rows.bitAnd_pp (Int.natCast_nonneg a) (Int.natCast_nonneg b), Int.toNat_natCast, Int.toNat_natCast]
theorem shr_n (n t : Nat) : (n : Int) / 2 ^ t = ((n >>> t : Nat) : Int) := by
  rw [Nat.shiftRight_eq_div_pow]; simp
theorem tb_one (n t : Nat) : (n >>> t) &&& 1 = if n.testBit t then 1 else 0 := by
  unfold Nat.testBit
  rw [Nat.and_comm]
  rcases Nat.mod_two_eq_zero_or_one (n >>> t) with h | h <;> simp [Nat.and_one_is_mod, h, Nat.and_comm 1]
theorem bit_n (n t : Nat) : Builtin.bitAnd ((n : Int) / 2 ^ t) 1 = if n.testBit t then 1 else 0 := by
  rw [shr_n, show (1 : Int) = ((1 : Nat) : Int) from rfl, band_n, tb_one]
  split <;> rfl
theorem tb_add {n t : Nat} (h : n.testBit t = false) : n + 2 ^ t = n ||| 2 ^ t := by
  apply Nat.eq_of_testBit_eq
  intro i
  rw [Nat.testBit_or, Nat.testBit_two_pow]
  rcases Nat.lt_trichotomy i t with hi | hi | hi
  · rw [Nat.add_comm, Nat.testBit_two_pow_add_gt hi]
    simp [Nat.ne_of_gt hi]
  · subst hi
    rw [Nat.add_comm, Nat.testBit_two_pow_add_eq]
    simp [h]
  · have e : ∀ x : Nat, x.testBit i = (x / 2 ^ (t + 1)).testBit (i - (t + 1)) := fun x => by
      rw [Nat.testBit_div_two_pow]; congr 1; omega
    have hd : (n + 2 ^ t) / 2 ^ (t + 1) = n / 2 ^ (t + 1) := by
      have h1 : n % 2 ^ (t + 1) < 2 ^ t := by
        have h2 : (n / 2 ^ t) % 2 = 0 := by
          have := Nat.testBit_eq_decide_div_mod_eq (x := n) (i := t)
          rw [h] at this
          have h3 := of_decide_eq_false this.symm
          omega
        rw [Nat.pow_succ, Nat.mod_mul, h2]
        simpa using Nat.mod_lt _ (Nat.two_pow_pos t)
      have h4 := Nat.div_add_mod n (2 ^ (t + 1))
      have h5 : 2 ^ (t + 1) = 2 ^ t + 2 ^ t := by rw [Nat.pow_succ]; omega
      refine Nat.div_eq_of_lt_le ?_ ?_
      · have := Nat.div_mul_le_self n (2 ^ (t + 1)); omega
      · rw [Nat.add_mul, Nat.mul_comm]; omega
    rw [e, hd, ← e]
    simp [Nat.ne_of_lt hi]
theorem or_lt {n t m : Nat} (h : n < 2 ^ m) (ht : t < m) : n ||| 2 ^ t < 2 ^ m := Nat.or_lt_two_pow h (Nat.pow_lt_pow_right (by omega) ht)
theorem tb_lt {n t m : Nat} (h : n < 2 ^ m) (b : n.testBit t = true) : t < m := by
  by_cases ht : t < m
  · exact ht
  · rw [Nat.testBit_lt_two_pow (Nat.lt_of_lt_of_le h (Nat.pow_le_pow_right (by omega) (by omega)))] at b
    cases b
def natI (l : List Nat) : List Int := l.map fun i : Nat => (i : Int)
theorem natI_len (l : List Nat) : (natI l).length = l.length := List.length_map ..
theorem natI_get {l : List Nat} {i : Nat} : (natI l)[i]? = l[i]?.map fun i : Nat => (i : Int) := List.getElem?_map ..
theorem natI_app (l k : List Nat) : natI (l ++ k) = natI l ++ natI k := List.map_append ..
def thN (n k : Nat) : List Nat := (List.range k).filter n.testBit
theorem thN_t {n k : Nat} (h : n.testBit k = true) : thN n (k + 1) = thN n k ++ [k] := by
  unfold thN
  rw [List.range_succ, List.filter_append]
  simp [h]
theorem thN_f {n k : Nat} (h : n.testBit k = false) : thN n (k + 1) = thN n k := by
  unfold thN
  rw [List.range_succ, List.filter_append]
  simp [h]
theorem thN_len (n k : Nat) : (thN n k).length ≤ k := by
  unfold thN
  exact Nat.le_trans (List.length_filter_le ..) (by simp)
theorem thN_mem {n k t : Nat} : t ∈ thN n k ↔ t < k ∧ n.testBit t = true := by
  unfold thN
  rw [List.mem_filter, List.mem_range]
def bsum (f : Nat → Int) (n : Nat) : Nat → Int
  | 0 => 0
  | k + 1 => bsum f n k + if n.testBit k then f k else 0
theorem bsum_th (f : Nat → Int) (n : Nat) : ∀ k, ((thN n k).map f).sum = bsum f n k
  | 0 => rfl
  | k + 1 => by
    unfold bsum
    cases h : n.testBit k with
    | true => rw [thN_t h, List.map_append, List.sum_append, bsum_th f n k]; simp
    | false => rw [thN_f h, bsum_th f n k]; simp
def bcnt (n : Nat) : Nat → Nat
  | 0 => 0
  | k + 1 => bcnt n k + if n.testBit k then 1 else 0
theorem bcnt_th (n : Nat) : ∀ k, (thN n k).length = bcnt n k
  | 0 => rfl
  | k + 1 => by
    unfold bcnt
    cases h : n.testBit k with
    | true => rw [thN_t h, List.length_append, bcnt_th n k]; simp
    | false => rw [thN_f h, bcnt_th n k]; simp
theorem tb_in (n t i : Nat) : (n ||| 2 ^ t).testBit i = (n.testBit i || decide (t = i)) := by rw [Nat.testBit_or, Nat.testBit_two_pow]
theorem bsum_in (f : Nat → Int) {n t : Nat} (h : n.testBit t = false) : ∀ k, bsum f (n ||| 2 ^ t) k = bsum f n k + if t < k then f t else 0
  | 0 => rfl
  | k + 1 => by
    unfold bsum
    rw [bsum_in f h k, tb_in]
    by_cases hk : t = k
    · subst hk; simp [h]
    · by_cases hl : t < k
      · simp [hk, hl, show t < k + 1 by omega]; omega
      · simp [hk, hl, show ¬ t < k + 1 by omega]
theorem bcnt_in {n t : Nat} (h : n.testBit t = false) : ∀ k, bcnt (n ||| 2 ^ t) k = bcnt n k + if t < k then 1 else 0
  | 0 => rfl
  | k + 1 => by
    unfold bcnt
    rw [bcnt_in h k, tb_in]
    by_cases hk : t = k
    · subst hk; simp [h]
    · by_cases hl : t < k
      · simp [hk, hl, show t < k + 1 by omega]; omega
      · simp [hk, hl, show ¬ t < k + 1 by omega]
theorem bcnt_mono {a b : Nat} (h : ∀ i, a.testBit i = true → b.testBit i = true) : ∀ k, bcnt a k ≤ bcnt b k
  | 0 => Nat.le_refl _
  | k + 1 => by
    unfold bcnt
    have := bcnt_mono h k
    cases ha : a.testBit k with
    | false => simp; omega
    | true => rw [h k ha]; omega
theorem bcnt_le (n : Nat) : ∀ k, bcnt n k ≤ k
  | 0 => Nat.le_refl _
  | k + 1 => by
    unfold bcnt
    have := bcnt_le n k
    split <;> omega
theorem bcnt_lt {n t : Nat} (h : n.testBit t = false) {k : Nat} (ht : t < k) : bcnt n k < k := by
  have h1 := bcnt_in h k
  have h2 := bcnt_le (n ||| 2 ^ t) k
  rw [if_pos ht] at h1
  omega
theorem bsum_b {f : Nat → Int} {n m : Nat} (h : ∀ t, (f t).natAbs ≤ m) : ∀ k, (bsum f n k).natAbs ≤ k * m
  | 0 => by simp [bsum]
  | k + 1 => by
    unfold bsum
    have h1 := bsum_b (n := n) h k
    have h2 := h k
    rw [Nat.add_mul]
    split <;> omega
/-! ### falling gains -/
def Sub (a b : Nat) : Prop := ∀ i, a.testBit i = true → b.testBit i = true
def Fall (m : Nat) (w : Nat → Int) : Prop := ∀ a b t, a < 2 ^ m → b < 2 ^ m → t < m → Sub a b → b.testBit t = false → w (b ||| 2 ^ t) - w b ≤ w (a ||| 2 ^ t) - w a
theorem Sub.f {a b t : Nat} (h : Sub a b) (ht : b.testBit t = false) : a.testBit t = false := by
  cases e : a.testBit t with
  | false => rfl
  | true => rw [h t e] at ht; cases ht
theorem fall_add {m : Nat} {f g : Nat → Int} (hf : Fall m f) (hg : Fall m g) : Fall m fun n => f n + g n := fun a b t ha hb ht hs h => by
  have := hf a b t ha hb ht hs h
  have := hg a b t ha hb ht hs h
  simp only
  omega
theorem fall_0 {m : Nat} : Fall m fun _ => 0 := fun a b t ha hb ht hs h => by simp
theorem fall_mul {m : Nat} {f : Nat → Int} (hf : Fall m f) {c : Int} (hc : 0 ≤ c) : Fall m fun n => c * f n := fun a b t ha hb ht hs h => by
  simp only
  rw [← Int.mul_sub, ← Int.mul_sub]
  exact Int.mul_le_mul_of_nonneg_left (hf a b t ha hb ht hs h) hc
theorem fall_congr {m : Nat} {f g : Nat → Int} (hf : Fall m f) (h : ∀ n, n < 2 ^ m → g n = f n) : Fall m g := fun a b t ha hb ht hs hh => by
  rw [h a ha, h b hb, h _ (or_lt ha ht), h _ (or_lt hb ht)]
  exact hf a b t ha hb ht hs hh
theorem and_in (n t p : Nat) : (n ||| 2 ^ t) &&& p = if p.testBit t then (n &&& p) ||| 2 ^ t else n &&& p := by
  apply Nat.eq_of_testBit_eq
  intro i
  rw [Nat.testBit_and, tb_in]
  split
  · rename_i h
    rw [tb_in, Nat.testBit_and]
    by_cases e : t = i
    · subst e; simp [h]
    · simp [e]
  · rename_i h
    rw [Nat.testBit_and]
    by_cases e : t = i
    · subst e; simp at h; simp [h]
    · simp [e]
theorem Sub.and {a b : Nat} (h : Sub a b) (p : Nat) : Sub (a &&& p) (b &&& p) := fun i hi => by
  rw [Nat.testBit_and] at hi ⊢
  simp at hi ⊢
  exact ⟨h i hi.1, hi.2⟩
theorem and_f {b t : Nat} (h : b.testBit t = false) (p : Nat) : (b &&& p).testBit t = false := by rw [Nat.testBit_and, h]; rfl
inductive Pc where
  | sum (l : List Int) | bent (p : Nat) (g : List Int) | cut (a : Int) (i j : Nat) | meet (a : Int) (p : Nat) | whole (a : Int) (p : Nat)
def tk (g : List Int) (k : Nat) : Int := (g.take k).sum
def Pc.give : Pc → Nat → Int
  | .sum l, n => bsum (fun t => l.getD t 0) n 10
  | .bent p g, n => tk g (bcnt (n &&& p) 10)
  | .cut a i j, n => a * if n.testBit i && !n.testBit j then 1 else 0
  | .meet a p, n => a * if n &&& p = 0 then 0 else 1
  | .whole a p, n => 0 - a * if n &&& p = p then 1 else 0
def Dsc (g : List Int) : Prop := ∀ i j : Nat, i ≤ j → j < g.length → g.getD j 0 ≤ g.getD i 0
def Pc.Ok (m : Nat) (far : Int) : Pc → Prop
  | .sum l => l.length = m ∧ ∀ x ∈ l, x.natAbs ≤ far.natAbs
  | .bent p g => p < 2 ^ m ∧ g.length = m ∧ Dsc g ∧ ∀ x ∈ g, x.natAbs ≤ far.natAbs
  | .cut a i j => 0 ≤ a ∧ a ≤ far ∧ i < m ∧ j < m ∧ i ≠ j
  | .meet a p => 0 ≤ a ∧ a ≤ far ∧ p < 2 ^ m
  | .whole a p => 0 ≤ a ∧ a ≤ far ∧ p < 2 ^ m ∧ p ≠ 0
theorem tk_s {g : List Int} {k : Nat} : tk g (k + 1) = tk g k + g.getD k 0 := by
  unfold tk
  rw [List.take_add_one, List.sum_append, List.getD_eq_getElem?_getD]
  cases g[k]? <;> simp
theorem bcnt_m {n m : Nat} (h : n < 2 ^ m) : ∀ k, m ≤ k → bcnt n k = bcnt n m
  | 0, hk => by rw [show m = 0 by omega]
  | k + 1, hk => by
    by_cases e : m = k + 1
    · rw [e]
    · conv => lhs; unfold bcnt
      rw [bcnt_m h k (by omega)]
      have : n.testBit k = false := Nat.testBit_lt_two_pow (Nat.lt_of_lt_of_le h (Nat.pow_le_pow_right (by omega) (by omega)))
      simp [this]
theorem give_fall {m : Nat} (hm : m ≤ 10) {far : Int} : ∀ {p : Pc}, p.Ok m far → Fall m p.give
  | .sum l, _ => fun a b t ha hb ht hs h => by
    have hA := hs.f h
    simp only [Pc.give]
    rw [bsum_in _ h, bsum_in _ hA]
    omega
  | .bent p g, ⟨hp, hl, hd, _⟩ => fun a b t ha hb ht hs h => by
    have hA := hs.f h
    simp only [Pc.give]
    rw [and_in, and_in]
    split
    · rw [bcnt_in (and_f h p), bcnt_in (and_f hA p), if_pos (by omega), tk_s, tk_s]
      have h1 := bcnt_mono (hs.and p) 10
      have h2 : bcnt (b &&& p) 10 < m := by
        rw [bcnt_m (Nat.lt_of_le_of_lt Nat.and_le_left hb) 10 hm]
        exact bcnt_lt (and_f h p) ht
      have := hd _ _ h1 (by omega)
      omega
    · omega
  | .cut a' i j, ⟨h0, h1, hi, hj, hij⟩ => fun a b t ha hb ht hs h => by
    have hA := hs.f h
    simp only [Pc.give]
    rw [tb_in, tb_in, tb_in, tb_in]
    have si := hs i
    have sj := hs j
    by_cases e1 : t = i
    · subst e1
      rw [h, hA]
      simp [hij]
      cases hbj : b.testBit j with
      | true => cases haj : a.testBit j <;> simp <;> omega
      | false =>
        have : a.testBit j = false := hs.f hbj
        simp [this]
    · by_cases e2 : t = j
      · subst e2
        rw [h, hA]
        simp [e1]
        cases hai : a.testBit i with
        | true => rw [si hai]; simp
        | false => cases b.testBit i <;> simp <;> omega
      · simp [e1, e2]
  | .meet a' p, ⟨h0, h1, hp⟩ => fun a b t ha hb ht hs h => by
    have hA := hs.f h
    simp only [Pc.give]
    rw [and_in, and_in]
    split
    · have nz : ∀ x : Nat, ¬ (x ||| 2 ^ t = 0) := fun x e => by
        have := congrArg (fun n => Nat.testBit n t) e
        simp [tb_in] at this
      rw [if_neg (nz _), if_neg (nz _)]
      by_cases e : b &&& p = 0
      · have : a &&& p = 0 := by
          apply Nat.eq_of_testBit_eq
          intro i
          rw [Nat.zero_testBit]
          have q := congrArg (fun n => Nat.testBit n i) e
          simp only [Nat.zero_testBit] at q
          exact (hs.and p).f q
        rw [if_pos e, if_pos this]
        omega
      · rw [if_neg e]
        split <;> omega
    · omega
  | .whole a' p, ⟨h0, h1, hp, _⟩ => fun a b t ha hb ht hs h => by
    have hA := hs.f h
    simp only [Pc.give]
    rw [and_in, and_in]
    split
    · rename_i hpt
      have ne : ∀ x : Nat, x.testBit t = false → ¬ (x &&& p = p) := fun x hx e => by
        have := congrArg (fun n => Nat.testBit n t) e
        simp [hx, hpt] at this
      rw [if_neg (ne _ h), if_neg (ne _ hA)]
      by_cases e : (a &&& p) ||| 2 ^ t = p
      · have : (b &&& p) ||| 2 ^ t = p := by
          apply Nat.eq_of_testBit_eq
          intro i
          have q := congrArg (fun n => Nat.testBit n i) e
          simp only [tb_in, Nat.testBit_and] at q ⊢
          have := hs i
          cases hai : a.testBit i with
          | true => rw [this hai]; rw [hai] at q; exact q
          | false =>
            rw [hai] at q
            simp at q
            by_cases hti : t = i
            · simp [hti]
              subst hti; exact hpt
            · rw [← q]; simp [hti]
        rw [if_pos e, if_pos this]
        omega
      · rw [if_neg e]
        split <;> omega
    · omega
theorem give_0 {m : Nat} {far : Int} : ∀ {p : Pc}, p.Ok m far → p.give 0 = 0
  | .sum l, _ => by
    have : ∀ (f : Nat → Int) k, bsum f 0 k = 0 := fun f k => by
      induction k with
      | zero => rfl
      | succ k ih => unfold bsum; rw [ih]; simp
    exact this _ _
  | .bent p g, _ => by
    simp only [Pc.give, Nat.zero_and]
    have : ∀ k, bcnt 0 k = 0 := fun k => by
      induction k with
      | zero => rfl
      | succ k ih => unfold bcnt; rw [ih]; simp
    rw [this]; rfl
  | .cut a i j, _ => by simp [Pc.give]
  | .meet a p, _ => by simp [Pc.give]
  | .whole a p, h => by
    have := h.2.2.2
    simp [Pc.give, Ne.symm this]
theorem sum_b : ∀ (l : List Int) (m : Nat), (∀ x ∈ l, x.natAbs ≤ m) → l.sum.natAbs ≤ l.length * m
  | [], m, _ => by simp
  | x :: l, m, h => by
    have := sum_b l m fun y hy => h y (List.mem_cons_of_mem _ hy)
    have h1 := h x List.mem_cons_self
    rw [List.sum_cons, List.length_cons, Nat.add_mul]
    omega
theorem give_b {m : Nat} (hm : m ≤ 10) {far : Int} (hf : 0 ≤ far) (n : Nat) : ∀ {p : Pc}, p.Ok m far → (p.give n).natAbs ≤ 10 * far.natAbs
  | .sum l, h => by
    refine bsum_b (fun t => ?_) 10
    rw [List.getD_eq_getElem?_getD]
    cases e : l[t]? with
    | none => simp
    | some y => exact h.2 y (List.mem_of_getElem? e)
  | .bent p g, h => by
    have := sum_b (g.take (bcnt (n &&& p) 10)) far.natAbs fun x hx => h.2.2.2 x (List.mem_of_mem_take hx)
    refine Nat.le_trans this (Nat.mul_le_mul_right _ ?_)
    have := h.2.1
    rw [List.length_take]; omega
  | .cut a i j, h => by
    have h1 := h.1
    have h2 := h.2.1
    simp only [Pc.give]
    split <;> omega
  | .meet a p, h => by
    have h1 := h.1
    have h2 := h.2.1
    simp only [Pc.give]
    split <;> omega
  | .whole a p, h => by
    have h1 := h.1
    have h2 := h.2.1
    simp only [Pc.give]
    split <;> omega
end Ev

/-! Orders and their prices; plain Lean. -/
namespace Ev
open PySem L2
theorem bor_n (a b : Nat) : Builtin.bitOr (a : Int) (b : Int) = ((a ||| b : Nat) : Int) := by
  have h : ∀ x : Nat, decide (0 ≤ Builtin.bitNot (x : Int)) = false := fun x => decide_eq_false (by unfold Builtin.bitNot; omega)
  have e : ∀ x : Nat, (Builtin.bitNot (Builtin.bitNot (x : Int))) = x := fun x => by unfold Builtin.bitNot; omega
  unfold Builtin.bitOr Builtin.bitAnd
  rw [h, h]
  simp only [e, Int.toNat_natCast]
theorem revInd {α : Type} {motive : List α → Prop} (nil : motive []) (append_singleton : ∀ l a, motive l → motive (l ++ [a])) (l : List α) : motive l := by
  have : ∀ r : List α, motive r.reverse := fun r => by
    induction r with
    | nil => exact nil
    | cons a r ih => rw [List.reverse_cons]; exact append_singleton _ _ ih
  have := this l.reverse
  rwa [List.reverse_reverse] at this
structure Ord (m : Nat) (o : List Nat) : Prop where
  nd : o.Nodup
  mem : ∀ t, t ∈ o ↔ t < m
theorem Ord.perm {m : Nat} {o : List Nat} (h : Ord m o) : o.Perm (List.range m) :=
  (List.perm_ext_iff_of_nodup h.nd List.nodup_range).mpr fun t => by rw [h.mem, List.mem_range]
theorem Ord.len {m : Nat} {o : List Nat} (h : Ord m o) : o.length = m := by rw [h.perm.length_eq, List.length_range]
theorem Ord.of {m : Nat} {o : List Nat} (h : o.Perm (List.range m)) : Ord m o := ⟨h.nodup_iff.mpr List.nodup_range, fun t => by rw [h.mem_iff, List.mem_range]⟩
def stO (l : List Nat) : Nat := l.foldl (fun n t => n ||| 2 ^ t) 0
theorem stO_s (l : List Nat) (t : Nat) : stO (l ++ [t]) = stO l ||| 2 ^ t := by unfold stO; rw [List.foldl_append]; rfl
theorem fold_tb (l : List Nat) : ∀ (n i : Nat), (l.foldl (fun n t => n ||| 2 ^ t) n).testBit i = (n.testBit i || decide (i ∈ l)) := by
  induction l with
  | nil => intro n i; simp
  | cons t l ih =>
    intro n i
    rw [List.foldl_cons, ih, tb_in]
    by_cases h : t = i
    · subst h; simp
    · simp [h, Ne.symm h]
theorem stO_tb (l : List Nat) (i : Nat) : (stO l).testBit i = decide (i ∈ l) := by
  unfold stO
  rw [fold_tb]; simp
theorem stO_f {l : List Nat} {t : Nat} (h : t ∉ l) : (stO l).testBit t = false := by rw [stO_tb]; simp [h]
theorem stO_lt {l : List Nat} {m : Nat} (h : ∀ t ∈ l, t < m) : stO l < 2 ^ m := by
  refine Nat.lt_pow_two_of_testBit _ fun i hi => ?_
  rw [stO_tb]
  simp
  intro hm
  exact absurd (h i hm) (by omega)
theorem stO_all {m : Nat} {o : List Nat} (h : Ord m o) : stO o = 2 ^ m - 1 := by
  apply Nat.eq_of_testBit_eq
  intro i
  rw [stO_tb, Nat.testBit_two_pow_sub_one]
  simp [h.mem]
def stp (w : Nat → Int) (st : List Int × Nat) (t : Nat) : List Int × Nat := (st.1.set t (w (st.2 ||| 2 ^ t) - w st.2), st.2 ||| 2 ^ t)
def prS (m : Nat) (w : Nat → Int) (o : List Nat) : List Int × Nat := o.foldl (stp w) (List.replicate m 0, 0)
theorem prS_s {m : Nat} {w : Nat → Int} (o : List Nat) (t : Nat) : prS m w (o ++ [t]) = stp w (prS m w o) t := by unfold prS; rw [List.foldl_append]; rfl
theorem prS_n {m : Nat} {w : Nat → Int} (o : List Nat) : (prS m w o).2 = stO o := by
  induction o using revInd with
  | nil => rfl
  | append_singleton o t ih => rw [prS_s, stO_s, ← ih]; rfl
theorem prS_len {m : Nat} {w : Nat → Int} (o : List Nat) : (prS m w o).1.length = m := by
  induction o using revInd with
  | nil => simp [prS]
  | append_singleton o t ih => rw [prS_s]; simp [stp, ih]
def prI (m : Nat) (w : Nat → Int) (o : List Nat) : List Int := (prS m w o).1
theorem prI_len {m : Nat} {w : Nat → Int} (o : List Nat) : (prI m w o).length = m := prS_len o
theorem prI_s {m : Nat} {w : Nat → Int} (o : List Nat) (t : Nat) : prI m w (o ++ [t]) = (prI m w o).set t (w (stO o ||| 2 ^ t) - w (stO o)) := by
  unfold prI
  rw [prS_s, stp, prS_n]
theorem prI_out {m : Nat} {w : Nat → Int} {o : List Nat} {t : Nat} (h : t ∉ o) : (prI m w o).getD t 0 = 0 := by
  induction o using revInd with
  | nil =>
    simp only [prI, prS, List.foldl_nil, List.getD_eq_getElem?_getD, List.getElem?_replicate]
    split <;> rfl
  | append_singleton o t' ih =>
    simp at h
    rw [prI_s, List.getD_eq_getElem?_getD, List.getElem?_set_ne (fun e => h.2 e.symm), ← List.getD_eq_getElem?_getD]
    exact ih h.1
theorem sum_set : ∀ (l : List Int) (t : Nat) (x : Int), t < l.length → (l.set t x).sum = l.sum - l.getD t 0 + x
  | a :: l, 0, x, _ => by simp; omega
  | a :: l, t + 1, x, h => by
    have := sum_set l t x (by simpa using h)
    simp at this ⊢
    omega
  | [], _, _, h => by simp at h
theorem prI_sum {m : Nat} {w : Nat → Int} {o : List Nat} (nd : o.Nodup) (h : ∀ t ∈ o, t < m) : (prI m w o).sum = w (stO o) - w 0 := by
  induction o using revInd with
  | nil => simp [prI, prS, stO]
  | append_singleton o t ih =>
    have hn := List.nodup_append.mp nd
    have ht : t ∉ o := fun q => hn.2.2 t q t (by simp) rfl
    rw [prI_s, sum_set _ _ _ (by rw [prI_len]; exact h t (by simp)), prI_out ht, ih hn.1 (fun s hs => h s (by simp [hs])), stO_s]
    omega
def cst (l : List Int) (n : Nat) : Int := bsum (fun t => l.getD t 0) n 10
theorem bsum_set {l : List Int} {t : Nat} {x : Int} (ht : t < l.length) (n : Nat) : ∀ k, bsum (fun i => (l.set t x).getD i 0) n k = bsum (fun i => l.getD i 0) n k + if t < k ∧ n.testBit t = true then x - l.getD t 0 else 0
  | 0 => by simp [bsum]
  | k + 1 => by
    unfold bsum
    rw [bsum_set ht n k]
    by_cases e : t = k
    · subst e
      have e1 : (l.set t x).getD t 0 = x := by rw [List.getD_eq_getElem?_getD, List.getElem?_set_self ht]; rfl
      rw [e1]
      cases n.testBit t <;> simp <;> omega
    · have e1 : (l.set t x).getD k 0 = l.getD k 0 := by rw [List.getD_eq_getElem?_getD, List.getElem?_set_ne e, ← List.getD_eq_getElem?_getD]
      rw [e1]
      by_cases hl : t < k
      · have : t < k + 1 := by omega
        simp only [hl, this, true_and]
        omega
      · have : ¬ t < k + 1 := by omega
        simp only [hl, this, false_and]
        simp
theorem and_or (a n t : Nat) : a &&& (n ||| 2 ^ t) = if a.testBit t then (a &&& n) ||| 2 ^ t else a &&& n := by
  rw [Nat.and_comm, and_in]
  split <;> rw [Nat.and_comm]
theorem Sub.andr (a b : Nat) : Sub (a &&& b) b := fun i hi => by
  rw [Nat.testBit_and] at hi
  simp at hi
  exact hi.2
theorem prI_le {m : Nat} (hm : m ≤ 10) {w : Nat → Int} (hw : Fall m w) {o : List Nat} (nd : o.Nodup) (h : ∀ t ∈ o, t < m) (a : Nat) (ha : a < 2 ^ m) : cst (prI m w o) a ≤ w (a &&& stO o) - w 0 := by
  induction o using revInd with
  | nil =>
    have : ∀ k, bsum (fun t => (prI m w []).getD t 0) a k = 0 := fun k => by
      induction k with
      | zero => rfl
      | succ k ih => unfold bsum; rw [ih, prI_out (by simp)]; simp
    unfold cst
    rw [this]; simp [stO]
  | append_singleton o t ih =>
    have hn := List.nodup_append.mp nd
    have ht : t ∉ o := fun q => hn.2.2 t q t (by simp) rfl
    have ho : ∀ s ∈ o, s < m := fun s hs => h s (by simp [hs])
    have htm := h t (by simp)
    have := ih hn.1 ho
    unfold cst at this ⊢
    rw [prI_s, bsum_set (by rw [prI_len]; exact htm), prI_out ht, stO_s, and_or]
    generalize bsum (fun t => (prI m w o).getD t 0) a 10 = B at this ⊢
    cases e : a.testBit t with
    | false => simp; omega
    | true =>
      have f1 := hw (a &&& stO o) (stO o) t (Nat.lt_of_le_of_lt Nat.and_le_left ha) (stO_lt ho) htm (Sub.andr _ _) (stO_f ht)
      simp
      rw [if_pos (by omega)]
      omega
theorem prI_eq {m : Nat} {w : Nat → Int} {o : List Nat} (nd : o.Nodup) (h : ∀ t ∈ o, t < m) (i : Nat) {t : Nat} (ht : o[i]? = some t) : (prI m w o).getD t 0 = w (stO (o.take (i + 1))) - w (stO (o.take i)) := by
  induction o using revInd with
  | nil => simp at ht
  | append_singleton o s ih =>
    have hn := List.nodup_append.mp nd
    have hs : s ∉ o := fun q => hn.2.2 s q s (by simp) rfl
    rw [prI_s]
    by_cases hi : i < o.length
    · rw [List.getElem?_append_left hi] at ht
      have hne : s ≠ t := fun e => hs (e ▸ List.mem_of_getElem? ht)
      rw [List.getD_eq_getElem?_getD, List.getElem?_set_ne hne, ← List.getD_eq_getElem?_getD, ih hn.1 (fun s hs => h s (by simp [hs])) ht]
      rw [List.take_append_of_le_length (by omega), List.take_append_of_le_length (by omega)]
    · rw [List.getElem?_append_right (by omega)] at ht
      have hi2 : i = o.length := by
        have := (List.getElem?_eq_some_iff.mp ht).1
        simp at this; omega
      subst hi2
      simp at ht
      subst ht
      rw [List.getD_eq_getElem?_getD, List.getElem?_set_self (by rw [prI_len]; exact h s (by simp))]
      simp [List.take_of_length_le, stO_s]
end Ev

namespace Lw
open PySem L2 Ev
def b__law_next : SL := (.cons (.ife (.cmp .Gt (.ix (.var 0) (.cst (.int 2))) (.cst (.int 0))) (.cons (.asg 2 (.bin .Mod (.ix (.var 0) (.cst (.int 2))) (.var 1))) (.cons (.setIx 0 (.cst (.int 2)) (.bin .FloorDiv (.ix (.var 0) (.cst (.int 2))) (.var 1))) (.cons (.ret (.var 2)) .nil))) .nil) (.cons (.asg 3 (.cst (.int 0))) (.cons (.ife (.cmp .Lt (.ix (.var 0) (.cst (.int 1))) (.b1 .len (.ix (.var 0) (.cst (.int 0))))) (.cons (.asg 3 (.ix (.ix (.var 0) (.cst (.int 0))) (.ix (.var 0) (.cst (.int 1))))) .nil) .nil) (.cons (.setIx 0 (.cst (.int 1)) (.bin .Add (.ix (.var 0) (.cst (.int 1))) (.cst (.int 1)))) (.cons (.ife (.cmp .GtE (.var 3) (.bin .Pow (.cst (.int 10)) (.cst (.int 18)))) (.cons (.setIx 0 (.cst (.int 2)) (.bin .FloorDiv (.var 3) (.var 1))) (.cons (.ret (.bin .Mod (.var 3) (.var 1))) .nil)) .nil) (.cons (.setIx 0 (.cst (.int 3)) (.bin .Mod (.bin .Add (.bin .Add (.bin .Mult (.ix (.var 0) (.cst (.int 3))) (.cst (.int 48271))) (.bin .Mod (.var 3) (.cst (.int 2147483629)))) (.bin .Mult (.cst (.int 7)) (.ix (.var 0) (.cst (.int 1))))) (.cst (.int 2147483647)))) (.cons (.ret (.bin .Mod (.bin .FloorDiv (.bin .Mod (.bin .Mult (.ix (.var 0) (.cst (.int 3))) (.cst (.int 69621))) (.cst (.int 2147483629))) (.cst (.int 64))) (.var 1))) .nil)))))))
def f__law_next : Fn := mkFn "_law_next" ["_law_state", "_law_below"] 4 1 b__law_next
@[simp] theorem asg__law_next : f__law_next.asg = [] := by decide +kernel
theorem u__law_next {as : List Slot} {Y : Res → List Slot → Prop} : w2 (f__law_next.run as) Y ↔ as.length = 2 ∧ w2 (evSL b__law_next (as ++ List.replicate 2 .un)) fun f e => wfin 2 [] f e Y := by
  exact run_ok rfl rfl (by decide +kernel)
def b__law_many : SL := (.cons (.ret (.ix (.lst (.cons (.bin .Add (.cst (.int 1)) (.call f__law_next (.cons (.var 0) (.cons (.b2 .min (.cst (.int 5)) (.var 1)) .nil)))) (.cons (.var 1) .nil))) (.b1 .int (.cmp .Eq (.call f__law_next (.cons (.var 0) (.cons (.cst (.int 6)) .nil))) (.cst (.int 5)))))) .nil)
def f__law_many : Fn := mkFn "_law_many" ["_law_state", "_law_most"] 2 2 b__law_many
@[simp] theorem asg__law_many : f__law_many.asg = [] := by decide +kernel
theorem u__law_many {as : List Slot} {Y : Res → List Slot → Prop} : w2 (f__law_many.run as) Y ↔ as.length = 2 ∧ w2 (evSL b__law_many (as ++ List.replicate 0 .un)) fun f e => wfin 2 [] f e Y := by
  exact run_ok rfl rfl (by decide +kernel)
def b__law_order : SL := (.cons (.asg 2 (.lrng (.var 1))) (.cons (.asg 3 (.lst .nil)) (.cons (.whl (.cmp .Gt (.b1 .len (.var 2)) (.cst (.int 0))) (.cons (.exp (.app 3 (.popAt 2 (.call f__law_next (.cons (.var 0) (.cons (.b1 .len (.var 2)) .nil)))))) .nil)) (.cons (.ret (.b1 .tup (.var 3))) .nil))))
def f__law_order : Fn := mkFn "_law_order" ["_law_state", "_law_many_here"] 4 2 b__law_order
@[simp] theorem asg__law_order : f__law_order.asg = [] := by decide +kernel
theorem u__law_order {as : List Slot} {Y : Res → List Slot → Prop} : w2 (f__law_order.run as) Y ↔ as.length = 2 ∧ w2 (evSL b__law_order (as ++ List.replicate 2 .un)) fun f e => wfin 2 [] f e Y := by
  exact run_ok rfl rfl (by decide +kernel)
def b__law_far : SL := (.cons (.asg 2 (.cst (.int 0))) (.cons (.asg 3 (.cst (.int 1))) (.cons (.whl (.cmp .Lt (.var 3) (.var 1)) (.cons (.asg 2 (.bin .Add (.bin .Mult (.var 2) (.cst (.int 1000000))) (.call f__law_next (.cons (.var 0) (.cons (.cst (.int 1000000)) .nil))))) (.cons (.asg 3 (.bin .Mult (.var 3) (.cst (.int 1000000)))) .nil))) (.cons (.ret (.bin .Mod (.var 2) (.var 1))) .nil))))
def f__law_far : Fn := mkFn "_law_far" ["_law_state", "_law_far_here"] 4 2 b__law_far
@[simp] theorem asg__law_far : f__law_far.asg = [] := by decide +kernel
theorem u__law_far {as : List Slot} {Y : Res → List Slot → Prop} : w2 (f__law_far.run as) Y ↔ as.length = 2 ∧ w2 (evSL b__law_far (as ++ List.replicate 2 .un)) fun f e => wfin 2 [] f e Y := by
  exact run_ok rfl rfl (by decide +kernel)
def b__law_mixture : SL := (.cons (.asg 3 (.lst .nil)) (.cons (.for_ false [4] .r1 (.bin .Add (.cst (.int 1)) (.call f__law_next (.cons (.var 0) (.cons (.cst (.int 6)) .nil)))) .no (.cons (.asg 5 (.call f__law_order (.cons (.var 0) (.cons (.var 1) .nil)))) (.cons (.ife (.bop true (.cons (.cmp .Eq (.call f__law_next (.cons (.var 0) (.cons (.cst (.int 5)) .nil))) (.cst (.int 0))) (.cons (.cmp .Gt (.b1 .len (.var 3)) (.cst (.int 0))) .nil))) (.cons (.asg 5 (.ix (.ix (.var 3) (.neg (.cst (.int 1)))) (.cst (.int 1)))) .nil) .nil) (.cons (.exp (.app 3 (.tup (.cons (.bin .Add (.cst (.int 1)) (.call f__law_far (.cons (.var 0) (.cons (.ix (.lst (.cons (.cst (.int 3)) (.cons (.var 2) .nil))) (.call f__law_next (.cons (.var 0) (.cons (.cst (.int 2)) .nil)))) .nil)))) (.cons (.var 5) .nil))))) .nil)))) (.cons (.ret (.b1 .tup (.var 3))) .nil)))
def f__law_mixture : Fn := mkFn "_law_mixture" ["_law_state", "_law_many_here", "_law_far_here"] 6 3 b__law_mixture
@[simp] theorem asg__law_mixture : f__law_mixture.asg = [] := by decide +kernel
theorem u__law_mixture {as : List Slot} {Y : Res → List Slot → Prop} : w2 (f__law_mixture.run as) Y ↔ as.length = 3 ∧ w2 (evSL b__law_mixture (as ++ List.replicate 3 .un)) fun f e => wfin 3 [] f e Y := by
  exact run_ok rfl rfl (by decide +kernel)
def b__law_deep : SL := (.cons (.asg 1 (.tup .nil)) (.cons (.for_ false [2] .r1 (.var 0) .no (.cons (.asg 1 (.ix (.lst (.cons (.tup (.cons (.var 1) .nil)) (.cons (.lst (.cons (.var 1) .nil)) (.cons (.dspe (.var 2) (.var 1)) .nil)))) (.bin .Mod (.var 2) (.cst (.int 3))))) .nil)) (.cons (.ret (.var 1)) .nil)))
def f__law_deep : Fn := mkFn "_law_deep" ["_law_many_here"] 3 1 b__law_deep
@[simp] theorem asg__law_deep : f__law_deep.asg = [] := by decide +kernel
theorem u__law_deep {as : List Slot} {Y : Res → List Slot → Prop} : w2 (f__law_deep.run as) Y ↔ as.length = 1 ∧ w2 (evSL b__law_deep (as ++ List.replicate 2 .un)) fun f e => wfin 1 [] f e Y := by
  exact run_ok rfl rfl (by decide +kernel)
def b__law_odd : SL := (.cons (.asg 1 (.lst (.cons (.cst .none) (.cons (.cst (.bool true)) (.cons (.cst (.int 0)) (.cons (.cst (.int 1)) (.cons (.neg (.cst (.int 1))) (.cons (.bin .Pow (.cst (.int 10)) (.cst (.int 59))) (.cons (.cst (.str "")) (.cons (.cst (.str "1")) (.cons (.tup .nil) (.cons (.lst .nil) (.cons .dct (.cons (.tup (.cons (.tup .nil) .nil)) (.cons (.lst (.cons (.tup .nil) .nil)) (.cons (.tup (.cons (.cst .none) .nil)) .nil)))))))))))))))) (.cons (.asg 1 (.bin .Add (.var 1) (.lst (.cons (.dsp (.inr (Str.ofString "a")) (.cst (.int 1))) (.cons (.tup (.cons (.tup (.cons (.cst (.int 1)) .nil)) .nil)) (.cons (.tup (.cons (.cst (.int 1)) (.cons (.tup (.cons (.cst (.int 0)) .nil)) .nil))) (.cons (.call f__law_deep (.cons (.cst (.int 20)) .nil)) .nil))))))) (.cons (.ret (.ix (.var 1) (.call f__law_next (.cons (.var 0) (.cons (.cst (.int 18)) .nil))))) .nil)))
def f__law_odd : Fn := mkFn "_law_odd" ["_law_state"] 2 2 b__law_odd
@[simp] theorem asg__law_odd : f__law_odd.asg = [] := by decide +kernel
theorem u__law_odd {as : List Slot} {Y : Res → List Slot → Prop} : w2 (f__law_odd.run as) Y ↔ as.length = 1 ∧ w2 (evSL b__law_odd (as ++ List.replicate 1 .un)) fun f e => wfin 1 [] f e Y := by
  exact run_ok rfl rfl (by decide +kernel)
def b__law_bent_order : SL := (.cons (.asg 3 (.call f__law_next (.cons (.var 0) (.cons (.var 1) .nil)))) (.cons (.asg 4 (.ix (.lst (.cons (.var 1) (.cons (.neg (.cst (.int 1))) (.cons (.ix (.var 2) (.bin .Sub (.var 3) (.cst (.int 1)))) (.cons (.cmp .Eq (.ix (.var 2) (.var 3)) (.cst (.int 1))) (.cons (.cst .none) (.cons (.cst (.str "0")) (.cons (.tup (.cons (.ix (.var 2) (.var 3)) .nil)) .nil)))))))) (.call f__law_next (.cons (.var 0) (.cons (.cst (.int 7)) .nil))))) (.cons (.asg 5 (.bin .Add (.bin .Add (.sl (.var 2) .no (.var 3)) (.tup (.cons (.var 4) .nil))) (.sl (.var 2) (.bin .Add (.var 3) (.cst (.int 1))) .no))) (.cons (.asg 6 (.lst (.cons (.bin .Add (.sl (.var 2) .no (.var 3)) (.sl (.var 2) (.bin .Add (.var 3) (.cst (.int 1))) .no)) (.cons (.bin .Add (.var 2) (.tup (.cons (.var 3) .nil))) (.cons (.bin .Add (.var 2) (.tup (.cons (.var 1) .nil))) (.cons (.b1 .lst (.var 2)) (.cons (.var 5) (.cons (.var 5) .nil)))))))) (.cons (.ret (.ix (.bin .Add (.var 6) (.lst (.cons (.call f__law_odd (.cons (.var 0) .nil)) .nil))) (.call f__law_next (.cons (.var 0) (.cons (.cst (.int 7)) .nil))))) .nil)))))
def f__law_bent_order : Fn := mkFn "_law_bent_order" ["_law_state", "_law_many_here", "_law_order_here"] 7 3 b__law_bent_order
@[simp] theorem asg__law_bent_order : f__law_bent_order.asg = [] := by decide +kernel
theorem u__law_bent_order {as : List Slot} {Y : Res → List Slot → Prop} : w2 (f__law_bent_order.run as) Y ↔ as.length = 3 ∧ w2 (evSL b__law_bent_order (as ++ List.replicate 4 .un)) fun f e => wfin 3 [] f e Y := by
  exact run_ok rfl rfl (by decide +kernel)
def b__law_bent_pair : SL := (.cons (.asgT [3, 4] (.var 2)) (.cons (.asg 5 (.lst (.cons (.tup (.cons (.cst (.int 0)) (.cons (.var 4) .nil))) (.cons (.tup (.cons (.neg (.cst (.int 1))) (.cons (.var 4) .nil))) (.cons (.tup (.cons (.cst (.bool true)) (.cons (.var 4) .nil))) (.cons (.tup (.cons (.b1 .str (.var 3)) (.cons (.var 4) .nil))) (.cons (.tup (.cons (.cst .none) (.cons (.var 4) .nil))) (.cons (.tup (.cons (.var 3) .nil)) .nil)))))))) (.cons (.asg 5 (.bin .Add (.var 5) (.lst (.cons (.tup (.cons (.var 3) (.cons (.var 4) (.cons (.cst (.int 0)) .nil)))) (.cons (.lst (.cons (.var 3) (.cons (.var 4) .nil))) (.cons (.tup (.cons (.var 4) (.cons (.var 3) .nil))) (.cons (.tup (.cons (.bin .Sub (.cst (.int 0)) (.var 3)) (.cons (.var 4) .nil))) .nil))))))) (.cons (.asg 5 (.bin .Add (.var 5) (.bin .Mult (.lst (.cons (.tup (.cons (.var 3) (.cons (.call f__law_bent_order (.cons (.var 0) (.cons (.var 1) (.cons (.var 4) .nil)))) .nil))) .nil)) (.cst (.int 8))))) (.cons (.ret (.ix (.var 5) (.call f__law_next (.cons (.var 0) (.cons (.cst (.int 18)) .nil))))) .nil)))))
def f__law_bent_pair : Fn := mkFn "_law_bent_pair" ["_law_state", "_law_many_here", "_law_pair"] 6 4 b__law_bent_pair
@[simp] theorem asg__law_bent_pair : f__law_bent_pair.asg = [] := by decide +kernel
theorem u__law_bent_pair {as : List Slot} {Y : Res → List Slot → Prop} : w2 (f__law_bent_pair.run as) Y ↔ as.length = 3 ∧ w2 (evSL b__law_bent_pair (as ++ List.replicate 3 .un)) fun f e => wfin 3 [] f e Y := by
  exact run_ok rfl rfl (by decide +kernel)
def b__law_bent_mixture : SL := (.cons (.asg 3 (.call f__law_next (.cons (.var 0) (.cons (.cst (.int 8)) .nil)))) (.cons (.ife (.cmp .Eq (.var 3) (.cst (.int 0))) (.cons (.ret (.call f__law_odd (.cons (.var 0) .nil))) .nil) .nil) (.cons (.ife (.cmp .Eq (.var 3) (.cst (.int 1))) (.cons (.asg 4 (.lst (.cons (.b1 .lst (.var 2)) (.cons (.tup .nil) (.cons (.bin .Add (.var 2) (.tup (.cons (.tup .nil) .nil))) (.cons (.bin .Add (.var 2) (.tup (.cons (.cst (.int 0)) .nil))) (.cons (.ix (.var 2) (.cst (.int 0))) (.cons (.tup (.cons (.var 2) .nil)) .nil)))))))) (.cons (.ret (.ix (.var 4) (.call f__law_next (.cons (.var 0) (.cons (.cst (.int 6)) .nil))))) .nil)) .nil) (.cons (.asg 5 (.call f__law_next (.cons (.var 0) (.cons (.b1 .len (.var 2)) .nil)))) (.cons (.asg 6 (.call f__law_bent_pair (.cons (.var 0) (.cons (.var 1) (.cons (.ix (.var 2) (.var 5)) .nil))))) (.cons (.ret (.bin .Add (.bin .Add (.sl (.var 2) .no (.var 5)) (.tup (.cons (.var 6) .nil))) (.sl (.var 2) (.bin .Add (.var 5) (.cst (.int 1))) .no))) .nil))))))
def f__law_bent_mixture : Fn := mkFn "_law_bent_mixture" ["_law_state", "_law_many_here", "_law_mixture_here"] 7 5 b__law_bent_mixture
@[simp] theorem asg__law_bent_mixture : f__law_bent_mixture.asg = [] := by decide +kernel
theorem u__law_bent_mixture {as : List Slot} {Y : Res → List Slot → Prop} : w2 (f__law_bent_mixture.run as) Y ↔ as.length = 3 ∧ w2 (evSL b__law_bent_mixture (as ++ List.replicate 4 .un)) fun f e => wfin 3 [] f e Y := by
  exact run_ok rfl rfl (by decide +kernel)
def b__law_says : SL := (.cons (.ret (.bop true (.cons (.isi (.var 0) "bool") (.cons (.cmp .Eq (.var 0) (.var 1)) .nil)))) .nil)
def f__law_says : Fn := mkFn "_law_says" ["_law_found", "_law_due"] 2 1 b__law_says
@[simp] theorem asg__law_says : f__law_says.asg = [] := by decide +kernel
theorem u__law_says {as : List Slot} {Y : Res → List Slot → Prop} : w2 (f__law_says.run as) Y ↔ as.length = 2 ∧ w2 (evSL b__law_says (as ++ List.replicate 0 .un)) fun f e => wfin 2 [] f e Y := by
  exact run_ok rfl rfl (by decide +kernel)
def b_is_whole : SL := (.cons (.ret (.bop true (.cons (.isi (.var 0) "int") (.cons (.not (.isi (.var 0) "bool")) .nil)))) .nil)
def f_is_whole : Fn := mkFn "is_whole" ["thing"] 1 1 b_is_whole
@[simp] theorem asg_is_whole : f_is_whole.asg = [] := by decide +kernel
theorem u_is_whole {as : List Slot} {Y : Res → List Slot → Prop} : w2 (f_is_whole.run as) Y ↔ as.length = 1 ∧ w2 (evSL b_is_whole (as ++ List.replicate 0 .un)) fun f e => wfin 1 [] f e Y := by
  exact run_ok rfl rfl (by decide +kernel)
def b_is_many : SL := (.cons (.ret (.bop true (.cons (.call f_is_whole (.cons (.var 0) .nil)) (.cons (.chn .LtE .LtE (.cst (.int 1)) (.var 0) (.glo "MOST" (.int 10))) .nil)))) .nil)
def f_is_many : Fn := mkFn "is_many" ["thing"] 1 2 b_is_many
@[simp] theorem asg_is_many : f_is_many.asg = [] := by decide +kernel
theorem u_is_many {as : List Slot} {Y : Res → List Slot → Prop} : w2 (f_is_many.run as) Y ↔ as.length = 1 ∧ w2 (evSL b_is_many (as ++ List.replicate 0 .un)) fun f e => wfin 1 [] f e Y := by
  exact run_ok rfl rfl (by decide +kernel)
def b_is_thing : SL := (.cons (.ret (.bop true (.cons (.call f_is_whole (.cons (.var 1) .nil)) (.cons (.chn .LtE .Lt (.cst (.int 0)) (.var 1) (.var 0)) .nil)))) .nil)
def f_is_thing : Fn := mkFn "is_thing" ["many", "thing"] 2 2 b_is_thing
@[simp] theorem asg_is_thing : f_is_thing.asg = [] := by decide +kernel
theorem u_is_thing {as : List Slot} {Y : Res → List Slot → Prop} : w2 (f_is_thing.run as) Y ↔ as.length = 2 ∧ w2 (evSL b_is_thing (as ++ List.replicate 0 .un)) fun f e => wfin 2 [] f e Y := by
  exact run_ok rfl rfl (by decide +kernel)
def b_is_order : SL := (.cons (.ife (.bop false (.cons (.not (.call f_is_many (.cons (.var 0) .nil))) (.cons (.not (.isi (.var 1) "tuple")) (.cons (.cmp .NotEq (.b1 .len (.var 1)) (.var 0)) .nil)))) (.cons (.ret (.cst (.bool false))) .nil) .nil) (.cons (.for_ false [2] .seq (.var 1) .no (.cons (.ife (.not (.call f_is_thing (.cons (.var 0) (.cons (.var 2) .nil)))) (.cons (.ret (.cst (.bool false))) .nil) .nil) .nil)) (.cons (.ret (.cmp .Eq (.lset (.var 1)) (.var 0))) .nil)))
def f_is_order : Fn := mkFn "is_order" ["many", "thing"] 3 3 b_is_order
@[simp] theorem asg_is_order : f_is_order.asg = [] := by decide +kernel
theorem u_is_order {as : List Slot} {Y : Res → List Slot → Prop} : w2 (f_is_order.run as) Y ↔ as.length = 2 ∧ w2 (evSL b_is_order (as ++ List.replicate 1 .un)) fun f e => wfin 2 [] f e Y := by
  exact run_ok rfl rfl (by decide +kernel)
def b_is_counted : SL := (.cons (.ife (.bop false (.cons (.not (.isi (.var 1) "tuple")) (.cons (.cmp .NotEq (.b1 .len (.var 1)) (.cst (.int 2))) .nil))) (.cons (.ret (.cst (.bool false))) .nil) .nil) (.cons (.ret (.bop true (.cons (.call f_is_whole (.cons (.ix (.var 1) (.cst (.int 0))) .nil)) (.cons (.cmp .Gt (.ix (.var 1) (.cst (.int 0))) (.cst (.int 0))) (.cons (.call f_is_order (.cons (.var 0) (.cons (.ix (.var 1) (.cst (.int 1))) .nil))) .nil))))) .nil))
def f_is_counted : Fn := mkFn "is_counted" ["many", "thing"] 2 4 b_is_counted
@[simp] theorem asg_is_counted : f_is_counted.asg = [] := by decide +kernel
theorem u_is_counted {as : List Slot} {Y : Res → List Slot → Prop} : w2 (f_is_counted.run as) Y ↔ as.length = 2 ∧ w2 (evSL b_is_counted (as ++ List.replicate 0 .un)) fun f e => wfin 2 [] f e Y := by
  exact run_ok rfl rfl (by decide +kernel)
def b_is_mixture : SL := (.cons (.ife (.bop false (.cons (.not (.isi (.var 1) "tuple")) (.cons (.cmp .Eq (.b1 .len (.var 1)) (.cst (.int 0))) .nil))) (.cons (.ret (.cst (.bool false))) .nil) .nil) (.cons (.for_ false [2] .seq (.var 1) .no (.cons (.ife (.not (.call f_is_counted (.cons (.var 0) (.cons (.var 2) .nil)))) (.cons (.ret (.cst (.bool false))) .nil) .nil) .nil)) (.cons (.ret (.cst (.bool true))) .nil)))
def f_is_mixture : Fn := mkFn "is_mixture" ["many", "thing"] 3 5 b_is_mixture
@[simp] theorem asg_is_mixture : f_is_mixture.asg = [] := by decide +kernel
theorem u_is_mixture {as : List Slot} {Y : Res → List Slot → Prop} : w2 (f_is_mixture.run as) Y ↔ as.length = 2 ∧ w2 (evSL b_is_mixture (as ++ List.replicate 1 .un)) fun f e => wfin 2 [] f e Y := by
  exact run_ok rfl rfl (by decide +kernel)
def b__law_int : SL := (.cons (.ret (.bop true (.cons (.isi (.var 0) "int") (.cons (.not (.isi (.var 0) "bool")) .nil)))) .nil)
def f__law_int : Fn := mkFn "_law_int" ["_law_thing"] 1 1 b__law_int
@[simp] theorem asg__law_int : f__law_int.asg = [] := by decide +kernel
theorem u__law_int {as : List Slot} {Y : Res → List Slot → Prop} : w2 (f__law_int.run as) Y ↔ as.length = 1 ∧ w2 (evSL b__law_int (as ++ List.replicate 0 .un)) fun f e => wfin 1 [] f e Y := by
  exact run_ok rfl rfl (by decide +kernel)
def b__law_is_order : SL := (.cons (.ife (.bop false (.cons (.not (.isi (.var 1) "tuple")) (.cons (.cmp .NotEq (.b1 .len (.var 1)) (.var 0)) (.cons (.cmp .Gt (.b1 .len (.lc [("_law_one", 2)] false [2] .seq (.var 1) .no (.not (.call f__law_int (.cons (.var 2) .nil))) (.var 2))) (.cst (.int 0))) .nil)))) (.cons (.ret (.cst (.bool false))) .nil) .nil) (.cons (.ret (.cmp .Eq (.b1 .srt (.var 1)) (.lrng (.var 0)))) .nil))
def f__law_is_order : Fn := mkFn "_law_is_order" ["_law_many_here", "_law_thing"] 3 2 b__law_is_order
@[simp] theorem asg__law_is_order : f__law_is_order.asg = [] := by decide +kernel
theorem u__law_is_order {as : List Slot} {Y : Res → List Slot → Prop} : w2 (f__law_is_order.run as) Y ↔ as.length = 2 ∧ w2 (evSL b__law_is_order (as ++ List.replicate 1 .un)) fun f e => wfin 2 [] f e Y := by
  exact run_ok rfl rfl (by decide +kernel)
def b__law_is_mixture : SL := (.cons (.ife (.bop false (.cons (.not (.isi (.var 1) "tuple")) (.cons (.cmp .Eq (.var 1) (.tup .nil)) .nil))) (.cons (.ret (.cst (.bool false))) .nil) .nil) (.cons (.for_ false [2] .seq (.var 1) .no (.cons (.ife (.bop false (.cons (.not (.isi (.var 2) "tuple")) (.cons (.cmp .NotEq (.b1 .len (.var 2)) (.cst (.int 2))) (.cons (.not (.call f__law_int (.cons (.ix (.var 2) (.cst (.int 0))) .nil))) (.cons (.cmp .Lt (.ix (.var 2) (.cst (.int 0))) (.cst (.int 1))) .nil))))) (.cons (.ret (.cst (.bool false))) .nil) .nil) (.cons (.ife (.not (.call f__law_is_order (.cons (.var 0) (.cons (.ix (.var 2) (.cst (.int 1))) .nil)))) (.cons (.ret (.cst (.bool false))) .nil) .nil) .nil))) (.cons (.ret (.cst (.bool true))) .nil)))
def f__law_is_mixture : Fn := mkFn "_law_is_mixture" ["_law_many_here", "_law_thing"] 3 3 b__law_is_mixture
@[simp] theorem asg__law_is_mixture : f__law_is_mixture.asg = [] := by decide +kernel
theorem u__law_is_mixture {as : List Slot} {Y : Res → List Slot → Prop} : w2 (f__law_is_mixture.run as) Y ↔ as.length = 2 ∧ w2 (evSL b__law_is_mixture (as ++ List.replicate 1 .un)) fun f e => wfin 2 [] f e Y := by
  exact run_ok rfl rfl (by decide +kernel)
def b_law : SL := (.cons (.asg 1 (.lst (.cons (.var 0) (.cons (.cst (.int 0)) (.cons (.cst (.int 0)) (.cons (.cst (.int 23)) .nil)))))) (.cons (.asg 2 (.call f__law_many (.cons (.var 1) (.cons (.cst (.int 10)) .nil)))) (.cons (.asg 3 (.call f__law_mixture (.cons (.var 1) (.cons (.var 2) (.cons (.ix (.lst (.cons (.bin .Pow (.cst (.int 10)) (.cst (.int 18))) (.cons (.bin .Pow (.cst (.int 10)) (.cst (.int 59))) .nil))) (.call f__law_next (.cons (.var 1) (.cons (.cst (.int 2)) .nil)))) .nil))))) (.cons (.for_ false [4] .r1 (.cst (.int 6)) .no (.cons (.asg 5 (.call f__law_bent_mixture (.cons (.var 1) (.cons (.var 2) (.cons (.var 3) .nil))))) (.cons (.asg 6 (.rp true (.var 5))) (.cons (.for_ false [7] .seq (.lst (.cons (.var 2) (.cons (.b2 .min (.cst (.int 10)) (.bin .Add (.var 2) (.cst (.int 1)))) (.cons (.b2 .max (.cst (.int 1)) (.bin .Sub (.var 2) (.cst (.int 1)))) .nil)))) .no (.cons (.ife (.not (.call f__law_says (.cons (.call f_is_mixture (.cons (.var 7) (.cons (.var 5) .nil))) (.cons (.call f__law_is_mixture (.cons (.var 7) (.cons (.var 5) .nil))) .nil)))) (.cons (.ret (.cst (.bool false))) .nil) .nil) (.cons (.ife (.not (.call f__law_says (.cons (.call f_is_mixture (.cons (.var 7) (.cons (.var 3) .nil))) (.cons (.cmp .Eq (.var 7) (.var 2)) .nil)))) (.cons (.ret (.cst (.bool false))) .nil) .nil) .nil))) (.cons (.ife (.cmp .NotEq (.rp true (.var 5)) (.var 6)) (.cons (.ret (.cst (.bool false))) .nil) .nil) .nil))))) (.cons (.ret (.bop true (.cons (.cmp .Is (.call f_is_mixture (.cons (.var 2) (.cons (.var 3) .nil))) (.cst (.bool true))) (.cons (.cmp .Is (.call f_is_mixture (.cons (.var 2) (.cons (.b1 .lst (.var 3)) .nil))) (.cst (.bool false))) .nil)))) .nil)))))
def f_law : Fn := mkFn "law" ["_law_script"] 8 6 b_law
@[simp] theorem asg_law : f_law.asg = [] := by decide +kernel
theorem u_law {as : List Slot} {Y : Res → List Slot → Prop} : w2 (f_law.run as) Y ↔ as.length = 1 ∧ w2 (evSL b_law (as ++ List.replicate 7 .un)) fun f e => wfin 1 [] f e Y := by
  exact run_ok rfl rfl (by decide +kernel)
end Lw

/-! the law's own houses, drawn by a state -/
namespace Lw
open PySem L2 Ev
theorem fmod_r {a m : Int} (h : 0 < m) : 0 ≤ a.fmod m ∧ a.fmod m < m := ⟨Int.fmod_nonneg_of_pos a h, Int.fmod_lt_of_pos a h⟩
theorem fdiv_e {a m : Int} (h : 0 ≤ m) : a.fdiv m = a / m := Int.fdiv_eq_ediv_of_nonneg a h
theorem fmod_e {a m : Int} (h : 0 ≤ m) : a.fmod m = a % m := Int.fmod_eq_emod_of_nonneg a h
theorem two_e (m : Nat) : (2 : Int) ^ m = ((2 ^ m : Nat) : Int) := by simp
theorem p10 {m : Nat} (h : m ≤ 10) : 2 ^ m ≤ 1024 := Nat.le_trans (Nat.pow_le_pow_right (by omega) h) (by decide)
theorem p1 (m : Nat) : 1 ≤ 2 ^ m := Nat.two_pow_pos m
theorem p5 {m : Nat} (h : m ≤ 10) : (0 : Int) ≤ 2 ^ m ∧ (2 : Int) ^ m ≤ 1024 := ⟨Int.le_of_lt (Int.pow_pos (by decide)), by rw [two_e]; exact Int.ofNat_le.mpr (p10 h)⟩
theorem rng_len (m : Nat) : (rngL 0 ((2 : Int) ^ m)).length = 2 ^ m := by unfold rngL; rw [List.length_map, List.length_range, two_e, Int.sub_zero, Int.toNat_natCast]
def wI (m : Nat) (w : Nat → Int) : List Int := (List.range (2 ^ m)).map w
theorem wI_len (m : Nat) (w : Nat → Int) : (wI m w).length = 2 ^ m := by simp [wI]
theorem at_w {m : Nat} {w : Nat → Int} {n : Nat} (h : n < 2 ^ m) : atI ((wI m w).map PyData.int) (n : Int) = some (.int (w n)) := by
  rw [atI_lit, List.getElem?_map]
  unfold wI
  rw [List.getElem?_map, List.getElem?_range h]
  rfl
theorem wI_ne {m : Nat} {w : Nat → Int} : wI m w ≠ [] := fun e => by
  have := congrArg List.length e
  rw [wI_len] at this
  have := p1 m
  simp at *
theorem mem_wI {m : Nat} {w : Nat → Int} {x : Int} (h : x ∈ wI m w) : ∃ n, n < 2 ^ m ∧ x = w n := by
  unfold wI at h
  simp at h
  obtain ⟨n, h1, h2⟩ := h
  exact ⟨n, h1, h2.symm⟩
theorem wI_mem {m : Nat} {w : Nat → Int} {n : Nat} (h : n < 2 ^ m) : w n ∈ wI m w := by
  unfold wI
  exact List.mem_map.mpr ⟨n, List.mem_range.mpr h, rfl⟩
def hsD (m : Nat) (w : Nat → Int) : D := .tuple [.int (m : Int), .tuple ((wI m w).map .int)]
theorem wI_s {w : Nat → Int} (i : Nat) : (List.range (i + 1)).map w = (List.range i).map w ++ [w i] := by
  rw [List.range_succ, List.map_append]; rfl
theorem wI_of {m : Nat} {qs : List Int} (h : qs.length = 2 ^ m) : ∃ v : Nat → Int, qs = wI m v := by
  refine ⟨fun n => qs.getD n 0, ?_⟩
  apply List.ext_getElem
  · rw [wI_len, h]
  · intro i h1 h2
    unfold wI
    simp [List.getD_eq_getElem?_getD, h1]
def SL.dr : Nat → SL → SL
  | n + 1, .cons _ r => SL.dr n r
  | _, l => l
def Sd (ns : List Int) (l : List D) : Prop := ∃ p r s : Int, 0 ≤ p ∧ l = [.list (ns.map .int), .int p, .int r, .int s]
theorem t_lnext {ns : List Int} {l : List D} (hS : Sd ns l) (b : Int) (hb : 1 ≤ b) (hb2 : b ≤ 10 ^ 18) : w2 (f__law_next.run [.own l, .val (.int b)]) fun r bs => ∃ (l' : List D) (x : Int), Sd ns l' ∧ 0 ≤ x ∧ x < b ∧ r = .val (.int x) ∧ bs = [.own l', .val (.int b)] := by
  obtain ⟨p, r, s, h0, rfl⟩ := hS
  have i1 : ixN 4 1 = some 1 := rfl
  have i2 : ixN 4 2 = some 2 := rfl
  have i3 : ixN 4 3 = some 3 := rfl
  have hb0 : ¬ b = 0 := by omega
  have hlg : b.natAbs.log2 < 9000 := log2_s (by omega)
  simp [u__law_next, b__law_next, i1, i2, i3, hb0, hlg]
  split
  · have q := fmod_r (a := r) (m := b) (by omega)
    exact ⟨_, ⟨p, _, s, h0, rfl⟩, _, q.1, q.2, rfl, rfl⟩
  · have tail : ∀ c : Int, w2 (evSL (SL.dr 3 b__law_next) [.own [.list (ns.map .int), .int p, .int r, .int s], .val (.int b), .un, .val (.int c)]) fun f e => wfin 2 [] f e fun r bs => ∃ (l' : List D) (x : Int), Sd ns l' ∧ 0 ≤ x ∧ x < b ∧ r = .val (.int x) ∧ bs = [.own l', .val (.int b)] := fun c => by
      have q1 := fmod_r (a := c) (m := b) (by omega)
      have m1 : mulOk 7 (p + 1) = true := mulOk_l (by decide)
      simp [b__law_next, SL.dr, i1, i2, i3, hb0, hlg, m1]
      split
      · exact ⟨_, ⟨p + 1, _, s, by omega, rfl⟩, _, q1.1, q1.2, rfl, rfl⟩
      · have q2 := fmod_r (a := ((((s * 48271 + c.fmod 2147483629 + 7 * (p + 1)).fmod 2147483647) * 69621).fmod 2147483629).fdiv 64) (m := b) (by omega)
        exact ⟨_, ⟨p + 1, r, _, by omega, rfl⟩, _, q2.1, q2.2, rfl, rfl⟩
    simp [b__law_next, SL.dr, i1, i2, i3, hb0, hlg] at tail
    split
    · rename_i hp
      have a1 := at_map (os := ns) (i := p) h0 hp
      simp [a1, i1, i2, i3, hb0, hlg]
      exact tail _
    · simpa using tail 0
theorem bcnt_s (n : Nat) : ∀ k, bcnt n (k + 1) = n % 2 + bcnt (n / 2) k
  | 0 => by
    unfold bcnt bcnt
    rw [Nat.testBit_zero]
    rcases Nat.mod_two_eq_zero_or_one n with h | h <;> simp [h]
  | k + 1 => by
    rw [show bcnt n (k + 1 + 1) = bcnt n (k + 1) + (if n.testBit (k + 1) then 1 else 0) from rfl, bcnt_s n k, show bcnt (n / 2) (k + 1) = bcnt (n / 2) k + (if (n / 2).testBit k then 1 else 0) from rfl, Nat.testBit_succ]
    omega
theorem thI_get {P : Prop} {as : List Int} {i : Nat} {d : D} (hd : (as.map PyData.int)[i]? = some d) (k : ∀ y, i < as.length → as[i]? = some y → d = .int y → P) : P := by
  rw [List.getElem?_map] at hd
  cases e : as[i]? with
  | none => rw [e] at hd; cases hd
  | some y =>
    rw [e] at hd
    cases hd
    exact k y (List.getElem?_eq_some_iff.mp e).1 e rfl
theorem enum_get {as : List Int} {i : Nat} {d : D} (hd : (enumL 0 (as.map PyData.int))[i]? = some d) : ∃ y, as[i]? = some y ∧ d = .tuple [.int (i : Int), .int y] := by
  rw [enumL_get, List.getElem?_map] at hd
  cases e : as[i]? with
  | none => rw [e] at hd; cases hd
  | some y =>
    rw [e] at hd
    cases hd
    exact ⟨y, rfl, by simp⟩
structure Hs (m : Nat) (w : Nat → Int) : Prop where
  h1 : 1 ≤ m
  h10 : m ≤ 10
theorem zip_get : ∀ {as bs : List Int} {i : Nat} {d : D}, (zipL (as.map .int) (bs.map .int))[i]? = some d → i < as.length ∧ ∃ a b, as[i]? = some a ∧ bs[i]? = some b ∧ d = .tuple [.int a, .int b]
  | a :: as, b :: bs, 0, d, h => by
    simp [zipL] at h
    exact ⟨by simp, a, b, rfl, rfl, h.symm⟩
  | a :: as, b :: bs, i + 1, d, h => by
    have := zip_get (as := as) (bs := bs) (i := i) (d := d) (by simpa [zipL] using h)
    exact ⟨by simp; omega, by simpa using this.2⟩
  | [], _, _, _, h => by simp [zipL] at h
  | _ :: _, [], _, _, h => by simp [zipL] at h
theorem zip_len {as bs : List Int} (h : as.length = bs.length) : (zipL (as.map PyData.int) (bs.map PyData.int)).length = as.length := by
  rw [zipL_length, List.length_map, List.length_map]
  omega
theorem t_many {ns : List Int} {l : List D} (hS : Sd ns l) : w2 (f__law_many.run [.own l, .val (.int 10)]) fun r bs => ∃ (l' : List D) (m : Nat), Sd ns l' ∧ 1 ≤ m ∧ m ≤ 10 ∧ r = .val (.int (m : Int)) ∧ bs = [.own l', .val (.int 10)] := by
  simp [u__law_many, b__law_many]
  refine w2_mono (t_lnext hS 5 (by decide) (by decide)) ?_
  rintro _ _ ⟨l1, x, g1, g2, g3, rfl, rfl⟩
  simp
  refine w2_mono (t_lnext g1 6 (by decide) (by decide)) ?_
  rintro _ _ ⟨l2, y, k1, k2, k3, rfl, rfl⟩
  simp
  split
  · simp
    exact ⟨l2, k1, 10, by decide, by decide, rfl, rfl⟩
  · simp
    exact ⟨l2, k1, (1 + x).toNat, by omega, by omega, by omega, rfl⟩
theorem erase_map {α β : Type} (f : α → β) : ∀ (l : List α) (i : Nat), (l.map f).eraseIdx i = (l.eraseIdx i).map f
  | [], _ => rfl
  | _ :: _, 0 => rfl
  | a :: l, i + 1 => congrArg (f a :: ·) (erase_map f l i)
theorem erase_perm {α : Type} : ∀ (l : List α) (i : Nat) (h : i < l.length), (l[i] :: l.eraseIdx i).Perm l
  | a :: l, 0, _ => .refl _
  | a :: l, i + 1, h => (List.Perm.swap _ _ _).trans ((erase_perm l i (by simpa using h)).cons a)
  | [], _, h => by simp at h
theorem t_order {ns : List Int} {l : List D} (hS : Sd ns l) (m : Nat) (hm : m ≤ 10) : w2 (f__law_order.run [.own l, .val (.int (m : Int))]) fun r bs => ∃ (l' : List D) (o : List Nat), Sd ns l' ∧ Ord m o ∧ r = .val (.tuple ((natI o).map .int)) ∧ bs = [.own l', .val (.int (m : Int))] := by
  have e0 : rngL 0 (m : Int) = (natI (List.range m)).map .int := by
    unfold rngL natI
    rw [List.map_map]
    simp
  simp [u__law_order, b__law_order, e0]
  refine ⟨by omega, ?_⟩
  refine r_whl (fun k env => Iv (∃ (l' : List D) (f q : List Nat), Sd ns l' ∧ q.length = k ∧ (f ++ q).Perm (List.range m) ∧ env = [Slot.own l', .val (.int (m : Int)), .own ((natI q).map .int), .own ((natI f).map .int)])) m ⟨l, [], _, hS, List.length_range, .refl _, rfl⟩ ?_
  rintro k env ⟨l1, f, q, g1, rfl, hp, rfl⟩
  have hl := hp.length_eq
  simp at hl
  simp [natI_len]
  split
  · rename_i hpos
    refine w2_mono (t_lnext g1 (q.length : Int) (by omega) (by omega)) ?_
    rintro _ _ ⟨l2, x, k1, k2, k3, rfl, rfl⟩
    obtain ⟨i, rfl⟩ : ∃ i : Nat, x = (i : Int) := ⟨_, (Int.toNat_of_nonneg k2).symm⟩
    have hil : i < q.length := by omega
    simp [natI_len, hil, natI_get]
    refine ⟨by omega, (q.eraseIdx i).length, by rw [List.length_eraseIdx_of_lt hil]; omega, l2, f ++ [q[i]], q.eraseIdx i, k1, rfl, ?_, ?_⟩
    · refine List.Perm.trans ?_ hp
      rw [List.append_assoc]
      exact List.Perm.append_left f (erase_perm q i hil)
    · have e1 : (List.map PyData.int (natI q)).eraseIdx i = List.map PyData.int (natI (q.eraseIdx i)) := by
        unfold natI
        rw [erase_map, erase_map]
      rw [e1, natI_app]
      simp [natI]
  · rename_i h0
    have : q = [] := List.eq_nil_of_length_eq_zero (by omega)
    subst this
    exact ⟨l1, g1, f, Ord.of (by simpa using hp), rfl, rfl⟩
end Lw

/-! values, dicts among them; how long their texts are -/
namespace Lw
open PySem L2 Ev
mutual
def okI : D → Bool
  | .int i => decide (i.natAbs < 10 ^ 60)
  | .str x => x.cps.toList.all fun c => decide (c < 16 ^ 8)
  | .tuple l => okIL l
  | .list l => okIL l
  | .dict l => !spcL l && okIK l
  | .none => true
  | .bool _ => true
def okIL : List D → Bool
  | [] => true
  | d :: l => okI d && okIL l
def okIK : List (D × D) → Bool
  | [] => true
  | (k, d) :: l => okI k && (okI d && okIK l)
end
theorem okIL_all : ∀ {l : List D}, okIL l = true ↔ ∀ d ∈ l, okI d = true
  | [] => by simp [okIL]
  | d :: l => by rw [okIL, Bool.and_eq_true, okIL_all]; simp
theorem int60 {i : Int} (h : i.natAbs < 10 ^ 60) : (PyData.shown (.int i)).length ≤ 70 ∧ i.natAbs.log2 < 1920 := by
  have e := int_text_length_le10 (k := 60) (by decide) h
  refine ⟨?_, ?_⟩
  · rw [PyData.shown]
    show (Str.ofString (toString i)).length ≤ 70
    rw [ofString_length]
    omega
  · by_cases z : i.natAbs = 0
    · rw [z]; decide
    · exact (Nat.log2_lt z).mpr (Nat.lt_of_lt_of_le h (by decide +kernel))
mutual
theorem okI_d : ∀ {d : D}, okI d = true → okD d = true ∧ d.showable = true ∧ d.leavesShort 70 = true
  | .int i, h => by
    rw [okI, decide_eq_true_eq] at h
    obtain ⟨a, b⟩ := int60 h
    refine ⟨rfl, ?_, ?_⟩
    · rw [PyData.showable, decide_eq_true_eq]; exact b
    · rw [PyData.leavesShort, decide_eq_true_eq]; exact a
  | .none, _ => ⟨rfl, rfl, rfl⟩
  | .bool _, _ => ⟨rfl, rfl, rfl⟩
  | .str x, h => ⟨rfl, rfl, by rw [PyData.leavesShort]; rw [okI] at h; exact h⟩
  | .tuple l, h => by
    rw [okI] at h
    obtain ⟨a, b, c⟩ := okI_dL h
    exact ⟨by rw [okD]; exact a, by rw [PyData.showable]; exact b, by rw [PyData.leavesShort]; exact c⟩
  | .list l, h => by
    rw [okI] at h
    obtain ⟨a, b, c⟩ := okI_dL h
    exact ⟨by rw [okD]; exact a, by rw [PyData.showable]; exact b, by rw [PyData.leavesShort]; exact c⟩
  | .dict l, h => by
    rw [okI, Bool.and_eq_true] at h
    obtain ⟨a, b, c⟩ := okI_dK h.2
    exact ⟨by rw [okD, h.1, a]; rfl, by rw [PyData.showable]; exact b, by rw [PyData.leavesShort]; exact c⟩
theorem okI_dL : ∀ {l : List D}, okIL l = true → okDL l = true ∧ PyData.showableAll l = true ∧ PyData.leavesShortAll 70 l = true
  | [], _ => ⟨rfl, rfl, rfl⟩
  | d :: l, h => by
    rw [okIL, Bool.and_eq_true] at h
    obtain ⟨a, b, c⟩ := okI_d h.1
    obtain ⟨a2, b2, c2⟩ := okI_dL h.2
    exact ⟨by rw [okDL, a, a2]; rfl, by rw [PyData.showableAll, b, b2]; rfl, by rw [PyData.leavesShortAll, c, c2]; rfl⟩
theorem okI_dK : ∀ {l : List (D × D)}, okIK l = true → okDK l = true ∧ PyData.showableKv l = true ∧ PyData.leavesShortKv 70 l = true
  | [], _ => ⟨rfl, rfl, rfl⟩
  | (k, d) :: l, h => by
    rw [okIK, Bool.and_eq_true, Bool.and_eq_true] at h
    obtain ⟨_, b0, c0⟩ := okI_d h.1
    obtain ⟨a, b, c⟩ := okI_d h.2.1
    obtain ⟨a2, b2, c2⟩ := okI_dK h.2.2
    exact ⟨by rw [okDK, a, a2]; rfl, by rw [PyData.showableKv, b0, b, b2]; rfl, by rw [PyData.leavesShortKv, c0, c, c2]; rfl⟩
end
theorem depthAll_le {k : Nat} : ∀ {l : List D}, PyData.depthAll l ≤ k ↔ ∀ d ∈ l, d.depth ≤ k
  | [] => by simp [PyData.depthAll]
  | d :: l => by
    rw [PyData.depthAll, Nat.max_le, depthAll_le]
    simp
theorem bulk_mem : ∀ {l : List D} {d : D}, d ∈ l → d.bulk + 1 ≤ PyData.bulkAll l
  | a :: l, d, h => by
    rw [PyData.bulkAll]
    rcases List.mem_cons.mp h with rfl | h
    · omega
    · have := bulk_mem h
      omega
theorem bulk_len : ∀ l : List D, l.length ≤ PyData.bulkAll l
  | [] => Nat.le_refl _
  | a :: l => by
    have := bulk_len l
    rw [PyData.bulkAll, List.length_cons]
    omega
theorem bulk_le {c : Nat} : ∀ {l : List D}, (∀ d ∈ l, d.bulk ≤ c) → PyData.bulkAll l ≤ l.length * (c + 1)
  | [], _ => Nat.zero_le _
  | a :: l, h => by
    have h1 := h a List.mem_cons_self
    have h2 := bulk_le fun d hd => h d (List.mem_cons_of_mem _ hd)
    rw [PyData.bulkAll, List.length_cons, Nat.succ_mul]
    omega
structure Ob (k c : Nat) (d : D) : Prop where
  i : okI d = true
  p : d.depth ≤ k
  b : d.bulk ≤ c
abbrev Ov (k : Nat) (d : D) : Prop := Ob k 5000 d
theorem Ob.spc {k c : Nat} {d : D} (h : Ob k c d) : spc d = false := by
  cases d with
  | dict l =>
    have h := h.i
    rw [okI, Bool.and_eq_true, Bool.not_eq_true'] at h
    exact h.1
  | _ => rfl
theorem Ob.mono {k k' c c' : Nat} {d : D} (h : Ob k c d) (hk : k ≤ k') (hc : c ≤ c') : Ob k' c' d := ⟨h.i, Nat.le_trans h.p hk, Nat.le_trans h.b hc⟩
theorem Ob.memT {k c : Nat} {l : List D} {d : D} (h : Ob (k + 1) c (.tuple l)) (hd : d ∈ l) : Ob k c d := by
  have h1 := h.i
  have h2 := h.p
  have h3 := h.b
  rw [okI, okIL_all] at h1
  rw [PyData.depth, Nat.add_le_add_iff_right, depthAll_le] at h2
  rw [PyData.bulk] at h3
  have := bulk_mem hd
  exact ⟨h1 d hd, h2 d hd, by omega⟩
theorem Ob.lenT {k c : Nat} {l : List D} (h : Ob k c (.tuple l)) : l.length ≤ c := by
  have h3 := h.b
  rw [PyData.bulk] at h3
  have := bulk_len l
  omega
theorem Ob.tup {k c : Nat} {l : List D} (h : ∀ d ∈ l, Ob k c d) : Ob (k + 1) (l.length * (c + 1)) (.tuple l) :=
  ⟨by rw [okI, okIL_all]; exact fun d hd => (h d hd).i, by rw [PyData.depth, Nat.add_le_add_iff_right, depthAll_le]; exact fun d hd => (h d hd).p, by rw [PyData.bulk]; exact bulk_le fun d hd => (h d hd).b⟩
theorem Ob.lst {k c : Nat} {l : List D} (h : ∀ d ∈ l, Ob k c d) : Ob (k + 1) (l.length * (c + 1)) (.list l) :=
  ⟨by rw [okI, okIL_all]; exact fun d hd => (h d hd).i, by rw [PyData.depth, Nat.add_le_add_iff_right, depthAll_le]; exact fun d hd => (h d hd).p, by rw [PyData.bulk]; exact bulk_le fun d hd => (h d hd).b⟩
theorem Ob.int {k c : Nat} {i : Int} (h : i.natAbs < 10 ^ 60) : Ob k c (.int i) := ⟨by rw [okI]; exact decide_eq_true h, Nat.zero_le _, Nat.zero_le _⟩
theorem Ob.bool {k c : Nat} (b : Bool) : Ob k c (.bool b) := ⟨rfl, Nat.zero_le _, Nat.zero_le _⟩
theorem Ob.none {k c : Nat} : Ob k c .none := ⟨rfl, Nat.zero_le _, Nat.zero_le _⟩
theorem Ob.ok {k : Nat} {d : D} (h : Ov k d) (hk : k ≤ 60) : okRx d = true := by
  obtain ⟨a, b, c⟩ := okI_d h.i
  have e := PyData.shown_le_bulk 70 (by decide) d c
  have hb := h.b
  have hp := h.p
  have hz : d.shown.length ≤ sizeLine := by rw [sizeLine_eq]; omega
  unfold okRx
  rw [a, b, decide_eq_true hz, decide_eq_true (show d.depth ≤ 64 by omega)]
  rfl
end Lw

namespace Lw
open PySem L2 Ev
def isI : D → Bool
  | .int _ => true
  | _ => false
theorem isI_e {d : D} : (isiv d "int" && !isiv d "bool") = isI d := by cases d <;> rfl
theorem t_iswh {d : D} (hs : spc d = false) {Y : Res → List Slot → Prop} : w2 (f_is_whole.run [.val d]) Y ↔ Y (.val (.bool (isI d))) [.val d] := by
  refine w2_of (w2_eq.mp ?_)
  rw [← isI_e]
  simp [u_is_whole, b_is_whole, hs]
  cases isiv d "int" <;> cases isiv d "bool" <;> simp
theorem t_lwh {d : D} (hs : spc d = false) {Y : Res → List Slot → Prop} : w2 (f__law_int.run [.val d]) Y ↔ Y (.val (.bool (isI d))) [.val d] := by
  refine w2_of (w2_eq.mp ?_)
  rw [← isI_e]
  simp [u__law_int, b__law_int, hs]
  cases isiv d "int" <;> cases isiv d "bool" <;> simp
theorem isI_int {d : D} (h : isI d = true) : ∃ i, d = .int i := by
  cases d with
  | int i => exact ⟨i, rfl⟩
  | _ => cases h
theorem t_ismanyG (m : Nat) (h1 : 1 ≤ m) (hm : m ≤ 10) {Y : Res → List Slot → Prop} : w2 (f_is_many.run [.val (.int (m : Int))]) Y ↔ Y (.val (.bool true)) [.val (.int (m : Int))] := by
  have a1 : (1 : Int) ≤ (m : Int) := by omega
  have a2 : (m : Int) ≤ 10 := by omega
  have a3 := fun Y => t_iswh (Y := Y) (d := .int (m : Int)) rfl
  refine w2_of (w2_eq.mp ?_)
  simp [u_is_many, b_is_many, a3, isI, a1, a2]
  try omega
def thB (m : Nat) : D → Bool
  | .int i => decide (0 ≤ i) && decide (i < (m : Int))
  | _ => false
theorem t_isthing (m : Nat) {d : D} (hs : spc d = false) {Y : Res → List Slot → Prop} : w2 (f_is_thing.run [.val (.int (m : Int)), .val d]) Y ↔ Y (.val (.bool (thB m d))) [.val (.int (m : Int)), .val d] := by
  have a3 := fun Y => t_iswh (Y := Y) (d := d) hs
  refine w2_of (w2_eq.mp ?_)
  cases d with
  | int i =>
    simp [u_is_thing, b_is_thing, a3, isI, thB]
    by_cases h : 0 ≤ i <;> simp [h]
  | _ =>
    simp [u_is_thing, b_is_thing, a3, isI, thB]
def nsB (m : Nat) (l : List D) : Bool := match intsD l with
  | some ns => decide (dcnt ns = m)
  | none => false
def isoB (m : Nat) : D → Bool
  | .tuple l => decide (l.length = m) && l.all (thB m) && nsB m l
  | _ => false
theorem th_ints {m : Nat} : ∀ {l : List D}, l.all (thB m) = true → ∃ ns : List Int, l = ns.map .int ∧ ∀ n ∈ ns, 0 ≤ n ∧ n < (m : Int)
  | [], _ => ⟨[], rfl, by simp⟩
  | d :: l, h => by
    simp only [List.all_cons, Bool.and_eq_true] at h
    obtain ⟨ns, rfl, h2⟩ := th_ints h.2
    cases d with
    | int i =>
      have h1 := h.1
      simp [thB] at h1
      exact ⟨i :: ns, rfl, fun n hn => (List.mem_cons.mp hn).elim (fun e => e ▸ h1) (h2 n)⟩
    | _ => simp [thB] at h
theorem intsD_map : ∀ ns : List Int, intsD (ns.map .int) = some ns
  | [] => rfl
  | n :: ns => by rw [List.map_cons, intsD, intsD_map ns]; rfl
theorem dcnt_le : ∀ ns : List Int, dcnt ns ≤ ns.length ∧ (dcnt ns = ns.length ↔ ns.Nodup)
  | [] => ⟨Nat.le_refl _, by simp [dcnt]⟩
  | a :: l => by
    obtain ⟨h1, h2⟩ := dcnt_le l
    rw [List.nodup_cons, ← h2]
    have e : dcnt (a :: l) = dcnt l + if a ∈ l then 0 else 1 := rfl
    rw [e]
    by_cases h : a ∈ l
    · simp [h]; omega
    · simp [h]; omega
theorem rng_ints (m : Nat) : rngL 0 (m : Int) = ((List.range m).map fun i : Nat => (i : Int)).map .int := by
  unfold rngL
  rw [List.map_map]
  simp
theorem inc_lo : ∀ (s : List Int) (c : Int), s.Pairwise (· < ·) → (∀ x ∈ s, c ≤ x) → ∀ (i : Nat) (x : Int), s[i]? = some x → c + (i : Int) ≤ x
  | [], _, _, _, i, x, h => by simp at h
  | a :: l, c, hp, hc, 0, x, h => by
    simp at h
    have := hc a List.mem_cons_self
    omega
  | a :: l, c, hp, hc, i + 1, x, h => by
    rw [List.pairwise_cons] at hp
    have ha := hc a List.mem_cons_self
    have := inc_lo l (c + 1) hp.2 (fun y hy => by have := hp.1 y hy; omega) i x (by simpa using h)
    omega
theorem inc_hi : ∀ (s : List Int) (c : Int), s.Pairwise (· < ·) → (∀ x ∈ s, x < c) → ∀ (i : Nat) (x : Int), s[i]? = some x → x + (s.length : Int) ≤ c + (i : Int)
  | [], _, _, _, i, x, h => by simp at h
  | [a], c, hp, hc, 0, x, h => by
    simp at h
    have := hc a List.mem_cons_self
    simp; omega
  | [a], c, hp, hc, i + 1, x, h => by simp at h
  | a :: b :: l, c, hp, hc, 0, x, h => by
    rw [List.pairwise_cons] at hp
    have h1 := hp.1 b List.mem_cons_self
    have := inc_hi (b :: l) c hp.2 (fun y hy => hc y (List.mem_cons_of_mem _ hy)) 0 b rfl
    simp at h
    simp at this ⊢
    omega
  | a :: b :: l, c, hp, hc, i + 1, x, h => by
    rw [List.pairwise_cons] at hp
    have := inc_hi (b :: l) c hp.2 (fun y hy => hc y (List.mem_cons_of_mem _ hy)) i x (by simpa using h)
    simp at this ⊢
    omega
theorem sort_rng {m : Nat} {ns : List Int} (hl : ns.length = m) (h : ∀ n ∈ ns, 0 ≤ n ∧ n < (m : Int)) : (sortI ns = (List.range m).map fun i : Nat => (i : Int)) ↔ dcnt ns = m := by
  have hp : (sortI ns).Perm ns := List.mergeSort_perm ns _
  have hr : ((List.range m).map fun i : Nat => (i : Int)).Nodup := by
    unfold List.Nodup
    rw [List.pairwise_map]
    exact List.nodup_range.imp fun h e => h (by omega)
  have hq := (dcnt_le ns).2
  rw [hl] at hq
  rw [hq]
  constructor
  · intro e
    rw [← hp.nodup_iff, e]
    exact hr
  · intro nd
    have hs : (sortI ns).Pairwise (· ≤ ·) := by
      have := List.pairwise_mergeSort (le := fun a b : Int => decide (a ≤ b)) (fun a b c h1 h2 => by simp at *; omega) (fun a b => by simp; omega) ns
      exact this.imp fun h => by simpa using h
    have hn : (sortI ns).Nodup := hp.nodup_iff.mpr nd
    have hlt : (sortI ns).Pairwise (· < ·) := (hs.and hn).imp fun ⟨h1, h2⟩ => by omega
    have hb : ∀ x ∈ sortI ns, 0 ≤ x ∧ x < (m : Int) := fun x hx => h x (hp.mem_iff.mp hx)
    have hlen : (sortI ns).length = m := by rw [hp.length_eq, hl]
    apply List.ext_getElem
    · simp [hlen]
    · intro i h1 h2
      have e := List.getElem?_eq_getElem h1
      have a1 := inc_lo _ 0 hlt (fun x hx => (hb x hx).1) i _ e
      have a2 := inc_hi _ m hlt (fun x hx => (hb x hx).2) i _ e
      rw [hlen] at a2
      simp
      omega
theorem t_isorder (m : Nat) (h1 : 1 ≤ m) (hm : m ≤ 10) {d : D} {k : Nat} (hd0 : Ov (k + 1) d) {Y : Res → List Slot → Prop} : w2 (f_is_order.run [.val (.int (m : Int)), .val d]) Y ↔ Y (.val (.bool (isoB m d))) [.val (.int (m : Int)), .val d] := by
  refine w2_of (w2_eq.mp ?_)
  have hM := fun Y => t_ismanyG (Y := Y) m h1 hm
  cases d with
  | tuple l =>
    have i3 : isiv (.tuple l) "tuple" = true := rfl
    simp [u_is_order, b_is_order, hM, i3, isoB]
    by_cases hl : l.length = m
    · have hlI : (l.length : Int) = (m : Int) := by omega
      simp [hl, hlI]
      rw [r_for]
      simp
      refine wfor_rule (fun i env => Iv (∃ e2 : Slot, (l.take i).all (thB m) = true ∧ env = [Slot.val (.int (m : Int)), .val (.tuple l), e2])) ⟨_, rfl, rfl⟩ ?_ ?_
      · rintro i d env hd ⟨e2, g1, rfl⟩
        have hdm := List.mem_of_getElem? hd
        have hT := fun Y => t_isthing (Y := Y) m (hd0.memT hdm).spc
        simp [hT]
        by_cases ht : thB m d = true
        · simp [ht]
          refine ⟨_, ?_, rfl⟩
          rw [List.take_add_one, hd, List.all_append, g1]
          simp [ht]
        · simp [ht]
          exact fun _ h => absurd (h d hdm) ht
      · rintro env ⟨e2, g1, rfl⟩
        rw [List.take_length] at g1
        obtain ⟨ns, rfl, g2⟩ := th_ints g1
        have hl' : ns.length = m := by simpa using hl
        have e1 : lsetv (PyData.tuple (List.map PyData.int ns)) = some (.val (.int (dcnt ns : Nat))) := by
          show ((intsD (ns.map .int)).bind fun ns => if ns.length ≤ 1000 then some (Res.val (.int (dcnt ns : Nat))) else none) = _
          rw [intsD_map]
          show (if ns.length ≤ 1000 then some (Res.val (.int (dcnt ns : Nat))) else none) = _
          rw [if_pos (by omega)]
        have e2 : nsB m (ns.map .int) = decide (dcnt ns = m) := by
          unfold nsB
          rw [intsD_map]
        have e3 : decide ((dcnt ns : Int) = (m : Int)) = decide (dcnt ns = m) := by
          by_cases h : dcnt ns = m
          · simp [h]
          · simp [h]; omega
        rw [g1, e2]
        simp [e1]
        rw [e3]
        simp [hl']
    · have hlI : ¬ (l.length : Int) = (m : Int) := by omega
      simp [hl, hlI]
  | _ =>
    have hs := hd0.spc
    simp [u_is_order, b_is_order, hM, isoB, isiv, tyN, hs]
def cntB (m : Nat) : D → Bool
  | .tuple [.int c, o] => decide (0 < c) && isoB m o
  | _ => false
def mixB (m : Nat) : D → Bool
  | .tuple l => !l.isEmpty && l.all (cntB m)
  | _ => false
theorem two_get {l : List D} (h : l.length = 2) : ∃ a b, l = [a, b] := by
  match l, h with
  | [a, b], _ => exact ⟨a, b, rfl⟩
theorem cntB_len {m : Nat} {l : List D} (h : l.length ≠ 2) : cntB m (.tuple l) = false := by
  match l, h with
  | [], _ => rfl
  | [a], _ => cases a <;> rfl
  | [a, b], h => exact absurd rfl h
  | a :: b :: c :: l, _ => cases a <;> rfl
theorem cntB_bad {m : Nat} {a b : D} (h : isI a = false) : cntB m (.tuple [a, b]) = false := by
  cases a with
  | int i => cases h
  | _ => rfl
theorem t_iscounted (m : Nat) (h1 : 1 ≤ m) (hm : m ≤ 10) {d : D} {k : Nat} (hd : Ov (k + 2) d) {Y : Res → List Slot → Prop} : w2 (f_is_counted.run [.val (.int (m : Int)), .val d]) Y ↔ Y (.val (.bool (cntB m d))) [.val (.int (m : Int)), .val d] := by
  refine w2_of (w2_eq.mp ?_)
  cases d with
  | tuple l =>
    have i3 : isiv (.tuple l) "tuple" = true := rfl
    by_cases hl : l.length = 2
    · obtain ⟨a, b, rfl⟩ := two_get hl
      have a0 : ∀ a b : D, atI [a, b] 0 = some a := fun _ _ => rfl
      have a1 : ∀ a b : D, atI [a, b] 1 = some b := fun _ _ => rfl
      have ha := hd.memT (d := a) (by simp)
      have hb := hd.memT (d := b) (by simp)
      have hw := fun Y => t_iswh (Y := Y) ha.spc
      have ho := fun Y => t_isorder (Y := Y) m h1 hm hb
      cases h : isI a with
      | true =>
        obtain ⟨c, rfl⟩ := isI_int h
        simp [u_is_counted, b_is_counted, i3, a0, a1, hw, ho, h, cntB]
        by_cases hc : 0 < c <;> simp [hc]
      | false => simp [u_is_counted, b_is_counted, i3, a0, a1, hw, h, cntB_bad h]
    · have hlI : ¬ (l.length : Int) = 2 := by omega
      simp [u_is_counted, b_is_counted, i3, hlI, cntB_len hl]
  | _ =>
    have hs := hd.spc
    simp [u_is_counted, b_is_counted, cntB, isiv, tyN, hs]
theorem t_ismix (m : Nat) (h1 : 1 ≤ m) (hm : m ≤ 10) {d : D} {k : Nat} (hd0 : Ov (k + 3) d) {Y : Res → List Slot → Prop} : w2 (f_is_mixture.run [.val (.int (m : Int)), .val d]) Y ↔ Y (.val (.bool (mixB m d))) [.val (.int (m : Int)), .val d] := by
  refine w2_of (w2_eq.mp ?_)
  cases d with
  | tuple l =>
    have i3 : isiv (.tuple l) "tuple" = true := rfl
    by_cases hl : l = []
    · subst hl
      simp [u_is_mixture, b_is_mixture, i3, mixB]
    · have hlI : ¬ (l.length : Int) = 0 := by
        have := List.length_pos_iff.mpr hl
        omega
      simp [u_is_mixture, b_is_mixture, i3, hlI, hl, mixB]
      rw [r_for]
      simp
      refine wfor_rule (fun i env => Iv (∃ e2 : Slot, (l.take i).all (cntB m) = true ∧ env = [Slot.val (.int (m : Int)), .val (.tuple l), e2])) ⟨_, rfl, rfl⟩ ?_ ?_
      · rintro i d env hd ⟨e2, g1, rfl⟩
        have hdm := List.mem_of_getElem? hd
        have hT := fun Y => t_iscounted (Y := Y) m h1 hm (hd0.memT hdm)
        simp [hT]
        by_cases ht : cntB m d = true
        · simp [ht]
          refine ⟨_, ?_, rfl⟩
          rw [List.take_add_one, hd, List.all_append, g1]
          simp [ht]
        · simp [ht]
          exact fun _ => ⟨d, hdm, by simpa using ht⟩
      · rintro env ⟨e2, g1, rfl⟩
        rw [List.take_length] at g1
        simp [g1, hl]
  | _ =>
    have hs := hd0.spc
    simp [u_is_mixture, b_is_mixture, mixB, isiv, tyN, hs]
/-! ### the law's own look -/
theorem all_ints : ∀ {l : List D}, l.all isI = true → ∃ ns : List Int, l = ns.map .int
  | [], _ => ⟨[], rfl⟩
  | d :: l, h => by
    simp only [List.all_cons, Bool.and_eq_true] at h
    obtain ⟨i, rfl⟩ := isI_int h.1
    obtain ⟨ns, rfl⟩ := all_ints h.2
    exact ⟨i :: ns, rfl⟩
theorem iso_sort (m : Nat) (ns : List Int) : isoB m (.tuple (ns.map .int)) = decide (sortI ns = (List.range m).map fun i : Nat => (i : Int)) := by
  have hp : (sortI ns).Perm ns := List.mergeSort_perm ns _
  have hth : ∀ ns : List Int, (ns.map PyData.int).all (thB m) = true ↔ ∀ n ∈ ns, 0 ≤ n ∧ n < (m : Int) := fun ns => by
    rw [List.all_map, List.all_eq_true]
    exact forall_congr' fun n => forall_congr' fun _ => by simp [thB]
  have e2 : nsB m (ns.map .int) = decide (dcnt ns = m) := by
    unfold nsB
    rw [intsD_map]
  rw [Bool.eq_iff_iff, decide_eq_true_eq]
  show (decide ((ns.map PyData.int).length = m) && (ns.map PyData.int).all (thB m) && nsB m (ns.map .int)) = true ↔ _
  rw [e2, Bool.and_eq_true, Bool.and_eq_true, decide_eq_true_eq, decide_eq_true_eq, hth, List.length_map]
  constructor
  · rintro ⟨⟨h1, h2⟩, h3⟩
    exact (sort_rng h1 h2).mpr h3
  · intro h
    have hl : ns.length = m := by rw [← hp.length_eq, h]; simp
    have hm : ∀ n ∈ ns, 0 ≤ n ∧ n < (m : Int) := fun n hn => by
      have := hp.mem_iff.mpr hn
      rw [h] at this
      obtain ⟨i, hi, rfl⟩ := List.mem_map.mp this
      have := List.mem_range.mp hi
      omega
    exact ⟨⟨hl, hm⟩, (sort_rng hl hm).mp h⟩
theorem iso_bad {m : Nat} {l : List D} (h : l.all isI = false) : isoB m (.tuple l) = false := by
  cases e : isoB m (.tuple l) with
  | false => rfl
  | true =>
    have e' : (decide (l.length = m) && l.all (thB m) && nsB m l) = true := e
    rw [Bool.and_eq_true, Bool.and_eq_true] at e'
    obtain ⟨ns, rfl, _⟩ := th_ints e'.1.2
    have : (ns.map PyData.int).all isI = true := by rw [List.all_map, List.all_eq_true]; exact fun _ _ => rfl
    rw [this] at h
    cases h
end Lw

/-! any value, judged by the law -/
namespace Lw
open PySem L2 Ev
theorem filt_take {l : List D} {i : Nat} {d : D} (h : l[i]? = some d) (p : D → Bool) : (l.take (i + 1)).filter p = (l.take i).filter p ++ if p d = true then [d] else [] := by
  rw [List.take_add_one, h, List.filter_append]
  congr 1
  simp [List.filter_cons]
theorem eqT0 (l : List D) : (eqv (.tuple l) (.tuple [])).or (eqv0 l []) = some (decide (l = [])) := by
  cases l with
  | nil => rfl
  | cons a l =>
    unfold eqv
    split
    · rfl
    · rfl
theorem b_lenT (l : List D) : b1v .len (.tuple l) = some (.val (.int (l.length : Int))) := rfl
theorem t_lisorder (m : Nat) {d : D} {k : Nat} (hd0 : Ov (k + 1) d) {Y : Res → List Slot → Prop} : w2 (f__law_is_order.run [.val (.int (m : Int)), .val d]) Y ↔ Y (.val (.bool (isoB m d))) [.val (.int (m : Int)), .val d] := by
  refine w2_of (w2_eq.mp ?_)
  cases d with
  | tuple l =>
    have i3 : isiv (.tuple l) "tuple" = true := rfl
    have hlen := hd0.lenT
    by_cases hl : l.length = m
    · have hlI : (l.length : Int) = (m : Int) := by omega
      simp [u__law_is_order, b__law_is_order, i3, b_lenT, hlI]
      rw [r_lc]
      simp
      refine wlc_rule (fun i acc env => Iv (acc = (l.take i).filter (fun d => !isI d) ∧ env = [Slot.val (.int (m : Int)), .val (.tuple l), .un])) ⟨rfl, rfl⟩ ?_ ?_
      · rintro i x acc env hx ⟨rfl, rfl⟩
        have hw := fun Y => t_lwh (Y := Y) (hd0.memT (List.mem_of_getElem? hx)).spc
        have hl2 : ((l.take i).filter (fun d => !isI d)).length ≤ 5000 := Nat.le_trans (List.length_filter_le _ _) (by rw [List.length_take]; omega)
        rw [filt_take hx]
        cases c : isI x with
        | true =>
          simp [hw, c]
          exact ⟨(List.append_nil _).symm, rfl⟩
        | false =>
          simp [hw, c]
          exact ⟨by omega, rfl, rfl⟩
      · rintro acc env ⟨rfl, rfl⟩
        rw [List.take_length]
        by_cases hn : l.filter (fun d => !isI d) = []
        · rw [hn]
          rw [List.filter_eq_nil_iff] at hn
          have hall : l.all isI = true := List.all_eq_true.mpr fun x hx => by have := hn x hx; simpa using this
          obtain ⟨ns, rfl⟩ := all_ints hall
          have e5 := iso_sort m ns
          obtain ⟨R, hR⟩ : ∃ R, R = (List.range m).map fun i : Nat => (i : Int) := ⟨_, rfl⟩
          have e7 := rng_ints m
          rw [← hR] at e5 e7
          rw [e5]
          have e6 : b1v .srt (.tuple (ns.map .int)) = some (.fr ((sortI ns).map .int)) := b_srtT
          simp [e6, e7]
          rw [hl] at hlen
          omega
        · have hp : 0 < (l.filter (fun d => !isI d)).length := List.length_pos_iff.mpr hn
          have hall : l.all isI = false := by
            obtain ⟨x, hx⟩ := List.exists_mem_of_ne_nil _ hn
            obtain ⟨hx1, hx2⟩ := List.mem_filter.mp hx
            rw [List.all_eq_false]
            exact ⟨x, hx1, by simpa using hx2⟩
          have hpI : (0 : Int) < ((l.filter (fun d => !isI d)).length : Int) := by omega
          simp [hpI, iso_bad hall]
          exact fun z => absurd (List.all_eq_true.mpr z) (by rw [hall]; exact Bool.false_ne_true)
    · have hlI : ¬ (l.length : Int) = (m : Int) := by omega
      have e : isoB m (.tuple l) = false := by simp [isoB, hl]
      simp [u__law_is_order, b__law_is_order, i3, b_lenT, hlI, e]
  | _ =>
    have hs := hd0.spc
    simp [u__law_is_order, b__law_is_order, isoB, isiv, tyN, hs]
theorem t_lismix (m : Nat) {d : D} {k : Nat} (hd0 : Ov (k + 3) d) {Y : Res → List Slot → Prop} : w2 (f__law_is_mixture.run [.val (.int (m : Int)), .val d]) Y ↔ Y (.val (.bool (mixB m d))) [.val (.int (m : Int)), .val d] := by
  refine w2_of (w2_eq.mp ?_)
  cases d with
  | tuple l =>
    have i3 : isiv (.tuple l) "tuple" = true := rfl
    have e0 := eqT0 l
    by_cases hl : l = []
    · subst hl
      simp [u__law_is_mixture, b__law_is_mixture, i3, e0, mixB]
    · rw [decide_eq_false hl] at e0
      have em : mixB m (.tuple l) = l.all (cntB m) := by
        show (!l.isEmpty && l.all (cntB m)) = _
        cases l with
        | nil => exact absurd rfl hl
        | cons a l => rfl
      rw [em]
      simp [u__law_is_mixture, b__law_is_mixture, i3, e0]
      rw [r_for]
      simp
      refine wfor_rule (fun i env => Iv (∃ e2 : Slot, (l.take i).all (cntB m) = true ∧ env = [Slot.val (.int (m : Int)), .val (.tuple l), e2])) ⟨_, rfl, rfl⟩ ?_ ?_
      · rintro i x env hx ⟨e2, g1, rfl⟩
        have hxm := List.mem_of_getElem? hx
        have ox := hd0.memT hxm
        have sx := ox.spc
        have go : cntB m x = true → (l.take (i + 1)).all (cntB m) = true := fun c => by
          rw [List.take_add_one, hx, List.all_append, g1]
          simp [c]
        have stop : cntB m x = false → l.all (cntB m) = false := fun c => by
          rw [List.all_eq_false]
          exact ⟨x, hxm, by rw [c]; exact Bool.false_ne_true⟩
        cases x with
        | tuple q =>
          have j3 : isiv (.tuple q) "tuple" = true := rfl
          by_cases h2 : q.length = 2
          · obtain ⟨a, b, rfl⟩ := two_get h2
            have oa := ox.memT (d := a) (by simp)
            have ob := ox.memT (d := b) (by simp)
            have hw := fun Y => t_lwh (Y := Y) oa.spc
            have ho := fun Y => t_lisorder (Y := Y) m ob
            cases ca : isI a with
            | false =>
              rw [ca] at hw
              have := stop (cntB_bad ca)
              simp [j3, b_lenT, hw, this]
            | true =>
              rw [ca] at hw
              obtain ⟨c, rfl⟩ := isI_int ca
              have ec : cntB m (.tuple [.int c, b]) = (decide (0 < c) && isoB m b) := rfl
              by_cases c1 : c < 1
              · have := stop (by rw [ec, decide_eq_false (show ¬ 0 < c by omega)]; rfl)
                simp [j3, b_lenT, hw, c1, this]
              · cases cb : isoB m b with
                | false =>
                  rw [cb] at ho
                  have := stop (by rw [ec, cb, Bool.and_false])
                  simp [j3, b_lenT, hw, c1, ho, this]
                | true =>
                  rw [cb] at ho
                  have := go (by rw [ec, cb, decide_eq_true (show 0 < c by omega)]; rfl)
                  simp [j3, b_lenT, hw, c1, ho]
                  exact ⟨_, this, rfl⟩
          · have hI : ¬ (q.length : Int) = 2 := by omega
            have := stop (cntB_len h2)
            simp [j3, b_lenT, hI, this]
        | _ =>
          have := stop rfl
          simp [isiv, tyN, sx, this]
      · rintro env ⟨e2, g1, rfl⟩
        rw [List.take_length] at g1
        simp [g1]
  | _ =>
    have hs := hd0.spc
    simp [u__law_is_mixture, b__law_is_mixture, mixB, isiv, tyN, hs]
end Lw

/-! drawn mixtures, bent ones -/
namespace Lw
open PySem L2 Ev
theorem w1_in {l : List D} {P : D → Prop} {i : Int} {Q : D → Prop} {t_ : Tg Q} (h : ∀ d ∈ l, P d) (h0 : 0 ≤ i) (h1 : i < (l.length : Int)) (k : ∀ d, P d → Q d) : w1 (atI l i) Q t_ := by
  obtain ⟨n, rfl⟩ : ∃ n : Nat, i = (n : Int) := ⟨i.toNat, by omega⟩
  have e : atI l (n : Int) = some (l[n]'(by omega)) := by
    unfold atI
    rw [ixN_nn (by omega) (by omega), Int.toNat_natCast]
    exact List.getElem?_eq_getElem (by omega)
  rw [e, w1_some]
  exact k _ (h _ (List.getElem_mem ..))
theorem cut1 (l : List D) (a : Nat) : cutD l none (some (a : Int)) = l.take a := cut_pre
theorem cut2 (l : List D) (a : Nat) : cutD l (some ((a : Int) + 1)) none = l.drop (a + 1) := by
  have : (a : Int) + 1 = ((a + 1 : Nat) : Int) := by omega
  rw [this]
  exact cut_suf
theorem t_far {ns : List Int} {l : List D} (hS : Sd ns l) (f : Int) (h1 : 1 ≤ f) (h2 : f ≤ 10 ^ 59) : w2 (f__law_far.run [.own l, .val (.int f)]) fun r bs => ∃ (l' : List D) (x : Int), Sd ns l' ∧ 0 ≤ x ∧ x < f ∧ r = .val (.int x) ∧ bs = [.own l', .val (.int f)] := by
  simp [u__law_far, b__law_far]
  refine r_whl (fun k env => Iv (∃ (l' : List D) (x sz : Int), Sd ns l' ∧ 0 ≤ x ∧ 0 < sz ∧ k = (10 ^ 60 - sz).toNat ∧ env = [Slot.own l', .val (.int f), .val (.int x), .val (.int sz)])) ((10 ^ 60 - 1 : Int)).toNat ⟨l, 0, 1, hS, by decide, by decide, rfl, rfl⟩ ?_
  rintro k env ⟨l', x, sz, hS', x0, s0, rfl, rfl⟩
  by_cases c : sz < f
  · simp [c]
    refine w2_mono (t_lnext hS' 1000000 (by decide) (by decide)) ?_
    rintro _ _ ⟨l2, y, g2, y0, y1, rfl, rfl⟩
    simp
    refine ⟨(10 ^ 60 - sz * 1000000).toNat, by omega, l2, x * 1000000 + y, sz * 1000000, g2, by omega, by omega, rfl, rfl⟩
  · have q := fmod_r (a := x) (m := f) (by omega)
    simp [c]
    refine ⟨by omega, l', hS', _, q.1, q.2, rfl, rfl⟩
def oD (o : List Nat) : D := .tuple ((natI o).map .int)
def pD (p : Int × List Nat) : D := .tuple [.int p.1, oD p.2]
structure POk (m : Nat) (p : Int × List Nat) : Prop where
  lo : 1 ≤ p.1
  hi : p.1 ≤ 10 ^ 59
  od : Ord m p.2
theorem ob_o {m : Nat} (hm : m ≤ 10) {o : List Nat} (h : Ord m o) : Ob 1 10 (oD o) := by
  have hl := h.len
  refine (Ob.tup (k := 0) (c := 0) fun d hd => ?_).mono (Nat.le_refl _) ?_
  · obtain ⟨x, hx, rfl⟩ := List.mem_map.mp hd
    obtain ⟨t, ht, rfl⟩ := List.mem_map.mp hx
    have := (h.mem t).mp ht
    exact Ob.int (Nat.lt_of_le_of_lt (show ((t : Nat) : Int).natAbs ≤ 10 by omega) (by decide))
  · rw [List.length_map, natI_len]; omega
theorem b60 {c : Int} (h0 : 0 ≤ c) (h : c ≤ 10 ^ 59) : c.natAbs < 10 ^ 60 := by omega
theorem ob_p {m : Nat} (hm : m ≤ 10) {p : Int × List Nat} (h : POk m p) : Ob 2 22 (pD p) := by
  refine (Ob.tup (k := 1) (c := 10) (l := [.int p.1, oD p.2]) fun d hd => ?_).mono (by omega) (by simp)
  simp only [List.mem_cons, List.mem_nil_iff, or_false] at hd
  rcases hd with rfl | rfl
  · exact Ob.int (b60 (by have := h.lo; omega) h.hi)
  · exact ob_o hm h.od
structure Fr (f g : Int) : Prop where
  lo : 1 ≤ g
  hi : g ≤ f
theorem last_pair {mx : List (Int × List Nat)} {P : Int × List Nat → Prop} (h : 0 < mx.length) (k : ∀ p ∈ mx, P p) : ∃ q, P q ∧ atI (mx.map pD) (-1) = some (pD q) := by
  have hq : mx[mx.length - 1]? = some (mx[mx.length - 1]'(by omega)) := List.getElem?_eq_getElem _
  refine ⟨_, k _ (List.mem_of_getElem? hq), ?_⟩
  unfold atI ixN
  rw [List.length_map, if_neg (by decide), if_pos (by omega)]
  show (mx.map pD)[(-1 + (mx.length : Int)).toNat]? = _
  rw [show (-1 + (mx.length : Int)).toNat = mx.length - 1 by omega, List.getElem?_map, hq]
  rfl
theorem t_mixture {ns : List Int} {l : List D} (hS : Sd ns l) (m : Nat) (hm : m ≤ 10) (f : Int) (h1 : 3 ≤ f) (h2 : f ≤ 10 ^ 59) : w2 (f__law_mixture.run [.own l, .val (.int (m : Int)), .val (.int f)]) fun r bs => ∃ (l' : List D) (mx : List (Int × List Nat)), Sd ns l' ∧ (∀ p ∈ mx, POk m p) ∧ 0 < mx.length ∧ mx.length ≤ 6 ∧ r = .val (.tuple (mx.map pD)) ∧ bs = [.own l', .val (.int (m : Int)), .val (.int f)] := by
  simp [u__law_mixture, b__law_mixture]
  rw [r_for]
  simp
  refine w2_mono (t_lnext hS 6 (by decide) (by decide)) ?_
  rintro _ _ ⟨l1, x, g1, g2, g3, rfl, rfl⟩
  simp
  refine ⟨by omega, ?_⟩
  refine wfor_rule (fun i env => Iv (∃ (l' : List D) (mx : List (Int × List Nat)) (e4 e5 : Slot), Sd ns l' ∧ mx.length = i ∧ (∀ p ∈ mx, 0 < p.1 ∧ p.1 ≤ f ∧ Ord m p.2) ∧ env = [Slot.own l', .val (.int (m : Int)), .val (.int f), .own (mx.map pD), e4, e5])) ⟨l1, [], _, _, g1, rfl, by simp, rfl⟩ ?_ ?_
  · rintro i d env hd ⟨l', mx, e4, e5, k1, rfl, k3, rfl⟩
    obtain ⟨rfl, hi⟩ := rngL_get hd
    simp
    refine w2_mono (t_order k1 m hm) ?_
    rintro _ _ ⟨l2, o, k4, ho, rfl, rfl⟩
    simp
    refine w2_mono (t_lnext k4 5 (by decide) (by decide)) ?_
    rintro _ _ ⟨l3, y, k5, _, _, rfl, rfl⟩
    simp
    by_cases hc : y = 0 ∧ 0 < mx.length
    · refine Exists.elim (last_pair hc.2 k3) fun q hqq => ?_
      have hat := hqq.2
      have hqo := hqq.1.2.2
      simp [hc.1, hc.2, hat, pD, oD]
      refine w2_mono (t_lnext k5 2 (by decide) (by decide)) ?_
      rintro _ _ ⟨l4, z, k6, z0, z1, rfl, rfl⟩
      have hex : ∃ g : Int, atI [PyData.int 3, .int f] z = some (.int g) ∧ Fr f g := by
        have hz : z = 0 ∨ z = 1 := by omega
        rcases hz with rfl | rfl
        · exact ⟨3, rfl, ⟨by omega, by omega⟩⟩
        · exact ⟨f, rfl, ⟨by omega, Int.le_refl _⟩⟩
      refine Exists.elim hex fun g hge => ?_
      have e := hge.1
      have e1 := hge.2.lo
      have e2 := hge.2.hi
      simp [e]
      refine w2_mono (t_far k6 g e1 (by omega)) ?_
      rintro _ _ ⟨l5, c, k7, c0, c1, rfl, rfl⟩
      simp
      refine ⟨by omega, l5, mx ++ [(1 + c, q.2)], .val (.int (mx.length : Int)), .val (.tuple ((natI q.2).map .int)), k7, by simp, ?_, by simp [pD, oD]⟩
      intro p hp
      rcases List.mem_append.mp hp with hp | hp
      · exact k3 p hp
      · rw [List.mem_singleton.mp hp]
        exact ⟨by simp only; omega, by simp only; omega, hqo⟩
    · by_cases hy : y = 0
      · have h0 : ¬ (0 < mx.length) := fun h => hc ⟨hy, h⟩
        simp [hy, h0]
        refine w2_mono (t_lnext k5 2 (by decide) (by decide)) ?_
        rintro _ _ ⟨l4, z, k6, z0, z1, rfl, rfl⟩
        have hex : ∃ g : Int, atI [PyData.int 3, .int f] z = some (.int g) ∧ Fr f g := by
          have hz : z = 0 ∨ z = 1 := by omega
          rcases hz with rfl | rfl
          · exact ⟨3, rfl, ⟨by omega, by omega⟩⟩
          · exact ⟨f, rfl, ⟨by omega, Int.le_refl _⟩⟩
        refine Exists.elim hex fun g hge => ?_
        have e := hge.1
        have e1 := hge.2.lo
        have e2 := hge.2.hi
        simp [e]
        refine w2_mono (t_far k6 g e1 (by omega)) ?_
        rintro _ _ ⟨l5, c, k7, c0, c1, rfl, rfl⟩
        simp
        refine ⟨by omega, l5, mx ++ [(1 + c, o)], .val (.int (mx.length : Int)), .val (.tuple ((natI o).map .int)), k7, by simp, ?_, by simp [pD, oD]⟩
        intro p hp
        rcases List.mem_append.mp hp with hp | hp
        · exact k3 p hp
        · rw [List.mem_singleton.mp hp]
          exact ⟨by simp only; omega, by simp only; omega, ho⟩
      · simp [hy]
        refine w2_mono (t_lnext k5 2 (by decide) (by decide)) ?_
        rintro _ _ ⟨l4, z, k6, z0, z1, rfl, rfl⟩
        have hex : ∃ g : Int, atI [PyData.int 3, .int f] z = some (.int g) ∧ Fr f g := by
          have hz : z = 0 ∨ z = 1 := by omega
          rcases hz with rfl | rfl
          · exact ⟨3, rfl, ⟨by omega, by omega⟩⟩
          · exact ⟨f, rfl, ⟨by omega, Int.le_refl _⟩⟩
        refine Exists.elim hex fun g hge => ?_
        have e := hge.1
        have e1 := hge.2.lo
        have e2 := hge.2.hi
        simp [e]
        refine w2_mono (t_far k6 g e1 (by omega)) ?_
        rintro _ _ ⟨l5, c, k7, c0, c1, rfl, rfl⟩
        simp
        refine ⟨by omega, l5, mx ++ [(1 + c, o)], .val (.int (mx.length : Int)), .val (.tuple ((natI o).map .int)), k7, by simp, ?_, by simp [pD, oD]⟩
        intro p hp
        rcases List.mem_append.mp hp with hp | hp
        · exact k3 p hp
        · rw [List.mem_singleton.mp hp]
          exact ⟨by simp only; omega, by simp only; omega, ho⟩
  · rintro env ⟨l', mx, e4, e5, k1, k2, k3, rfl⟩
    simp at k2
    simp
    exact ⟨_, k1, mx, fun a b hp => ⟨by have := (k3 (a, b) hp).1; simp only at *; omega, by have := (k3 (a, b) hp).2.1; simp only at *; omega, (k3 (a, b) hp).2.2⟩, by omega, by omega, rfl, rfl⟩
theorem at_any {l : List D} {i : Int} (h0 : -(l.length : Int) ≤ i) (h1 : i < (l.length : Int)) : ∃ d, d ∈ l ∧ atI l i = some d := by
  by_cases c : 0 ≤ i
  · obtain ⟨n, rfl⟩ : ∃ n : Nat, i = (n : Int) := ⟨i.toNat, by omega⟩
    refine ⟨l[n]'(by omega), List.getElem_mem .., ?_⟩
    unfold atI
    rw [ixN_nn (by omega) (by omega), Int.toNat_natCast]
    exact List.getElem?_eq_getElem (by omega)
  · refine ⟨l[(i + (l.length : Int)).toNat]'(by omega), List.getElem_mem .., ?_⟩
    unfold atI ixN
    rw [if_neg c, if_pos (by omega)]
    exact List.getElem?_eq_getElem (by omega)
def dp : Nat → D
  | 0 => .tuple []
  | k + 1 => if k % 3 = 0 then .tuple [dp k] else if k % 3 = 1 then .list [dp k] else .dict [(.int (k : Int), dp k)]
theorem t_deep {Y : Res → List Slot → Prop} : w2 (f__law_deep.run [.val (.int 20)]) Y ↔ Y (.val (dp 20)) [.val (.int 20)] := by
  refine w2_of (w2_eq.mp ?_)
  simp [u__law_deep, b__law_deep]
  rw [r_for]
  simp
  refine wfor_rule (fun i env => Iv (∃ e2 : Slot, env = [Slot.val (.int 20), .val (dp i), e2])) ⟨_, rfl⟩ ?_ ?_
  · rintro i d env hd ⟨e2, rfl⟩
    obtain ⟨rfl, hi⟩ := rngL_get hd
    have h3 : (i : Int).fmod 3 = ((i % 3 : Nat) : Int) := by
      rw [fmod_e (by decide)]; omega
    rcases (show i % 3 = 0 ∨ i % 3 = 1 ∨ i % 3 = 2 by omega) with h | h | h
    · have e : dp (i + 1) = .tuple [dp i] := by rw [dp, if_pos h]
      rw [e]
      rw [h] at h3
      have a : ∀ x y z : D, atI [x, y, z] 0 = some x := fun _ _ _ => rfl
      simp [h3, a]
      exact ⟨_, rfl⟩
    · have e : dp (i + 1) = .list [dp i] := by rw [dp, if_neg (by omega), if_pos h]
      rw [e]
      rw [h] at h3
      have a : ∀ x y z : D, atI [x, y, z] 1 = some y := fun _ _ _ => rfl
      simp [h3, a]
      exact ⟨_, rfl⟩
    · have e : dp (i + 1) = .dict [(.int (i : Int), dp i)] := by rw [dp, if_neg (by omega), if_neg (by omega)]
      rw [e]
      rw [h] at h3
      have a : ∀ x y z : D, atI [x, y, z] 2 = some z := fun _ _ _ => rfl
      simp [h3, a]
      exact ⟨_, rfl⟩
  · rintro env ⟨e2, rfl⟩
    have hl : (rngL 0 20).length = 20 := rfl
    rw [hl]
    simp
theorem ob_dp : Ob 30 100 (dp 20) := ⟨by decide +kernel, by decide +kernel, by decide +kernel⟩
theorem t_odd {ns : List Int} {l : List D} (hS : Sd ns l) : w2 (f__law_odd.run [.own l]) fun r bs => ∃ (l' : List D) (d : D), Sd ns l' ∧ Ob 30 100 d ∧ r = .val d ∧ bs = [.own l'] := by
  simp [u__law_odd, b__law_odd, t_deep]
  refine w2_mono (t_lnext hS 18 (by decide) (by decide)) ?_
  rintro _ _ ⟨l2, z, g2, z0, z1, rfl, rfl⟩
  simp
  refine w1_in (P := Ob 30 100) (fun d hd => ?_) z0 (by simp; omega) fun d hd => ?_
  · simp only [List.mem_cons, List.not_mem_nil, or_false] at hd
    rcases hd with rfl | rfl | rfl | rfl | rfl | rfl | rfl | rfl | rfl | rfl | rfl | rfl | rfl | rfl | rfl | rfl | rfl | rfl
    all_goals first
      | exact ob_dp
      | exact ⟨by decide +kernel, by decide +kernel, by decide +kernel⟩
  · simp
    exact ⟨l2, g2, _, hd, rfl, rfl⟩
end Lw

/-! bent orders, bent pairs -/
namespace Lw
open PySem L2 Ev
theorem ob_l {L : List D} (h : ∀ d ∈ L, Ob 1 1 d) (hl : L.length ≤ 11) : Ob 30 100 (.tuple L) := (Ob.tup h).mono (by omega) (by omega)
theorem ob_ll {L : List D} (h : ∀ d ∈ L, Ob 1 1 d) (hl : L.length ≤ 11) : Ob 30 100 (.list L) := (Ob.lst h).mono (by omega) (by omega)
theorem t_bentorder {ns : List Int} {l : List D} (hS : Sd ns l) (m : Nat) (h1 : 1 ≤ m) (hm : m ≤ 10) {o : List Nat} (ho : Ord m o) : w2 (f__law_bent_order.run [.own l, .val (.int (m : Int)), .val (oD o)]) fun r bs => ∃ (l' : List D) (d : D), Sd ns l' ∧ Ob 30 100 d ∧ r = .val d ∧ bs = [.own l', .val (.int (m : Int)), .val (oD o)] := by
  have hL : ∀ d ∈ (natI o).map PyData.int, ∃ i : Nat, i ≤ 10 ∧ d = .int (i : Int) := fun d hd => by
    obtain ⟨x, hx, rfl⟩ := List.mem_map.mp hd
    obtain ⟨t, ht, rfl⟩ := List.mem_map.mp hx
    have := (ho.mem t).mp ht
    exact ⟨t, by omega, rfl⟩
  have hl : ((natI o).map PyData.int).length = m := by rw [List.length_map, natI_len, ho.len]
  obtain ⟨L, eL⟩ : ∃ L, L = (natI o).map PyData.int := ⟨_, rfl⟩
  have eo : oD o = .tuple L := by rw [eL]; rfl
  rw [eo]
  rw [← eL] at hL hl
  have oI : ∀ {k c : Nat} {i : Nat}, i ≤ 10 → Ob k c (.int (i : Int)) := fun h => Ob.int (by omega)
  have oL : ∀ d ∈ L, Ob 1 1 d := fun d hd => by
    obtain ⟨i, hi, rfl⟩ := hL d hd
    exact oI hi
  simp [u__law_bent_order, b__law_bent_order]
  refine w2_mono (t_lnext hS (m : Int) (by omega) (by omega)) ?_
  rintro _ _ ⟨l1, x, g1, x0, x1, rfl, rfl⟩
  obtain ⟨a, rfl⟩ : ∃ a : Nat, x = (a : Int) := ⟨x.toNat, by omega⟩
  obtain ⟨d1, hd1, e1⟩ := at_any (l := L) (i := (a : Int) - 1) (by omega) (by omega)
  obtain ⟨d2, hd2, e2⟩ := at_any (l := L) (i := (a : Int)) (by omega) (by omega)
  obtain ⟨i2, hi2, rfl⟩ := hL d2 hd2
  simp [e1, e2]
  refine w2_mono (t_lnext g1 7 (by decide) (by decide)) ?_
  rintro _ _ ⟨l2, y, g2, y0, y1, rfl, rfl⟩
  simp
  refine w1_in (P := Ob 1 1) (fun d hd => ?_) y0 (by simp; omega) fun z hz => ?_
  · simp only [List.mem_cons, List.not_mem_nil, or_false] at hd
    rcases hd with rfl | rfl | rfl | rfl | rfl | rfl | rfl
    · exact oI hm
    · exact Ob.int (by decide)
    · exact oL _ hd1
    · exact Ob.bool _
    · exact Ob.none
    · exact ⟨by decide +kernel, by decide +kernel, by decide +kernel⟩
    · exact (Ob.tup (k := 0) (c := 0) (l := [.int (i2 : Int)]) fun d hd => by rw [List.mem_singleton.mp hd]; exact oI hi2).mono (by omega) (by simp)
  · simp [cut1, cut2]
    refine ⟨by omega, by omega, by omega, by omega, ?_⟩
    refine w2_mono (t_odd g2) ?_
    rintro _ _ ⟨l3, dd, g3, hdd, rfl, rfl⟩
    simp
    refine w2_mono (t_lnext g3 7 (by decide) (by decide)) ?_
    rintro _ _ ⟨l4, w, g4, w0, w1, rfl, rfl⟩
    simp
    have oT : ∀ d ∈ L.take a, Ob 1 1 d := fun d hd => oL d (List.mem_of_mem_take hd)
    have oD' : ∀ d ∈ L.drop (a + 1), Ob 1 1 d := fun d hd => oL d (List.mem_of_mem_drop hd)
    have l1 : (L.take a).length ≤ a := by rw [List.length_take]; omega
    have l2 : (L.drop (a + 1)).length = m - (a + 1) := by rw [List.length_drop, hl]
    have k1 : Ob 30 100 (.tuple (L.take a ++ L.drop (a + 1))) := ob_l (fun d hd => (List.mem_append.mp hd).elim (oT d) (oD' d)) (by rw [List.length_append]; omega)
    have k2 : Ob 30 100 (.tuple (L ++ [.int (a : Int)])) := ob_l (fun d hd => (List.mem_append.mp hd).elim (oL d) fun h => by rw [List.mem_singleton.mp h]; exact oI (by omega)) (by rw [List.length_append]; simp; omega)
    have k3 : Ob 30 100 (.tuple (L ++ [.int (m : Int)])) := ob_l (fun d hd => (List.mem_append.mp hd).elim (oL d) fun h => by rw [List.mem_singleton.mp h]; exact oI (by omega)) (by rw [List.length_append]; simp; omega)
    have k4 : Ob 30 100 (.list L) := ob_ll oL (by omega)
    have k5 : Ob 30 100 (.tuple (L.take a ++ z :: L.drop (a + 1))) := ob_l (fun d hd => (List.mem_append.mp hd).elim (oT d) fun h => (List.mem_cons.mp h).elim (fun h => h ▸ hz) (oD' d)) (by rw [List.length_append, List.length_cons]; omega)
    refine w1_in (P := Ob 30 100) (fun d hd => ?_) w0 (by simp; omega) fun d hd => ?_
    · simp only [List.mem_cons, List.not_mem_nil, or_false] at hd
      rcases hd with rfl | rfl | rfl | rfl | rfl | rfl | rfl
      · exact k1
      · exact k2
      · exact k3
      · exact k4
      · exact k5
      · exact k5
      · exact hdd
    · simp
      exact ⟨l4, g4, _, hd, rfl, rfl⟩
abbrev Ost (c : Int) : Str := Str.ofString (toString c)
theorem ob_str {i : Int} (h : i.natAbs < 10 ^ 60) : Ob 30 100 (.str (Ost i)) := by
  refine ⟨?_, Nat.zero_le _, ?_⟩
  rotate_left
  · have := (int60 h).1
    rw [PyData.shown] at this
    rw [PyData.bulk]
    show (Ost i).length ≤ 100
    exact Nat.le_trans this (by decide)
  rw [okI]
  unfold Ost
  rw [Str.ofString_eq_toList, List.all_eq_true]
  intro x hx
  simp only [List.mem_map] at hx
  obtain ⟨y, _, rfl⟩ := hx
  exact decide_eq_true (Nat.lt_of_lt_of_le y.val.toNat_lt (by decide))
theorem ob_pr {k c : Nat} {l : List D} (h : ∀ d ∈ l, Ob k c d) (hk : k ≤ 30) (hc : l.length * (c + 1) ≤ 303) : Ob 31 303 (.tuple l) := (Ob.tup h).mono (by omega) hc
theorem ob_2 {a b : D} (ha : Ob 30 100 a) (hb : Ob 30 100 b) : Ob 31 303 (.tuple [a, b]) := ob_pr (k := 30) (c := 100) (fun d hd => by
  simp only [List.mem_cons, List.not_mem_nil, or_false] at hd
  rcases hd with rfl | rfl
  · exact ha
  · exact hb) (by omega) (by simp)
theorem t_bentpair {ns : List Int} {l : List D} (hS : Sd ns l) (m : Nat) (h1 : 1 ≤ m) (hm : m ≤ 10) {p : Int × List Nat} (hp : POk m p) : w2 (f__law_bent_pair.run [.own l, .val (.int (m : Int)), .val (pD p)]) fun r bs => ∃ (l' : List D) (d : D), Sd ns l' ∧ Ob 31 303 d ∧ r = .val d ∧ bs = [.own l', .val (.int (m : Int)), .val (pD p)] := by
  obtain ⟨c, o⟩ := p
  have oc : ∀ {k b : Nat}, Ob k b (.int c) := Ob.int (b60 (by have := hp.lo; omega) hp.hi)
  have on : ∀ {k b : Nat}, Ob k b (.int (-c)) := Ob.int (by have := hp.lo; have := hp.hi; omega)
  have oo : Ob 30 100 (oD o) := (ob_o hm hp.od).mono (by omega) (by omega)
  have e0 : pD (c, o) = .tuple [.int c, oD o] := rfl
  have b1 : b1v .str (.int c) = some (.val (.str (Ost c))) := by
    show (if _ then _ else _) = _
    rw [if_pos (int60 (b60 (by have := hp.lo; omega) hp.hi)).2]
  rw [e0]
  simp [u__law_bent_pair, b__law_bent_pair, b1]
  refine w2_mono (t_bentorder hS m h1 hm hp.od) ?_
  rintro _ _ ⟨l1, d0, g1, hd0, rfl, rfl⟩
  simp
  refine w2_mono (t_lnext g1 18 (by decide) (by decide)) ?_
  rintro _ _ ⟨l2, y, g2, y0, y1, rfl, rfl⟩
  simp
  refine w1_in (P := Ob 31 303) (fun d hd => ?_) y0 (by simp; omega) fun z hz => ?_
  · simp only [List.mem_cons, List.not_mem_nil, or_false] at hd
    rcases hd with rfl | rfl | rfl | rfl | rfl | rfl | rfl | rfl | rfl | rfl | rfl | rfl | rfl | rfl | rfl | rfl | rfl | rfl
    · exact ob_2 (Ob.int (by decide)) oo
    · exact ob_2 (Ob.int (by decide)) oo
    · exact ob_2 (Ob.bool _) oo
    · exact ob_2 (ob_str (b60 (by have := hp.lo; omega) hp.hi)) oo
    · exact ob_2 Ob.none oo
    · exact ob_pr (k := 30) (c := 100) (fun d hd => by rw [List.mem_singleton.mp hd]; exact oc) (by omega) (by simp)
    · exact ob_pr (k := 30) (c := 100) (fun d hd => by
        simp only [List.mem_cons, List.not_mem_nil, or_false] at hd
        rcases hd with rfl | rfl | rfl
        · exact oc
        · exact oo
        · exact Ob.int (by decide)) (by omega) (by simp)
    · exact (Ob.lst (k := 30) (c := 100) (l := [.int c, oD o]) fun d hd => by
        simp only [List.mem_cons, List.not_mem_nil, or_false] at hd
        rcases hd with rfl | rfl
        · exact oc
        · exact oo).mono (by omega) (by simp)
    · exact ob_2 oo oc
    · exact ob_2 on oo
    all_goals exact ob_2 oc hd0
  · simp
    exact ⟨l2, g2, _, hz, rfl, rfl⟩
end Lw

/-! bent mixtures -/
namespace Lw
open PySem L2 Ev
theorem t_bentmixture {ns : List Int} {l : List D} (hS : Sd ns l) (m : Nat) (h1 : 1 ≤ m) (hm : m ≤ 10) {ps : List (Int × List Nat)} (hp : ∀ p ∈ ps, POk m p) (p0 : 0 < ps.length) (p6 : ps.length ≤ 6) : w2 (f__law_bent_mixture.run [.own l, .val (.int (m : Int)), .val (.tuple (ps.map pD))]) fun r bs => ∃ (l' : List D) (d : D), Sd ns l' ∧ Ov 32 d ∧ r = .val d ∧ bs = [.own l', .val (.int (m : Int)), .val (.tuple (ps.map pD))] := by
  obtain ⟨L, eL⟩ : ∃ L, L = ps.map pD := ⟨_, rfl⟩
  have hl : L.length = ps.length := by rw [eL, List.length_map]
  have oL : ∀ d ∈ L, Ob 31 303 d := fun d hd => by
    rw [eL] at hd
    obtain ⟨p, hp', rfl⟩ := List.mem_map.mp hd
    exact (ob_p hm (hp p hp')).mono (by omega) (by omega)
  have oL2 : ∀ d ∈ L, Ob 2 22 d := fun d hd => by
    rw [eL] at hd
    obtain ⟨p, hp', rfl⟩ := List.mem_map.mp hd
    exact ob_p hm (hp p hp')
  have pL : ∀ d ∈ L, ∃ p, POk m p ∧ d = pD p := fun d hd => by
    rw [eL] at hd
    obtain ⟨p, hp', rfl⟩ := List.mem_map.mp hd
    exact ⟨p, hp p hp', rfl⟩
  rw [← eL]
  have oT : ∀ {L : List D}, (∀ d ∈ L, Ob 31 303 d) → L.length ≤ 7 → Ov 32 (.tuple L) := fun h hl => (Ob.tup h).mono (by omega) (by omega)
  simp [u__law_bent_mixture, b__law_bent_mixture]
  refine w2_mono (t_lnext hS 8 (by decide) (by decide)) ?_
  rintro _ _ ⟨l1, x, g1, x0, x1, rfl, rfl⟩
  by_cases z0 : x = 0
  · simp [z0]
    refine w2_mono (t_odd g1) ?_
    rintro _ _ ⟨l2, d, g2, hd, rfl, rfl⟩
    simp
    exact ⟨l2, g2, d, hd.mono (by omega) (by omega), rfl, rfl⟩
  · by_cases z1 : x = 1
    · obtain ⟨d0, hd0, e0⟩ := at_any (l := L) (i := 0) (by omega) (by omega)
      simp [z1, e0]
      refine ⟨by omega, ?_⟩
      refine w2_mono (t_lnext g1 6 (by decide) (by decide)) ?_
      rintro _ _ ⟨l2, y, g2, y0, y1, rfl, rfl⟩
      simp
      refine w1_in (P := Ov 32) (fun d hd => ?_) y0 (by simp; omega) fun d hd => ?_
      · simp only [List.mem_cons, List.not_mem_nil, or_false] at hd
        rcases hd with rfl | rfl | rfl | rfl | rfl | rfl
        · exact (Ob.lst oL).mono (by omega) (by omega)
        · exact oT (by simp) (by simp)
        · refine oT (fun d hd => (List.mem_append.mp hd).elim (oL d) fun h => ?_) (by rw [List.length_append]; simp; omega)
          rw [List.mem_singleton.mp h]
          exact ⟨by decide +kernel, by decide +kernel, by decide +kernel⟩
        · refine oT (fun d hd => (List.mem_append.mp hd).elim (oL d) fun h => ?_) (by rw [List.length_append]; simp; omega)
          rw [List.mem_singleton.mp h]
          exact ⟨by decide +kernel, by decide +kernel, by decide +kernel⟩
        · exact (oL _ hd0).mono (by omega) (by omega)
        · refine (Ob.tup (k := 3) (c := 200) (l := [.tuple L]) fun d hd => ?_).mono (by omega) (by simp)
          rw [List.mem_singleton.mp hd]
          exact (Ob.tup oL2).mono (by omega) (by omega)
      · simp
        exact ⟨l2, g2, d, hd, rfl, rfl⟩
    · simp [z0, z1]
      refine w2_mono (t_lnext g1 (L.length : Int) (by omega) (by omega)) ?_
      rintro _ _ ⟨l2, y, g2, y0, y1, rfl, rfl⟩
      obtain ⟨a, rfl⟩ : ∃ a : Nat, y = (a : Int) := ⟨y.toNat, by omega⟩
      obtain ⟨d0, hd0, e0⟩ := at_any (l := L) (i := (a : Int)) (by omega) (by omega)
      obtain ⟨p, hp', rfl⟩ := pL d0 hd0
      simp [e0]
      refine w2_mono (t_bentpair g2 m h1 hm hp') ?_
      rintro _ _ ⟨l3, d, g3, hd, rfl, rfl⟩
      simp [cut1, cut2]
      refine ⟨by omega, by omega, l3, g3, _, ?_, rfl, rfl⟩
      refine oT (fun d' h' => (List.mem_append.mp h').elim (fun h => oL _ (List.mem_of_mem_take h)) fun h => (List.mem_cons.mp h).elim (fun h => h ▸ hd) fun h => oL _ (List.mem_of_mem_drop h)) ?_
      rw [List.length_append, List.length_cons, List.length_take, List.length_drop]
      omega
theorem t_says (a b : Bool) {Y : Res → List Slot → Prop} : w2 (f__law_says.run [.val (.bool a), .val (.bool b)]) Y ↔ Y (.val (.bool (decide (a = b)))) [.val (.bool a), .val (.bool b)] := by
  have e : isiv (.bool a) "bool" = true := rfl
  simp [u__law_says, b__law_says, e]
end Lw

/-! the law -/
namespace Lw
open PySem L2 Ev
theorem iso_o {m : Nat} {o : List Nat} (ho : Ord m o) (j : Nat) : isoB j (oD o) = decide (j = m) := by
  have hl : (natI o).length = m := by rw [natI_len, ho.len]
  by_cases e : j = m
  · subst e
    rw [decide_eq_true rfl]
    have hth : ((natI o).map PyData.int).all (thB j) = true := by
      rw [List.all_map, List.all_eq_true]
      intro n hn
      obtain ⟨t, ht, rfl⟩ := List.mem_map.mp hn
      have := (ho.mem t).mp ht
      simp [thB, this]
    have hnd : (natI o).Nodup := by
      unfold natI
      exact List.Pairwise.map _ (fun a b h e => h (Int.ofNat.inj e)) ho.nd
    have hns : nsB j ((natI o).map PyData.int) = true := by
      unfold nsB
      rw [intsD_map]
      exact decide_eq_true (((dcnt_le _).2.mpr hnd).trans hl)
    show (decide (((natI o).map PyData.int).length = j) && _ && _) = true
    rw [hth, hns, List.length_map, hl, decide_eq_true rfl]
    rfl
  · rw [decide_eq_false e]
    show (decide (((natI o).map PyData.int).length = j) && _ && _) = false
    rw [List.length_map, hl, decide_eq_false (fun h => e h.symm)]
    rfl
theorem cnt_p {m : Nat} {p : Int × List Nat} (hp : POk m p) (j : Nat) : cntB j (pD p) = decide (j = m) := by
  show (decide (0 < p.1) && isoB j (oD p.2)) = _
  rw [iso_o hp.od, decide_eq_true (show 0 < p.1 by have := hp.lo; omega)]
  rfl
theorem mix_p {m : Nat} {ps : List (Int × List Nat)} (hp : ∀ p ∈ ps, POk m p) (p0 : 0 < ps.length) (j : Nat) : mixB j (.tuple (ps.map pD)) = decide (j = m) := by
  cases ps with
  | nil => exact absurd p0 (Nat.lt_irrefl _)
  | cons a q =>
    show (!((a :: q).map pD).isEmpty && ((a :: q).map pD).all (cntB j)) = _
    by_cases e : j = m
    · rw [decide_eq_true e, List.all_eq_true.mpr]
      · rfl
      · intro d hd
        obtain ⟨p, hp', rfl⟩ := List.mem_map.mp hd
        rw [cnt_p (hp p hp'), decide_eq_true e]
    · rw [decide_eq_false e, List.map_cons, List.all_cons, cnt_p (hp a List.mem_cons_self), decide_eq_false e]
      rfl
theorem ob_m {m : Nat} (hm : m ≤ 10) {ps : List (Int × List Nat)} (hp : ∀ p ∈ ps, POk m p) (p6 : ps.length ≤ 6) : Ov 32 (.tuple (ps.map pD)) := by
  refine (Ob.tup (k := 2) (c := 22) fun d hd => ?_).mono (by omega) (by rw [List.length_map]; omega)
  obtain ⟨p, hp', rfl⟩ := List.mem_map.mp hd
  exact ob_p hm (hp p hp')
theorem ob_ml {m : Nat} (hm : m ≤ 10) {ps : List (Int × List Nat)} (hp : ∀ p ∈ ps, POk m p) (p6 : ps.length ≤ 6) : Ov 32 (.list (ps.map pD)) := by
  refine (Ob.lst (k := 2) (c := 22) fun d hd => ?_).mono (by omega) (by rw [List.length_map]; omega)
  obtain ⟨p, hp', rfl⟩ := List.mem_map.mp hd
  exact ob_p hm (hp p hp')
theorem t_ismixL (m : Nat) (l : List D) {Y : Res → List Slot → Prop} : w2 (f_is_mixture.run [.val (.int (m : Int)), .own l]) Y ↔ Y (.val (.bool false)) [.val (.int (m : Int)), .own l] := by
  have e : isiv (.list l) "tuple" = false := rfl
  simp [u_is_mixture, b_is_mixture, e]
theorem law_run (ns : List Int) (hl : ns.length ≤ 63) : ∃ bs, f_law.run [.val (.list (ns.map .int))] = some (.val (.bool true), bs) := by
  suffices h : w2 (f_law.run [.val (.list (ns.map .int))]) fun r bs => r = .val (.bool true) by
    obtain ⟨r, bs, e, rfl⟩ := h
    exact ⟨bs, e⟩
  simp [u_law, b_law]
  refine w2_mono (t_many (ns := ns) ⟨0, 0, 23, by decide, rfl⟩) ?_
  rintro _ _ ⟨l1, m, g1, m1, m2, rfl, rfl⟩
  simp
  refine w2_mono (t_lnext g1 2 (by decide) (by decide)) ?_
  rintro _ _ ⟨l2, x, g2, x0, x1, rfl, rfl⟩
  obtain ⟨F, F1, F2, hF⟩ : ∃ F : Int, 3 ≤ F ∧ F ≤ 10 ^ 59 ∧ atI [PyData.int 1000000000000000000, .int 100000000000000000000000000000000000000000000000000000000000] x = some (.int F) := by
    rcases (show x = 0 ∨ x = 1 by omega) with rfl | rfl
    · exact ⟨10 ^ 18, by decide, by decide, rfl⟩
    · exact ⟨10 ^ 59, by decide, by decide, rfl⟩
  simp [hF]
  refine w2_mono (t_mixture g2 m m2 F F1 F2) ?_
  rintro _ _ ⟨l3, ps, g3, hp, p0, p6, rfl, rfl⟩
  have oM := ob_m m2 hp p6
  have oM2 := ob_ml m2 hp p6
  have eM := mix_p hp p0
  have lM : (ps.map pD).length = ps.length := List.length_map ..
  have bMs := fun (g : List D) (hS : Sd ns g) => t_bentmixture hS m m1 m2 hp p0 p6
  obtain ⟨M, hM⟩ : ∃ M, M = ps.map pD := ⟨_, rfl⟩
  rw [← hM] at oM oM2 eM lM bMs
  simp [← hM]
  rw [r_for]
  simp
  refine wfor_rule (fun i env => Iv (∃ (l' : List D) (e4 e5 e6 e7 : Slot), Sd ns l' ∧ env = [Slot.val (.list (ns.map .int)), .own l', .val (.int (m : Int)), .val (.tuple M), e4, e5, e6, e7])) ⟨l3, _, _, _, _, g3, rfl⟩ ?_ ?_
  · rintro i d env hd ⟨l', e4, e5, e6, e7, g, rfl⟩
    simp
    refine w2_mono (bMs l' g) ?_
    rintro _ _ ⟨l4, b, g4, hb, rfl, rfl⟩
    have okb := hb.ok (by decide)
    simp [okb]
    rw [r_for]
    simp
    refine wfor_rule (fun i env => Iv (∃ e7' : Slot, env = [Slot.val (.list (ns.map .int)), .own l4, .val (.int (m : Int)), .val (.tuple M), .val d, .val b, .val (.str b.shown), e7'])) ⟨_, rfl⟩ ?_ ?_
    · rintro k x env hx ⟨e7', rfl⟩
      obtain ⟨j, rfl, j1, j2⟩ : ∃ j : Nat, x = .int (j : Int) ∧ 1 ≤ j ∧ j ≤ 10 := by
        have a1 : ∃ j : Nat, (if (m : Int) + 1 < 10 then (m : Int) + 1 else 10) = (j : Int) ∧ 1 ≤ j ∧ j ≤ 10 := by
          by_cases c : (m : Int) + 1 < 10
          · rw [if_pos c]; exact ⟨m + 1, by omega, by omega, by omega⟩
          · rw [if_neg c]; exact ⟨10, rfl, by omega, by omega⟩
        have a2 : ∃ j : Nat, (if 1 < (m : Int) - 1 then (m : Int) - 1 else 1) = (j : Int) ∧ 1 ≤ j ∧ j ≤ 10 := by
          by_cases c : 1 < (m : Int) - 1
          · rw [if_pos c]; exact ⟨m - 1, by omega, by omega, by omega⟩
          · rw [if_neg c]; exact ⟨1, rfl, by omega, by omega⟩
        obtain ⟨j3, a1, b1, c1⟩ := a1
        obtain ⟨j4, a2, b2, c2⟩ := a2
        rw [a1, a2] at hx
        have hx := List.mem_of_getElem? hx
        simp only [List.mem_cons, List.not_mem_nil, or_false] at hx
        rcases hx with rfl | rfl | rfl
        · exact ⟨m, rfl, m1, m2⟩
        · exact ⟨j3, rfl, b1, c1⟩
        · exact ⟨j4, rfl, b2, c2⟩
      simp [t_ismix j j1 j2 hb, t_lismix j hb, t_says, t_ismix j j1 j2 oM, eM]
      exact ⟨by omega, _, rfl⟩
    · rintro env ⟨e7', rfl⟩
      simp [okb]
      exact ⟨l4, _, _, _, _, g4, rfl⟩
  · rintro env ⟨l4, e4, e5, e6, e7, g4, rfl⟩
    simp [t_ismix m m1 m2 oM, eM, lM, t_ismixL]
end Lw

set_option maxHeartbeats 0
namespace Lw
open PySem PySem.Spec PyProof.Rows L2 Ev
def n__law_next : List Str := ["_law_state", "_law_below", "_law_found", "_law_cell"]
theorem c__law_next : chSL n__law_next (defScope (top 12)) b__law_next (defBody (top 12)) = true := by decide +kernel
theorem s__law_next : FnScope n__law_next ["_law_state", "_law_below"] (defScope (top 12)) := ⟨rfl, rfl, rfl, by decide +kernel, rfl, by decide +kernel, by decide +kernel⟩
def n__law_many : List Str := ["_law_state", "_law_most"]
theorem c__law_many : chSL n__law_many (defScope (top 13)) b__law_many (defBody (top 13)) = true := by decide +kernel
theorem s__law_many : FnScope n__law_many ["_law_state", "_law_most"] (defScope (top 13)) := ⟨rfl, rfl, rfl, by decide +kernel, rfl, by decide +kernel, by decide +kernel⟩
def n__law_order : List Str := ["_law_state", "_law_many_here", "_law_left", "_law_found"]
theorem c__law_order : chSL n__law_order (defScope (top 14)) b__law_order (defBody (top 14)) = true := by decide +kernel
theorem s__law_order : FnScope n__law_order ["_law_state", "_law_many_here"] (defScope (top 14)) := ⟨rfl, rfl, rfl, by decide +kernel, rfl, by decide +kernel, by decide +kernel⟩
def n__law_far : List Str := ["_law_state", "_law_far_here", "_law_found", "_law_size"]
theorem c__law_far : chSL n__law_far (defScope (top 20)) b__law_far (defBody (top 20)) = true := by decide +kernel
theorem s__law_far : FnScope n__law_far ["_law_state", "_law_far_here"] (defScope (top 20)) := ⟨rfl, rfl, rfl, by decide +kernel, rfl, by decide +kernel, by decide +kernel⟩
def n__law_mixture : List Str := ["_law_state", "_law_many_here", "_law_far_here", "_law_found", "_law_k", "_law_order_here"]
theorem c__law_mixture : chSL n__law_mixture (defScope (top 15)) b__law_mixture (defBody (top 15)) = true := by decide +kernel
theorem s__law_mixture : FnScope n__law_mixture ["_law_state", "_law_many_here", "_law_far_here"] (defScope (top 15)) := ⟨rfl, rfl, rfl, by decide +kernel, rfl, by decide +kernel, by decide +kernel⟩
def n__law_deep : List Str := ["_law_many_here", "_law_found", "_law_k"]
theorem c__law_deep : chSL n__law_deep (defScope (top 21)) b__law_deep (defBody (top 21)) = true := by decide +kernel
theorem s__law_deep : FnScope n__law_deep ["_law_many_here"] (defScope (top 21)) := ⟨rfl, rfl, rfl, by decide +kernel, rfl, by decide +kernel, by decide +kernel⟩
def n__law_odd : List Str := ["_law_state", "_law_things"]
theorem c__law_odd : chSL n__law_odd (defScope (top 22)) b__law_odd (defBody (top 22)) = true := by decide +kernel
theorem s__law_odd : FnScope n__law_odd ["_law_state"] (defScope (top 22)) := ⟨rfl, rfl, rfl, by decide +kernel, rfl, by decide +kernel, by decide +kernel⟩
def n__law_bent_order : List Str := ["_law_state", "_law_many_here", "_law_order_here", "_law_at", "_law_more", "_law_other", "_law_ways"]
theorem c__law_bent_order : chSL n__law_bent_order (defScope (top 23)) b__law_bent_order (defBody (top 23)) = true := by decide +kernel
theorem s__law_bent_order : FnScope n__law_bent_order ["_law_state", "_law_many_here", "_law_order_here"] (defScope (top 23)) := ⟨rfl, rfl, rfl, by decide +kernel, rfl, by decide +kernel, by decide +kernel⟩
def n__law_bent_pair : List Str := ["_law_state", "_law_many_here", "_law_pair", "_law_count", "_law_order_here", "_law_ways"]
theorem c__law_bent_pair : chSL n__law_bent_pair (defScope (top 24)) b__law_bent_pair (defBody (top 24)) = true := by decide +kernel
theorem s__law_bent_pair : FnScope n__law_bent_pair ["_law_state", "_law_many_here", "_law_pair"] (defScope (top 24)) := ⟨rfl, rfl, rfl, by decide +kernel, rfl, by decide +kernel, by decide +kernel⟩
def n__law_bent_mixture : List Str := ["_law_state", "_law_many_here", "_law_mixture_here", "_law_way", "_law_some", "_law_at", "_law_pair"]
theorem c__law_bent_mixture : chSL n__law_bent_mixture (defScope (top 25)) b__law_bent_mixture (defBody (top 25)) = true := by decide +kernel
theorem s__law_bent_mixture : FnScope n__law_bent_mixture ["_law_state", "_law_many_here", "_law_mixture_here"] (defScope (top 25)) := ⟨rfl, rfl, rfl, by decide +kernel, rfl, by decide +kernel, by decide +kernel⟩
def n__law_says : List Str := ["_law_found", "_law_due"]
theorem c__law_says : chSL n__law_says (defScope (top 19)) b__law_says (defBody (top 19)) = true := by decide +kernel
theorem s__law_says : FnScope n__law_says ["_law_found", "_law_due"] (defScope (top 19)) := ⟨rfl, rfl, rfl, by decide +kernel, rfl, by decide +kernel, by decide +kernel⟩
def n_is_whole : List Str := ["thing"]
theorem c_is_whole : chSL n_is_whole (defScope (top 1)) b_is_whole (defBody (top 1)) = true := by decide +kernel
theorem s_is_whole : FnScope n_is_whole ["thing"] (defScope (top 1)) := ⟨rfl, rfl, rfl, by decide +kernel, rfl, by decide +kernel, by decide +kernel⟩
def n_is_many : List Str := ["thing"]
theorem c_is_many : chSL n_is_many (defScope (top 4)) b_is_many (defBody (top 4)) = true := by decide +kernel
theorem s_is_many : FnScope n_is_many ["thing"] (defScope (top 4)) := ⟨rfl, rfl, rfl, by decide +kernel, rfl, by decide +kernel, by decide +kernel⟩
def n_is_thing : List Str := ["many", "thing"]
theorem c_is_thing : chSL n_is_thing (defScope (top 5)) b_is_thing (defBody (top 5)) = true := by decide +kernel
theorem s_is_thing : FnScope n_is_thing ["many", "thing"] (defScope (top 5)) := ⟨rfl, rfl, rfl, by decide +kernel, rfl, by decide +kernel, by decide +kernel⟩
def n_is_order : List Str := ["many", "thing", "one"]
theorem c_is_order : chSL n_is_order (defScope (top 7)) b_is_order (defBody (top 7)) = true := by decide +kernel
theorem s_is_order : FnScope n_is_order ["many", "thing"] (defScope (top 7)) := ⟨rfl, rfl, rfl, by decide +kernel, rfl, by decide +kernel, by decide +kernel⟩
def n_is_counted : List Str := ["many", "thing"]
theorem c_is_counted : chSL n_is_counted (defScope (top 9)) b_is_counted (defBody (top 9)) = true := by decide +kernel
theorem s_is_counted : FnScope n_is_counted ["many", "thing"] (defScope (top 9)) := ⟨rfl, rfl, rfl, by decide +kernel, rfl, by decide +kernel, by decide +kernel⟩
def n_is_mixture : List Str := ["many", "thing", "pair"]
theorem c_is_mixture : chSL n_is_mixture (defScope (top 10)) b_is_mixture (defBody (top 10)) = true := by decide +kernel
theorem s_is_mixture : FnScope n_is_mixture ["many", "thing"] (defScope (top 10)) := ⟨rfl, rfl, rfl, by decide +kernel, rfl, by decide +kernel, by decide +kernel⟩
def n__law_int : List Str := ["_law_thing"]
theorem c__law_int : chSL n__law_int (defScope (top 16)) b__law_int (defBody (top 16)) = true := by decide +kernel
theorem s__law_int : FnScope n__law_int ["_law_thing"] (defScope (top 16)) := ⟨rfl, rfl, rfl, by decide +kernel, rfl, by decide +kernel, by decide +kernel⟩
def n__law_is_order : List Str := ["_law_many_here", "_law_thing", "_law_one"]
theorem c__law_is_order : chSL n__law_is_order (defScope (top 17)) b__law_is_order (defBody (top 17)) = true := by decide +kernel
theorem s__law_is_order : FnScope n__law_is_order ["_law_many_here", "_law_thing"] (defScope (top 17)) := ⟨rfl, rfl, rfl, by decide +kernel, rfl, by decide +kernel, by decide +kernel⟩
def n__law_is_mixture : List Str := ["_law_many_here", "_law_thing", "_law_pair"]
theorem c__law_is_mixture : chSL n__law_is_mixture (defScope (top 18)) b__law_is_mixture (defBody (top 18)) = true := by decide +kernel
theorem s__law_is_mixture : FnScope n__law_is_mixture ["_law_many_here", "_law_thing"] (defScope (top 18)) := ⟨rfl, rfl, rfl, by decide +kernel, rfl, by decide +kernel, by decide +kernel⟩
def n_law : List Str := ["_law_script", "_law_state", "_law_many_here", "_law_mixture_here", "_law_turn", "_law_thing", "_law_kept", "_law_other"]
theorem c_law : chSL n_law (defScope (top 26)) b_law (defBody (top 26)) = true := by decide +kernel
theorem s_law : FnScope n_law ["_law_script"] (defScope (top 26)) := ⟨rfl, rfl, rfl, by decide +kernel, rfl, by decide +kernel, by decide +kernel⟩
theorem ob_eq (s : PySem.W.SharedT) : ob s = hk.obs s.abs := He.obsDG_eq (HandSHeadRun.getT_eq s)
theorem facts {P : Program} {w : World} {K : PySem.W.Frag} {h : Heap} {mg : Str → Option Value} {f : Addr} (X : K.In h) (G : h.Ns mainGlobals mg) (hfa : mg ("law" : Str) = some (.ref f)) (c : He.SaysD fas fns K) :
    ∃ fd : FuncData, (∀ (s : Shared) (v : Value), BindsTo s fd ⟨[v], []⟩ [("_law_script", v)]) ∧ ∀ base : Heap, K.In base → base.Ns mainGlobals mg → FnOkG P w K mg base 6 f fd ["_law_script"] (spOf K f_law) := by
  obtain ⟨fd__law_next, F__law_next⟩ := c.def_ 0 (d := d__law_next) rfl
  have g__law_next := He.glo_ok X G (c.fact 0 (f := .glo "_law_next") rfl)
  obtain ⟨fd__law_many, F__law_many⟩ := c.def_ 1 (d := d__law_many) rfl
  have g__law_many := He.glo_ok X G (c.fact 1 (f := .glo "_law_many") rfl)
  obtain ⟨fd__law_order, F__law_order⟩ := c.def_ 2 (d := d__law_order) rfl
  have g__law_order := He.glo_ok X G (c.fact 2 (f := .glo "_law_order") rfl)
  obtain ⟨fd__law_far, F__law_far⟩ := c.def_ 3 (d := d__law_far) rfl
  have g__law_far := He.glo_ok X G (c.fact 3 (f := .glo "_law_far") rfl)
  obtain ⟨fd__law_mixture, F__law_mixture⟩ := c.def_ 4 (d := d__law_mixture) rfl
  have g__law_mixture := He.glo_ok X G (c.fact 4 (f := .glo "_law_mixture") rfl)
  obtain ⟨fd__law_deep, F__law_deep⟩ := c.def_ 5 (d := d__law_deep) rfl
  have g__law_deep := He.glo_ok X G (c.fact 5 (f := .glo "_law_deep") rfl)
  obtain ⟨fd__law_odd, F__law_odd⟩ := c.def_ 6 (d := d__law_odd) rfl
  have g__law_odd := He.glo_ok X G (c.fact 6 (f := .glo "_law_odd") rfl)
  obtain ⟨fd__law_bent_order, F__law_bent_order⟩ := c.def_ 7 (d := d__law_bent_order) rfl
  have g__law_bent_order := He.glo_ok X G (c.fact 7 (f := .glo "_law_bent_order") rfl)
  obtain ⟨fd__law_bent_pair, F__law_bent_pair⟩ := c.def_ 8 (d := d__law_bent_pair) rfl
  have g__law_bent_pair := He.glo_ok X G (c.fact 8 (f := .glo "_law_bent_pair") rfl)
  obtain ⟨fd__law_bent_mixture, F__law_bent_mixture⟩ := c.def_ 9 (d := d__law_bent_mixture) rfl
  have g__law_bent_mixture := He.glo_ok X G (c.fact 9 (f := .glo "_law_bent_mixture") rfl)
  obtain ⟨fd__law_says, F__law_says⟩ := c.def_ 10 (d := d__law_says) rfl
  have g__law_says := He.glo_ok X G (c.fact 10 (f := .glo "_law_says") rfl)
  obtain ⟨fd_is_whole, F_is_whole⟩ := c.def_ 11 (d := d_is_whole) rfl
  have g_is_whole := He.glo_ok X G (c.fact 11 (f := .glo "is_whole") rfl)
  obtain ⟨fd_is_many, F_is_many⟩ := c.def_ 12 (d := d_is_many) rfl
  have g_is_many := He.glo_ok X G (c.fact 12 (f := .glo "is_many") rfl)
  obtain ⟨fd_is_thing, F_is_thing⟩ := c.def_ 13 (d := d_is_thing) rfl
  have g_is_thing := He.glo_ok X G (c.fact 13 (f := .glo "is_thing") rfl)
  obtain ⟨fd_is_order, F_is_order⟩ := c.def_ 14 (d := d_is_order) rfl
  have g_is_order := He.glo_ok X G (c.fact 14 (f := .glo "is_order") rfl)
  obtain ⟨fd_is_counted, F_is_counted⟩ := c.def_ 15 (d := d_is_counted) rfl
  have g_is_counted := He.glo_ok X G (c.fact 15 (f := .glo "is_counted") rfl)
  obtain ⟨fd_is_mixture, F_is_mixture⟩ := c.def_ 16 (d := d_is_mixture) rfl
  have g_is_mixture := He.glo_ok X G (c.fact 16 (f := .glo "is_mixture") rfl)
  obtain ⟨fd__law_int, F__law_int⟩ := c.def_ 17 (d := d__law_int) rfl
  have g__law_int := He.glo_ok X G (c.fact 17 (f := .glo "_law_int") rfl)
  obtain ⟨fd__law_is_order, F__law_is_order⟩ := c.def_ 18 (d := d__law_is_order) rfl
  have g__law_is_order := He.glo_ok X G (c.fact 18 (f := .glo "_law_is_order") rfl)
  obtain ⟨fd__law_is_mixture, F__law_is_mixture⟩ := c.def_ 19 (d := d__law_is_mixture) rfl
  have g__law_is_mixture := He.glo_ok X G (c.fact 19 (f := .glo "_law_is_mixture") rfl)
  obtain ⟨fd_law, F_law⟩ := c.def_ 20 (d := d_law) rfl
  have g_law := He.glo_ok X G (c.fact 20 (f := .glo "law") rfl)
  have u_len := He.free_ok X G (c.fact 21 (f := .free "len") rfl)
  have u_min := He.free_ok X G (c.fact 22 (f := .free "min") rfl)
  have u_int := He.free_ok X G (c.fact 23 (f := .free "int") rfl)
  have u_list := He.free_ok X G (c.fact 24 (f := .free "list") rfl)
  have u_range := He.free_ok X G (c.fact 25 (f := .free "range") rfl)
  have u_tuple := He.free_ok X G (c.fact 26 (f := .free "tuple") rfl)
  have u_str := He.free_ok X G (c.fact 27 (f := .free "str") rfl)
  have u_isinstance := He.free_ok X G (c.fact 28 (f := .free "isinstance") rfl)
  have u_bool := He.free_ok X G (c.fact 29 (f := .free "bool") rfl)
  have u_set := He.free_ok X G (c.fact 30 (f := .free "set") rfl)
  have u_sorted := He.free_ok X G (c.fact 31 (f := .free "sorted") rfl)
  have u_repr := He.free_ok X G (c.fact 32 (f := .free "repr") rfl)
  have u_max := He.free_ok X G (c.fact 33 (f := .free "max") rfl)
  have v_MOST : GlGm K mg "MOST" (.int 10) := by obtain ⟨t, e⟩ := He.int_ok X G (c.fact 34 (f := .int "MOST" 10) rfl); exact glGm_c ⟨_, V.int 10, e, ⟨t, rfl⟩, rfl⟩
  have e := hfa.symm.trans g_law
  cases e
  have b := FunD.bindsA (ps := ["_law_script"]) F_law fun _ _ _ _ _ _ us hl => match us, hl with | [_], _ => rfl
  refine ⟨fd_law, fun s v => b s [v] rfl, fun base _ _ => ?_⟩
  have k__law_next : FnOk P w K mg base CX0 1 _ fd__law_next ["_law_state", "_law_below"] (spOf K f__law_next) := fn_ok (k := 0) F__law_next s__law_next rfl (by decide +kernel) c__law_next (by simp only [b__law_next, gdSL, gdS, gd, gdL, ikG, E.isTup, B1.nm, B2.nm, and_true, true_and, and_self, List.forall_mem_cons, List.not_mem_nil, false_imp_iff, implies_true, u_len])
  have o__law_next : ∀ j, 1 ≤ j → FnGs P w K mg base j f__law_next := fun j hj => fn_good g__law_next F__law_next.kp (FunD.bindsN F__law_next fun _ _ _ _ _ _ us hl => match us, hl with | [_, _], _ => rfl) k__law_next hj
  have k__law_many : FnOk P w K mg base CX0 2 _ fd__law_many ["_law_state", "_law_most"] (spOf K f__law_many) := fn_ok (k := 1) F__law_many s__law_many rfl (by decide +kernel) c__law_many (by simp only [b__law_many, gdSL, gdS, gd, gdL, ikG, E.isTup, B1.nm, B2.nm, and_true, true_and, and_self, List.forall_mem_cons, List.not_mem_nil, false_imp_iff, implies_true, o__law_next 1 (by decide), u_min, u_int])
  have o__law_many : ∀ j, 2 ≤ j → FnGs P w K mg base j f__law_many := fun j hj => fn_good g__law_many F__law_many.kp (FunD.bindsN F__law_many fun _ _ _ _ _ _ us hl => match us, hl with | [_, _], _ => rfl) k__law_many hj
  have k__law_order : FnOk P w K mg base CX0 2 _ fd__law_order ["_law_state", "_law_many_here"] (spOf K f__law_order) := fn_ok (k := 1) F__law_order s__law_order rfl (by decide +kernel) c__law_order (by simp only [b__law_order, gdSL, gdS, gd, gdL, ikG, E.isTup, B1.nm, B2.nm, and_true, true_and, and_self, List.forall_mem_cons, List.not_mem_nil, false_imp_iff, implies_true, o__law_next 1 (by decide), u_list, u_range, u_len, u_tuple])
  have o__law_order : ∀ j, 2 ≤ j → FnGs P w K mg base j f__law_order := fun j hj => fn_good g__law_order F__law_order.kp (FunD.bindsN F__law_order fun _ _ _ _ _ _ us hl => match us, hl with | [_, _], _ => rfl) k__law_order hj
  have k__law_far : FnOk P w K mg base CX0 2 _ fd__law_far ["_law_state", "_law_far_here"] (spOf K f__law_far) := fn_ok (k := 1) F__law_far s__law_far rfl (by decide +kernel) c__law_far (by simp only [b__law_far, gdSL, gdS, gd, gdL, ikG, E.isTup, B1.nm, B2.nm, and_true, true_and, and_self, List.forall_mem_cons, List.not_mem_nil, false_imp_iff, implies_true, o__law_next 1 (by decide)])
  have o__law_far : ∀ j, 2 ≤ j → FnGs P w K mg base j f__law_far := fun j hj => fn_good g__law_far F__law_far.kp (FunD.bindsN F__law_far fun _ _ _ _ _ _ us hl => match us, hl with | [_, _], _ => rfl) k__law_far hj
  have k__law_mixture : FnOk P w K mg base CX0 3 _ fd__law_mixture ["_law_state", "_law_many_here", "_law_far_here"] (spOf K f__law_mixture) := fn_ok (k := 2) F__law_mixture s__law_mixture rfl (by decide +kernel) c__law_mixture (by simp only [b__law_mixture, gdSL, gdS, gd, gdL, ikG, E.isTup, B1.nm, B2.nm, and_true, true_and, and_self, List.forall_mem_cons, List.not_mem_nil, false_imp_iff, implies_true, o__law_next 2 (by decide), o__law_order 2 (by decide), o__law_far 2 (by decide), u_range, u_len, u_tuple])
  have o__law_mixture : ∀ j, 3 ≤ j → FnGs P w K mg base j f__law_mixture := fun j hj => fn_good g__law_mixture F__law_mixture.kp (FunD.bindsN F__law_mixture fun _ _ _ _ _ _ us hl => match us, hl with | [_, _, _], _ => rfl) k__law_mixture hj
  have k__law_deep : FnOk P w K mg base CX0 1 _ fd__law_deep ["_law_many_here"] (spOf K f__law_deep) := fn_ok (k := 0) F__law_deep s__law_deep rfl (by decide +kernel) c__law_deep (by simp only [b__law_deep, gdSL, gdS, gd, gdL, ikG, E.isTup, B1.nm, B2.nm, and_true, true_and, and_self, List.forall_mem_cons, List.not_mem_nil, false_imp_iff, implies_true, u_range])
  have o__law_deep : ∀ j, 1 ≤ j → FnGs P w K mg base j f__law_deep := fun j hj => fn_good g__law_deep F__law_deep.kp (FunD.bindsN F__law_deep fun _ _ _ _ _ _ us hl => match us, hl with | [_], _ => rfl) k__law_deep hj
  have k__law_odd : FnOk P w K mg base CX0 2 _ fd__law_odd ["_law_state"] (spOf K f__law_odd) := fn_ok (k := 1) F__law_odd s__law_odd rfl (by decide +kernel) c__law_odd (by simp only [b__law_odd, gdSL, gdS, gd, gdL, ikG, E.isTup, B1.nm, B2.nm, and_true, true_and, and_self, List.forall_mem_cons, List.not_mem_nil, false_imp_iff, implies_true, o__law_deep 1 (by decide), o__law_next 1 (by decide)])
  have o__law_odd : ∀ j, 2 ≤ j → FnGs P w K mg base j f__law_odd := fun j hj => fn_good g__law_odd F__law_odd.kp (FunD.bindsN F__law_odd fun _ _ _ _ _ _ us hl => match us, hl with | [_], _ => rfl) k__law_odd hj
  have k__law_bent_order : FnOk P w K mg base CX0 3 _ fd__law_bent_order ["_law_state", "_law_many_here", "_law_order_here"] (spOf K f__law_bent_order) := fn_ok (k := 2) F__law_bent_order s__law_bent_order rfl (by decide +kernel) c__law_bent_order (by simp only [b__law_bent_order, gdSL, gdS, gd, gdL, ikG, E.isTup, B1.nm, B2.nm, and_true, true_and, and_self, List.forall_mem_cons, List.not_mem_nil, false_imp_iff, implies_true, o__law_next 2 (by decide), o__law_odd 2 (by decide), u_list])
  have o__law_bent_order : ∀ j, 3 ≤ j → FnGs P w K mg base j f__law_bent_order := fun j hj => fn_good g__law_bent_order F__law_bent_order.kp (FunD.bindsN F__law_bent_order fun _ _ _ _ _ _ us hl => match us, hl with | [_, _, _], _ => rfl) k__law_bent_order hj
  have k__law_bent_pair : FnOk P w K mg base CX0 4 _ fd__law_bent_pair ["_law_state", "_law_many_here", "_law_pair"] (spOf K f__law_bent_pair) := fn_ok (k := 3) F__law_bent_pair s__law_bent_pair rfl (by decide +kernel) c__law_bent_pair (by simp only [b__law_bent_pair, gdSL, gdS, gd, gdL, ikG, E.isTup, B1.nm, B2.nm, and_true, true_and, and_self, List.forall_mem_cons, List.not_mem_nil, false_imp_iff, implies_true, o__law_bent_order 3 (by decide), o__law_next 3 (by decide), u_str])
  have o__law_bent_pair : ∀ j, 4 ≤ j → FnGs P w K mg base j f__law_bent_pair := fun j hj => fn_good g__law_bent_pair F__law_bent_pair.kp (FunD.bindsN F__law_bent_pair fun _ _ _ _ _ _ us hl => match us, hl with | [_, _, _], _ => rfl) k__law_bent_pair hj
  have k__law_bent_mixture : FnOk P w K mg base CX0 5 _ fd__law_bent_mixture ["_law_state", "_law_many_here", "_law_mixture_here"] (spOf K f__law_bent_mixture) := fn_ok (k := 4) F__law_bent_mixture s__law_bent_mixture rfl (by decide +kernel) c__law_bent_mixture (by simp only [b__law_bent_mixture, gdSL, gdS, gd, gdL, ikG, E.isTup, B1.nm, B2.nm, and_true, true_and, and_self, List.forall_mem_cons, List.not_mem_nil, false_imp_iff, implies_true, o__law_next 4 (by decide), o__law_odd 4 (by decide), o__law_bent_pair 4 (by decide), u_list, u_len])
  have o__law_bent_mixture : ∀ j, 5 ≤ j → FnGs P w K mg base j f__law_bent_mixture := fun j hj => fn_good g__law_bent_mixture F__law_bent_mixture.kp (FunD.bindsN F__law_bent_mixture fun _ _ _ _ _ _ us hl => match us, hl with | [_, _, _], _ => rfl) k__law_bent_mixture hj
  have k__law_says : FnOk P w K mg base CX0 1 _ fd__law_says ["_law_found", "_law_due"] (spOf K f__law_says) := fn_ok (k := 0) F__law_says s__law_says rfl (by decide +kernel) c__law_says (by simp only [b__law_says, gdSL, gdS, gd, gdL, ikG, E.isTup, B1.nm, B2.nm, and_true, true_and, and_self, List.forall_mem_cons, List.not_mem_nil, false_imp_iff, implies_true, u_isinstance, u_bool])
  have o__law_says : ∀ j, 1 ≤ j → FnGs P w K mg base j f__law_says := fun j hj => fn_good g__law_says F__law_says.kp (FunD.bindsN F__law_says fun _ _ _ _ _ _ us hl => match us, hl with | [_, _], _ => rfl) k__law_says hj
  have k_is_whole : FnOk P w K mg base CX0 1 _ fd_is_whole ["thing"] (spOf K f_is_whole) := fn_ok (k := 0) F_is_whole s_is_whole rfl (by decide +kernel) c_is_whole (by simp only [b_is_whole, gdSL, gdS, gd, gdL, ikG, E.isTup, B1.nm, B2.nm, and_true, true_and, and_self, List.forall_mem_cons, List.not_mem_nil, false_imp_iff, implies_true, u_isinstance, u_int, u_bool])
  have o_is_whole : ∀ j, 1 ≤ j → FnGs P w K mg base j f_is_whole := fun j hj => fn_good g_is_whole F_is_whole.kp (FunD.bindsN F_is_whole fun _ _ _ _ _ _ us hl => match us, hl with | [_], _ => rfl) k_is_whole hj
  have k_is_many : FnOk P w K mg base CX0 2 _ fd_is_many ["thing"] (spOf K f_is_many) := fn_ok (k := 1) F_is_many s_is_many rfl (by decide +kernel) c_is_many (by simp only [b_is_many, gdSL, gdS, gd, gdL, ikG, E.isTup, B1.nm, B2.nm, and_true, true_and, and_self, List.forall_mem_cons, List.not_mem_nil, false_imp_iff, implies_true, o_is_whole 1 (by decide), v_MOST])
  have o_is_many : ∀ j, 2 ≤ j → FnGs P w K mg base j f_is_many := fun j hj => fn_good g_is_many F_is_many.kp (FunD.bindsN F_is_many fun _ _ _ _ _ _ us hl => match us, hl with | [_], _ => rfl) k_is_many hj
  have k_is_thing : FnOk P w K mg base CX0 2 _ fd_is_thing ["many", "thing"] (spOf K f_is_thing) := fn_ok (k := 1) F_is_thing s_is_thing rfl (by decide +kernel) c_is_thing (by simp only [b_is_thing, gdSL, gdS, gd, gdL, ikG, E.isTup, B1.nm, B2.nm, and_true, true_and, and_self, List.forall_mem_cons, List.not_mem_nil, false_imp_iff, implies_true, o_is_whole 1 (by decide)])
  have o_is_thing : ∀ j, 2 ≤ j → FnGs P w K mg base j f_is_thing := fun j hj => fn_good g_is_thing F_is_thing.kp (FunD.bindsN F_is_thing fun _ _ _ _ _ _ us hl => match us, hl with | [_, _], _ => rfl) k_is_thing hj
  have k_is_order : FnOk P w K mg base CX0 3 _ fd_is_order ["many", "thing"] (spOf K f_is_order) := fn_ok (k := 2) F_is_order s_is_order rfl (by decide +kernel) c_is_order (by simp only [b_is_order, gdSL, gdS, gd, gdL, ikG, E.isTup, B1.nm, B2.nm, and_true, true_and, and_self, List.forall_mem_cons, List.not_mem_nil, false_imp_iff, implies_true, o_is_many 2 (by decide), o_is_thing 2 (by decide), u_isinstance, u_tuple, u_len, u_set])
  have o_is_order : ∀ j, 3 ≤ j → FnGs P w K mg base j f_is_order := fun j hj => fn_good g_is_order F_is_order.kp (FunD.bindsN F_is_order fun _ _ _ _ _ _ us hl => match us, hl with | [_, _], _ => rfl) k_is_order hj
  have k_is_counted : FnOk P w K mg base CX0 4 _ fd_is_counted ["many", "thing"] (spOf K f_is_counted) := fn_ok (k := 3) F_is_counted s_is_counted rfl (by decide +kernel) c_is_counted (by simp only [b_is_counted, gdSL, gdS, gd, gdL, ikG, E.isTup, B1.nm, B2.nm, and_true, true_and, and_self, List.forall_mem_cons, List.not_mem_nil, false_imp_iff, implies_true, o_is_whole 3 (by decide), o_is_order 3 (by decide), u_isinstance, u_tuple, u_len])
  have o_is_counted : ∀ j, 4 ≤ j → FnGs P w K mg base j f_is_counted := fun j hj => fn_good g_is_counted F_is_counted.kp (FunD.bindsN F_is_counted fun _ _ _ _ _ _ us hl => match us, hl with | [_, _], _ => rfl) k_is_counted hj
  have k_is_mixture : FnOk P w K mg base CX0 5 _ fd_is_mixture ["many", "thing"] (spOf K f_is_mixture) := fn_ok (k := 4) F_is_mixture s_is_mixture rfl (by decide +kernel) c_is_mixture (by simp only [b_is_mixture, gdSL, gdS, gd, gdL, ikG, E.isTup, B1.nm, B2.nm, and_true, true_and, and_self, List.forall_mem_cons, List.not_mem_nil, false_imp_iff, implies_true, o_is_counted 4 (by decide), u_isinstance, u_tuple, u_len])
  have o_is_mixture : ∀ j, 5 ≤ j → FnGs P w K mg base j f_is_mixture := fun j hj => fn_good g_is_mixture F_is_mixture.kp (FunD.bindsN F_is_mixture fun _ _ _ _ _ _ us hl => match us, hl with | [_, _], _ => rfl) k_is_mixture hj
  have k__law_int : FnOk P w K mg base CX0 1 _ fd__law_int ["_law_thing"] (spOf K f__law_int) := fn_ok (k := 0) F__law_int s__law_int rfl (by decide +kernel) c__law_int (by simp only [b__law_int, gdSL, gdS, gd, gdL, ikG, E.isTup, B1.nm, B2.nm, and_true, true_and, and_self, List.forall_mem_cons, List.not_mem_nil, false_imp_iff, implies_true, u_isinstance, u_int, u_bool])
  have o__law_int : ∀ j, 1 ≤ j → FnGs P w K mg base j f__law_int := fun j hj => fn_good g__law_int F__law_int.kp (FunD.bindsN F__law_int fun _ _ _ _ _ _ us hl => match us, hl with | [_], _ => rfl) k__law_int hj
  have k__law_is_order : FnOk P w K mg base CX0 2 _ fd__law_is_order ["_law_many_here", "_law_thing"] (spOf K f__law_is_order) := fn_ok (k := 1) F__law_is_order s__law_is_order rfl (by decide +kernel) c__law_is_order (by simp only [b__law_is_order, gdSL, gdS, gd, gdL, ikG, E.isTup, B1.nm, B2.nm, and_true, true_and, and_self, List.forall_mem_cons, List.not_mem_nil, false_imp_iff, implies_true, o__law_int 1 (by decide), u_isinstance, u_tuple, u_len, u_sorted, u_list, u_range])
  have o__law_is_order : ∀ j, 2 ≤ j → FnGs P w K mg base j f__law_is_order := fun j hj => fn_good g__law_is_order F__law_is_order.kp (FunD.bindsN F__law_is_order fun _ _ _ _ _ _ us hl => match us, hl with | [_, _], _ => rfl) k__law_is_order hj
  have k__law_is_mixture : FnOk P w K mg base CX0 3 _ fd__law_is_mixture ["_law_many_here", "_law_thing"] (spOf K f__law_is_mixture) := fn_ok (k := 2) F__law_is_mixture s__law_is_mixture rfl (by decide +kernel) c__law_is_mixture (by simp only [b__law_is_mixture, gdSL, gdS, gd, gdL, ikG, E.isTup, B1.nm, B2.nm, and_true, true_and, and_self, List.forall_mem_cons, List.not_mem_nil, false_imp_iff, implies_true, o__law_int 2 (by decide), o__law_is_order 2 (by decide), u_isinstance, u_tuple, u_len])
  have o__law_is_mixture : ∀ j, 3 ≤ j → FnGs P w K mg base j f__law_is_mixture := fun j hj => fn_good g__law_is_mixture F__law_is_mixture.kp (FunD.bindsN F__law_is_mixture fun _ _ _ _ _ _ us hl => match us, hl with | [_, _], _ => rfl) k__law_is_mixture hj
  have k_law : FnOkG P w K mg base 6 _ fd_law ["_law_script"] (spOf K f_law) := fn_okG (k := 5) F_law s_law rfl (by decide +kernel) c_law (by simp only [b_law, Bool.false_eq_true, Bool.true_eq_false, true_imp_iff, forall_const, gdSL, gdS, gd, gdL, ikG, E.isTup, B1.nm, B2.nm, and_true, true_and, and_self, List.forall_mem_cons, List.not_mem_nil, false_imp_iff, implies_true, o__law_many 5 (by decide), o__law_mixture 5 (by decide), o__law_next 5 (by decide), o__law_bent_mixture 5 (by decide), o__law_says 5 (by decide), o_is_mixture 5 (by decide), o__law_is_mixture 5 (by decide), u_range, u_repr, u_min, u_max, u_list])
  exact k_law
end Lw
open PySem PySem.W PySem.Calls PyProof.Rows
theorem PySem.Challenge.cw_fallgain_k23_mixtures_or_not_holds : PySem.Challenge.rw_fallgain_k23_mixtures_or_not.Holds := by
  w_on; o_law
  refine HandSHeadRun.head_any (r := OpenLaw.row PySem.Challenge.rw_fallgain_k23_mixtures_or_not) (q := view (OpenLaw.row PySem.Challenge.rw_fallgain_k23_mixtures_or_not).prog [26]) (H := Lw.hk) (ob := Lw.ob) (M := 1620) (loose := Lw.looseNames)
    (d := HandSHeadRun.topDef (OpenLaw.row PySem.Challenge.rw_fallgain_k23_mixtures_or_not).prog 26) (kwd := []) Lw.ob_eq
    (by kernel_rfl) (fun s => by kernel_rfl) Lw.run (by kernel_rfl) (by kernel_rfl) (by kernel_rfl) (by rfl) (by first | assumption | decide +kernel) (by decide +kernel) ⟨rfl, rfl, rfl, rfl, rfl, by decide +kernel⟩ ?hw ?hc
  case hw => w_witness2
  case hc =>
    refine Ev.walkG (l := PySem.Challenge.rw_fallgain_k23_mixtures_or_not) (n := 63) (k := 6) (x := "_law_script") rfl (by decide) (by kernel_rfl) ⟨rfl, by decide, by decide⟩ ?F
    intro w mg fa h Y G hmg0
    obtain ⟨K, KX, c⟩ := Y
    have hmg : mg ("law" : PySem.Str) = some (.ref fa) := by
      have e : (HandSHeadRun.topDef (OpenLaw.row PySem.Challenge.rw_fallgain_k23_mixtures_or_not).prog 26).name = ("law" : PySem.Str) := by kernel_rfl
      rw [← e]
      exact hmg0
    obtain ⟨fd, hb, hF⟩ := Lw.facts (P := (PySem.Challenge.rw_fallgain_k23_mixtures_or_not).prog) (w := w) KX G hmg c
    exact ⟨K, fd, Ev.spOf K Lw.f_law, KX, hb, fun H a ns hl hO hS => Ev.law_sp rfl (by decide) (fun ns hl => Lw.law_run ns hl) H a ns hl (Ev.no_tabs rfl) hS, hF⟩
