import PyProof.Rows.All
import Wide.All
import OpenK.AllK
import Wide.FinOn
import PySem.Value
import PyProof.P3Statements
import PyProof.SliceMore
import PyProof.StationsW
import PyProof.DictKinds
import PyProof.DictList
import PyProof.DictStraight
import PyProof.Cells
import PyProof.PureInt
import PyProof.ListOps
import PyProof.Rows.IntRules
import PyProof.Rows.RuleB_floordiv
import PyProof.Rows.RuleB_pow
import PyProof.Rows.StrRules
import PyProof.Rows.ListMul
import PyProof.NoPylong
import PyProof.IsRules
import PyProof.P3In
import PyProof.EqLayable
import PyProof.Rows.EqDataRows
import PyProof.DictRoads
import PyProof.ListIndexNeg
import PyProof.Rows.Tup
import PyProof.Rows.StrTemp
import PyProof.SliceList
import PyProof.Rows.SeqSlice
import PyProof.Rows.SeqIn
import PyProof.StrOps
import PyProof.TupleIter
import PyProof.RangeFor
import PyProof.Rows.Range3
import PyProof.ListCopy
import PyProof.ListRange
import PyProof.WalkInts
import PyProof.ConsumeWalk
import PyProof.Rows.SortShell
import PyProof.Rows.SortWalk
import PyProof.Rows.MinMaxN
import PyProof.Walks
import KE.KDictList
import KE.KIsNot
import PyProof.Rows.SeqMore2
import PyProof.MeetsSeq
import PyProof.MeetsDictList
import PyProof.Rows.TupIter
import PyProof.WalksPairs
import PyProof.CompFree
import PyProof.Rows.TopTwo
import PyProof.RulesAs
import PyProof.RulesDel
import PyProof.P3Eq
import PySem.Challenge.RW_uf040032_03
set_option Elab.async false
section
open PySem PySem.W PyProof.Rows
namespace Mine
noncomputable def goT (ok : Thread → Bool) (stp : SharedT → Thread → Option (SharedT × Thread)) : Nat → SharedT → Thread → Option SharedT
  | 0, _, _ => none
  | n + 1, s, t => match through t with
    | true => some s
    | false => match ok t with
      | false => none
      | true => match stp s t with
        | some r => goT ok stp n r.1 r.2
        | none => none
noncomputable def treeOfL : List Obj → Nat → BT → BT
  | [], _, t => t
  | o :: l, i, t => treeOfL l (i + 1) (t.ins i o)
noncomputable def bootTree (P : Params) : BT := treeOfL (boot_heap P).objs.toList 0 .nil
noncomputable def theQ : Program := view PySem.Challenge.pw_uf040032_03 [0, 2, 3, 4, 5, 6, 7, 8, 9, 10, 11, 13, 14, 16, 17, 18, 19, 20, 21, 22, 23, 24, 25, 26, 27, 28, 29, 30, 31, 32, 33, 34, 35, 36, 37, 38, 39, 40]
set_option maxRecDepth 1000000 in
theorem top_run : ∀ w : World, (fun os => (goT (stepOk 11 (some (.ref 6))) (stepT (denote treeTable) PySem.Challenge.pw_uf040032_03 w) 7842 ⟨bootTree w.params, 11, (boot_heap w.params).life, Array.mk [], boot_drawn, boot_toks, os⟩ (topStub PySem.Challenge.pw_uf040032_03)).map fun s₁ => ((staticsOk (importedModules PySem.Challenge.pw_uf040032_03.main.body) (boot_heap w.params) s₁.abs.heap && namesBound PySem.Challenge.pw_uf040032_03 s₁.abs.heap && gensDone s₁.abs && laidKept (boot_heap w.params) s₁.abs.heap),
    openSeen theQ [] (importedModules PySem.Challenge.pw_uf040032_03.main.body) (fun s => xlAt theQ [] s && recOk [] s) true s₁.abs)) = fun _ => some (true, openGood theQ []) := by
  intro w
  rw [PySem.W.Fast.te5923862056798008813, PySem.W.Fast.te4187177175401517315, PySem.W.Fast.te6613529449190102663, PySem.W.Fast.te10156331382660048174, PySem.W.Fast.te11892475500146522536, PySem.W.Fast.te14364793385576792824]
  kernel_rfl
end Mine
end
section
set_option autoImplicit false
set_option linter.unusedVariables false
set_option genSizeOf false
set_option genSizeOfSpec false
set_option genInjectivity false
namespace Mine
open PySem

inductive MV where
  | none
  | bool (b : Bool)
  | int (i : Int)
  | str (s : Str)
  | ref (a : Addr)
  | tup (vs : List MV)
  | rng (a b c : Int)
  | exc (c : String)

inductive MObj where
  | lst (vs : List MV)
  | ro (vs : List MV)
  | dct (es : List (Int × MV))
  | inst (fs : List (String × MV))

abbrev MH := Addr → Option MObj
abbrev Sto := String → Option MV

noncomputable def MH.set (H : MH) (a : Addr) (o : MObj) : MH := fun b => if b = a then some o else H b
noncomputable def Sto.set (ρ : Sto) (x : String) (v : MV) : Sto := fun y => if y = x then some v else ρ y
noncomputable def Sto.del (ρ : Sto) (x : String) : Sto := fun y => if y = x then none else ρ y
noncomputable def Sto.ofArgs : List String → List MV → Sto
  | x :: xs, v :: vs => (Sto.ofArgs xs vs).set x v
  | _, _ => fun _ => none

inductive All2 {α β : Type} (R : α → β → Prop) : List α → List β → Prop where
  | nil : All2 R [] []
  | cons {a b l r} : R a b → All2 R l r → All2 R (a :: l) (b :: r)

/-- a list, the law's script or another -/
noncomputable def LstAt (H : MH) (a : Addr) (vs : List MV) : Prop := H a = some (.lst vs) ∨ H a = some (.ro vs)

/-- the sizes that the model bears -/
noncomputable def bigList : Nat := 2 ^ 20

noncomputable def fsGet (fs : List (String × MV)) (x : String) : Option MV := match fs with
  | [] => none
  | (y, v) :: r => if x = y then some v else fsGet r x
noncomputable def fsSet (fs : List (String × MV)) (x : String) (v : MV) : List (String × MV) := match fs with
  | [] => [(x, v)]
  | (y, u) :: r => if x = y then (y, v) :: r else (y, u) :: fsSet r x v

noncomputable def dGet (es : List (Int × MV)) (k : Int) : Option MV := match es with
  | [] => none
  | (y, v) :: r => if k = y then some v else dGet r k
noncomputable def dSet (es : List (Int × MV)) (k : Int) (v : MV) : List (Int × MV) := if es.any (fun e => decide (e.1 = k)) then es.map (fun e => if e.1 = k then (e.1, v) else e) else es ++ [(k, v)]
noncomputable def dDel (es : List (Int × MV)) (k : Int) : List (Int × MV) := es.filter fun e => decide (e.1 ≠ k)

inductive BOp where | add | sub | mul | fdiv | mod | pow
inductive COp where | eq | ne | lt | le | gt | ge | isin | notin | is_ | isnot

mutual
inductive ME where
  | none
  | bool (b : Bool)
  | int (i : Int)
  | str (s : String)
  | var (x : String)
  | gconst (x : String) (v : MV)
  | bin (op : BOp) (l r : ME)
  | neg (e : ME)
  | not (e : ME)
  | and (es : MEs)
  | or (es : MEs)
  | cmp (l : ME) (c : MCs)
  | attr (e : ME) (f : String)
  | sub (e i : ME)
  | slice (e lo hi : ME)
  | list (es : MEs)
  | tup (es : MEs)
  | dict
  | comp (elt : ME) (x : String) (it : ME) (cond : ME)
  | call (f : String) (es : MEs)
  | meth (e : ME) (m : String) (es : MEs)
  | mk (es : MEs)
  | bi (b : String) (es : MEs)
  | bm (e : ME) (m : String) (es : MEs)
  | isinst (e : ME) (t : String)
inductive MEs where
  | nil
  | cons (e : ME) (es : MEs)
inductive MCs where
  | nil
  | cons (op : COp) (e : ME) (c : MCs)
end

mutual
inductive MS where
  | expr (e : ME)
  | assign (x : String) (e : ME)
  | setAttr (e : ME) (f : String) (v : ME)
  | setIdx (e i v : ME)
  | ret (e : ME)
  | ite (t : ME) (a b : MSs)
  | whil (t : ME) (b : MSs)
  | for_ (x : String) (it : ME) (b : MSs)
  | forT (xs : List String) (it : ME) (b : MSs)
  | raise (c : String) (msg : String)
  | try_ (b : MSs) (x : String) (h : MSs)
inductive MSs where
  | nil
  | cons (s : MS) (ss : MSs)
end

/-! ## values -/
/-- plain data, to a depth -/
noncomputable def DR (H : MH) : Nat → MV → PyData → Prop
  | 0, _, _ => False
  | n + 1, v, d => match d with
    | .none => v = .none
    | .bool b => v = .bool b
    | .int i => v = .int i
    | .str s => v = .str s ∧ PyData.strOk s = true
    | .list ds => ∃ a vs, v = .ref a ∧ LstAt H a vs ∧ All2 (DR H n) vs ds
    | .tuple ds => ∃ vs, v = .tup vs ∧ All2 (DR H n) vs ds
    | _ => False

noncomputable def isNil : MV → Bool
  | .none => true
  | _ => false
noncomputable def isTru : MV → Bool
  | .bool b => b
  | _ => false

inductive CmpR (H : MH) : COp → MV → MV → Bool → Prop
  | eqi {x y : Int} : CmpR H .eq (.int x) (.int y) (decide (x = y))
  | nei {x y : Int} : CmpR H .ne (.int x) (.int y) (!decide (x = y))
  | eqs {x y : Str} : CmpR H .eq (.str x) (.str y) (decide (x = y))
  | nes {x y : Str} : CmpR H .ne (.str x) (.str y) (!decide (x = y))
  | eqd {a b : MV} {x y : PyData} (hx : DR H 8 a x) (hy : DR H 8 b y) : CmpR H .eq a b (PyData.eqv x y)
  | ned {a b : MV} {x y : PyData} (hx : DR H 8 a x) (hy : DR H 8 b y) : CmpR H .ne a b (!PyData.eqv x y)
  | lt {x y : Int} : CmpR H .lt (.int x) (.int y) (decide (x < y))
  | le {x y : Int} : CmpR H .le (.int x) (.int y) (decide (x ≤ y))
  | gt {x y : Int} : CmpR H .gt (.int x) (.int y) (decide (y < x))
  | ge {x y : Int} : CmpR H .ge (.int x) (.int y) (decide (y ≤ x))
  | ind {x : Int} {r : Addr} {es : List (Int × MV)} (h : H r = some (.dct es)) : CmpR H .isin (.int x) (.ref r) (dGet es x).isSome
  | notind {x : Int} {r : Addr} {es : List (Int × MV)} (h : H r = some (.dct es)) : CmpR H .notin (.int x) (.ref r) (!(dGet es x).isSome)
  | inl {x : Int} {r : Addr} {is : List Int} (h : LstAt H r (is.map .int)) : CmpR H .isin (.int x) (.ref r) (decide (x ∈ is))
  | notinl {x : Int} {r : Addr} {is : List Int} (h : LstAt H r (is.map .int)) : CmpR H .notin (.int x) (.ref r) (!decide (x ∈ is))
  | isN {a : MV} : CmpR H .is_ a .none (isNil a)
  | isnotN {a : MV} : CmpR H .isnot a .none (!isNil a)
  | isT {a : MV} : CmpR H .is_ a (.bool true) (isTru a)

noncomputable def mulOk (a b : Int) : Prop := a.natAbs ≤ 2 ^ 63 ∨ b.natAbs ≤ 2 ^ 63

/-- a new list is made of these -/
noncomputable def New (H : MH) (Q : MV → MH → Prop) (vs : List MV) : Prop := ∀ c, H c = none → Q (.ref c) (H.set c (.lst vs))

inductive BinR (H : MH) (Q : MV → MH → Prop) : BOp → MV → MV → Prop
  | add {x y : Int} (q : Q (.int (x + y)) H) : BinR H Q .add (.int x) (.int y)
  | sub {x y : Int} (q : Q (.int (x - y)) H) : BinR H Q .sub (.int x) (.int y)
  | mul {x y : Int} (h : mulOk x y) (q : Q (.int (x * y)) H) : BinR H Q .mul (.int x) (.int y)
  | fdiv {x y : Int} (h : y ≠ 0) (h2 : y.natAbs < 1073741824) (q : Q (.int (x.fdiv y)) H) : BinR H Q .fdiv (.int x) (.int y)
  | mod {x y : Int} (h : y ≠ 0) (q : Q (.int (x.fmod y)) H) : BinR H Q .mod (.int x) (.int y)
  | pow {x y : Int} (h0 : 0 ≤ y) (h1 : y ≤ 1000) (h2 : x.natAbs ≤ 10) (q : Q (.int (x ^ y.toNat)) H) : BinR H Q .pow (.int x) (.int y)
  | app {x y : Addr} {xs ys : List MV} (hx : H x = some (.lst xs)) (hy : H y = some (.lst ys)) (hl : xs.length + ys.length ≤ bigList) (q : New H Q (xs ++ ys)) : BinR H Q .add (.ref x) (.ref y)
  | rep {x : Addr} {k : Int} {v : MV} (hx : H x = some (.lst [v])) (h0 : 0 ≤ k) (h1 : k ≤ bigList) (q : New H Q (List.replicate k.toNat v)) : BinR H Q .mul (.ref x) (.int k)

noncomputable def atIdx (vs : List MV) (i : Int) : Option MV :=
  if 0 ≤ i then vs[i.toNat]? else if 0 ≤ i + vs.length then vs[(i + vs.length).toNat]? else none

noncomputable def smallI (i : Int) : Prop := -(2 ^ 40) ≤ i ∧ i ≤ 2 ^ 40

inductive SubR (H : MH) : MV → MV → MV → Prop
  | lst {a : Addr} {vs : List MV} {i : Int} {x : MV} (h : LstAt H a vs) (hx : atIdx vs i = some x) : SubR H (.ref a) (.int i) x
  | tup {vs : List MV} {i : Int} {x : MV} (hx : atIdx vs i = some x) : SubR H (.tup vs) (.int i) x
  | dct {a : Addr} {es : List (Int × MV)} {i : Int} {x : MV} (h : H a = some (.dct es)) (hx : dGet es i = some x) : SubR H (.ref a) (.int i) x

/-- a slice by ones -/
noncomputable def cut {α : Type} (vs : List α) (lo hi : Option Int) : List α :=
  (vs.drop (lo.elim 0 (clipAt vs.length))).take (hi.elim vs.length (clipAt vs.length) - lo.elim 0 (clipAt vs.length))
inductive OptI : MV → Option Int → Prop
  | none : OptI .none none
  | int {i : Int} : OptI (.int i) (some i)
inductive SliceR (H : MH) : MV → MV → MV → List MV → Prop
  | lst {a : Addr} {l h : MV} {lo hi : Option Int} {vs : List MV} (hv : LstAt H a vs) (hl : OptI l lo) (hh : OptI h hi) : SliceR H (.ref a) l h (cut vs lo hi)

/-- the items that a loop takes -/
noncomputable def rangeL (a b c : Int) : List Int :=
  (List.range (Builtin.Range.rangeSize a b c).toNat).map fun (k : Nat) => a + c * (k : Int)
inductive Elems (H : MH) : MV → List MV → Prop
  | lst {a : Addr} {vs : List MV} (h : LstAt H a vs) : Elems H (.ref a) vs
  | tup {vs : List MV} : Elems H (.tup vs) vs
  | rng {a b c : Int} : Elems H (.rng a b c) ((rangeL a b c).map .int)

noncomputable def excNames : List String := ["NoTrain", "NoStretch", "NoSeat", "NoStop", "NoLeg", "NoTicket", "Full", "Shared", "NoText"]
inductive IsiR (H : MH) : MV → String → Bool → Prop
  | ii {i : Int} : IsiR H (.int i) "int" true
  | ib {i : Bool} : IsiR H (.bool i) "int" true
  | in_ : IsiR H .none "int" false
  | is_ {s : Str} : IsiR H (.str s) "int" false
  | it {vs : List MV} : IsiR H (.tup vs) "int" false
  | bb {i : Bool} : IsiR H (.bool i) "bool" true
  | bi {i : Int} : IsiR H (.int i) "bool" false
  | ll {a : Addr} {vs : List MV} (h : LstAt H a vs) : IsiR H (.ref a) "list" true
  | li {i : Int} : IsiR H (.int i) "list" false
  | ln : IsiR H .none "list" false
  | tt {vs : List MV} : IsiR H (.tup vs) "tuple" true
  | ti {i : Int} : IsiR H (.int i) "tuple" false
  | exc {c t : String} (h : excNames.contains t = true) : IsiR H (.exc c) t (t == c)
  | val {c : String} : IsiR H (.exc c) "ValueError" true

noncomputable def minI (a b : Int) : Int := if b < a then b else a
noncomputable def maxI (a b : Int) : Int := if a < b then b else a

inductive BiR (hd : Bool) (H : MH) (Q : MV → MH → Prop) : String → List MV → Prop
  | lenL {a : Addr} {vs : List MV} (h : LstAt H a vs) (q : Q (.int vs.length) H) : BiR hd H Q "len" [.ref a]
  | lenT {vs : List MV} (q : Q (.int vs.length) H) : BiR hd H Q "len" [.tup vs]
  | range1 {b : Int} (h : smallI b) (q : Q (.rng 0 b 1) H) : BiR hd H Q "range" [.int b]
  | range2 {a b : Int} (h0 : smallI a) (h : smallI b) (q : Q (.rng a b 1) H) : BiR hd H Q "range" [.int a, .int b]
  | min2 {a b : Int} (h : hd = false) (q : Q (.int (minI a b)) H) : BiR hd H Q "min" [.int a, .int b]
  | max2 {a b : Int} (h : hd = false) (q : Q (.int (maxI a b)) H) : BiR hd H Q "max" [.int a, .int b]
  | maxL {a : Addr} {is : List Int} {m : Int} (h : hd = false) (hl : LstAt H a (is.map .int)) (hm : m ∈ is) (hx : ∀ i ∈ is, i ≤ m) (q : Q (.int m) H) : BiR hd H Q "max" [.ref a]
  | allL {a : Addr} {bs : List Bool} (h : hd = false) (hl : LstAt H a (bs.map .bool)) (q : Q (.bool (bs.all id)) H) : BiR hd H Q "all" [.ref a]
  | listL {a : Addr} {l : List MV} (h : hd = false) (hl : LstAt H a l) (q : New H Q l) : BiR hd H Q "list" [.ref a]
  | listD {a : Addr} {es : List (Int × MV)} (h : hd = false) (hl : H a = some (.dct es)) (hb : es.length ≤ bigList) (q : New H Q (es.map fun e => .int e.1)) : BiR hd H Q "list" [.ref a]

  | listR {a b : Int} (h : hd = false) (hb : (rangeL a b 1).length ≤ bigList) (q : New H Q ((rangeL a b 1).map .int)) : BiR hd H Q "list" [.rng a b 1]
  | sortedL {a : Addr} {is : List Int} (hl : LstAt H a (is.map .int)) (ha : is.Pairwise (· ≤ ·)) (q : New H Q (is.map .int)) : BiR hd H Q "sorted" [.ref a]

inductive BmR (H : MH) (Q : MV → MH → Prop) : String → MV → List MV → Prop
  | append {a : Addr} {l : List MV} {x : MV} (h : H a = some (.lst l)) (hl : l.length < bigList) (q : Q .none (H.set a (.lst (l ++ [x])))) : BmR H Q "append" (.ref a) [x]
  | remove {a : Addr} {is : List Int} {i : Int} (h : H a = some (.lst (is.map .int))) (hi : i ∈ is) (q : Q .none (H.set a (.lst ((is.erase i).map .int)))) : BmR H Q "remove" (.ref a) [.int i]
  | dpop {a : Addr} {es : List (Int × MV)} {k : Int} {x : MV} (h : H a = some (.dct es)) (hl : es.length ≤ bigList) (hx : dGet es k = some x) (q : Q x (H.set a (.dct (dDel es k)))) : BmR H Q "pop" (.ref a) [.int k]
  | index {a : Addr} {is : List Int} {i : Int} (h : H a = some (.lst (is.map .int))) (hi : i ∈ is) (q : Q (.int (is.idxOf i)) H) : BmR H Q "index" (.ref a) [.int i]
  | lpop {a : Addr} {l : List MV} {i : Int} {x : MV} (h : H a = some (.lst l)) (h0 : 0 ≤ i) (hx : l[i.toNat]? = some x) (q : Q x (H.set a (.lst (l.eraseIdx i.toNat)))) : BmR H Q "pop" (.ref a) [.int i]
inductive KindR (H : MH) : MV → String → Bool → Prop
  | lst {a : Addr} {l : List MV} {m : String} (h : H a = some (.lst l)) (hm : ["append", "remove", "index", "pop"].contains m = true) : KindR H (.ref a) m true
  | dct {a : Addr} {es : List (Int × MV)} {m : String} (h : H a = some (.dct es)) (hm : m = "pop") : KindR H (.ref a) m false

inductive AttrR (H : MH) : MV → String → MV → Prop
  | mk {a : Addr} {fs : List (String × MV)} {f : String} {x : MV} (h : H a = some (.inst fs)) (hx : fsGet fs f = some x) : AttrR H (.ref a) f x
inductive SetAttrR (H : MH) (Q : MH → Prop) : MV → String → MV → Prop
  | mk {a : Addr} {fs : List (String × MV)} {f : String} {x : MV} (h : H a = some (.inst fs)) (hl : fs.length < 100) (q : Q (H.set a (.inst (fsSet fs f x)))) : SetAttrR H Q (.ref a) f x
inductive SetIdxR (H : MH) (Q : MH → Prop) : MV → MV → MV → Prop
  | lst {a : Addr} {l : List MV} {i : Int} {x : MV} (h : H a = some (.lst l)) (h0 : 0 ≤ i) (h1 : i < l.length) (q : Q (H.set a (.lst (l.set i.toNat x)))) : SetIdxR H Q (.ref a) (.int i) x
  | dct {a : Addr} {es : List (Int × MV)} {i : Int} {x : MV} (h : H a = some (.dct es)) (hl : es.length < bigList) (q : Q (H.set a (.dct (dSet es i x)))) : SetIdxR H Q (.ref a) (.int i) x

/-- a call's words: handled?, the def, its arguments, the heap; what a return, what a raise must meet -/
abbrev CallT := Bool → String → List MV → MH → (MV → MH → Prop) → (String → MH → Prop) → Prop

/-! ## loops and comprehensions, over the meaning of their parts -/
noncomputable def compW (src : MV) (vs₀ : List MV) (cond : MV → MH → (Bool → MH → Prop) → Prop) (elt : MV → MH → (MV → MH → Prop) → Prop) (Q : MV → MH → Prop) : List MV → List MV → MH → Prop
  | [], acc, H => New H Q acc
  | v :: vs, acc, H => acc.length < bigList ∧ cond v H fun b H₁ => if b = true
    then elt v H₁ fun r H₂ => Elems H₂ src vs₀ ∧ compW src vs₀ cond elt Q vs (acc ++ [r]) H₂
    else Elems H₁ src vs₀ ∧ compW src vs₀ cond elt Q vs acc H₁

noncomputable def forW (src : MV) (vs₀ : List MV) (body : MV → Sto → MH → (Sto → MH → Prop) → Prop) (Q : Sto → MH → Prop) : List MV → Sto → MH → Prop
  | [], ρ, H => Q ρ H
  | v :: vs, ρ, H => body v ρ H fun ρ' H' => Elems H' src vs₀ ∧ forW src vs₀ body Q vs ρ' H'

noncomputable def whileW (test : Sto → MH → (Bool → MH → Prop) → Prop) (body : Sto → MH → (Sto → MH → Prop) → Prop) (Q : Sto → MH → Prop) : Nat → Sto → MH → Prop
  | 0, _, _ => False
  | n + 1, ρ, H => test ρ H fun b H₁ => if b = true
    then body ρ H₁ fun ρ' H' => whileW test body Q n ρ' H'
    else Q ρ H₁

inductive BindR : List String → List MV → Sto → Sto → Prop
  | nil {ρ : Sto} : BindR [] [] ρ ρ
  | cons {x : String} {xs : List String} {v : MV} {vs : List MV} {ρ ρ' : Sto} (h : BindR xs vs (ρ.set x v) ρ') : BindR (x :: xs) (v :: vs) ρ ρ'
noncomputable def asTruth (k : Bool → MH → Prop) (v : MV) (H : MH) : Prop := match v with
  | .bool b => k b H
  | _ => False
theorem asTruth_of {k : Bool → MH → Prop} {v : MV} {H : MH} (h : asTruth k v H) : ∃ b, v = .bool b ∧ k b H := by cases v <;> first | exact h.elim | exact ⟨_, rfl, h⟩

variable (Δ : CallT) (hd : Bool)
mutual
noncomputable def wE : ME → Sto → MH → (MV → MH → Prop) → (String → MH → Prop) → Prop
  | .none, _, H, Q, _ => Q .none H
  | .bool b, _, H, Q, _ => Q (.bool b) H
  | .int i, _, H, Q, _ => Q (.int i) H
  | .str s, _, H, Q, _ => Q (.str (Str.ofString s)) H
  | .var x, ρ, H, Q, _ => ∃ v, ρ x = some v ∧ Q v H
  | .gconst _ v, _, H, Q, _ => Q v H
  | .bin op l r, ρ, H, Q, X => wE l ρ H (fun a H₁ => wE r ρ H₁ (fun b H₂ => BinR H₂ Q op a b) X) X
  | .neg e, ρ, H, Q, X => wE e ρ H (fun v H₁ => ∃ i, v = .int i ∧ Q (.int (-i)) H₁) X
  | .not e, ρ, H, Q, X => wE e ρ H (asTruth fun b H₁ => Q (.bool (!b)) H₁) X
  | .and es, ρ, H, Q, X => wAnd es ρ H Q X
  | .or es, ρ, H, Q, X => wOr es ρ H Q X
  | .cmp l c, ρ, H, Q, X => wE l ρ H (fun a H₁ => wC c a ρ H₁ Q X) X
  | .attr e f, ρ, H, Q, X => wE e ρ H (fun v H₁ => ∃ x, AttrR H₁ v f x ∧ Q x H₁) X
  | .sub e i, ρ, H, Q, X => wE e ρ H (fun v H₁ => wE i ρ H₁ (fun k H₂ => ∃ x, SubR H₂ v k x ∧ Q x H₂) X) X
  | .slice e lo hi, ρ, H, Q, X => wE e ρ H (fun v H₁ => wE lo ρ H₁ (fun l H₂ => wE hi ρ H₂ (fun h H₃ => ∃ vs, SliceR H₃ v l h vs ∧ New H₃ Q vs) X) X) X
  | .list es, ρ, H, Q, X => wEs es ρ H (fun vs H₁ => New H₁ Q vs) X
  | .tup es, ρ, H, Q, X => wEs es ρ H (fun vs H₁ => Q (.tup vs) H₁) X
  | .dict, _, H, Q, _ => ∀ c, H c = none → Q (.ref c) (H.set c (.dct []))
  | .comp elt x it cond, ρ, H, Q, X => hd = false ∧ wE it ρ H (fun src H₁ => ∃ vs, Elems H₁ src vs ∧ compW src vs (fun v H k => wE cond (ρ.set x v) H (asTruth k) (fun _ _ => False)) (fun v H k => wE elt (ρ.set x v) H k (fun _ _ => False)) Q vs [] H₁) X
  | .call f es, ρ, H, Q, X => wEs es ρ H (fun vs H₁ => Δ hd f vs H₁ Q X) X
  | .meth e m es, ρ, H, Q, X => wE e ρ H (fun v H₁ => ∃ a fs, v = .ref a ∧ H₁ a = some (.inst fs) ∧ fsGet fs m = none ∧ wEs es ρ H₁ (fun vs H₂ => Δ hd m (v :: vs) H₂ Q X) X) X
  | .mk es, ρ, H, Q, X => wEs es ρ H (fun vs H₁ => ∀ a, H₁ a = none → Δ hd "__init__" (.ref a :: vs) (H₁.set a (.inst [])) (fun r H₂ => r = .none ∧ Q (.ref a) H₂) X) X
  | .bi b es, ρ, H, Q, X => wEs es ρ H (fun vs H₁ => BiR hd H₁ Q b vs) X
  | .bm e m es, ρ, H, Q, X => wE e ρ H (fun v H₁ => ∃ k, KindR H₁ v m k ∧ wEs es ρ H₁ (fun vs H₂ => KindR H₂ v m k ∧ BmR H₂ Q m v vs) X) X
  | .isinst e t, ρ, H, Q, X => wE e ρ H (fun v H₁ => ∃ b, IsiR H₁ v t b ∧ Q (.bool b) H₁) X
noncomputable def wEs : MEs → Sto → MH → (List MV → MH → Prop) → (String → MH → Prop) → Prop
  | .nil, _, H, Q, _ => Q [] H
  | .cons e es, ρ, H, Q, X => wE e ρ H (fun v H₁ => wEs es ρ H₁ (fun vs H₂ => Q (v :: vs) H₂) X) X
noncomputable def wAnd : MEs → Sto → MH → (MV → MH → Prop) → (String → MH → Prop) → Prop
  | .nil, _, _, _, _ => False
  | .cons e .nil, ρ, H, Q, X => wE e ρ H Q X
  | .cons e es, ρ, H, Q, X => wE e ρ H (asTruth fun b H₁ => if b = true then wAnd es ρ H₁ Q X else Q (.bool false) H₁) X
noncomputable def wOr : MEs → Sto → MH → (MV → MH → Prop) → (String → MH → Prop) → Prop
  | .nil, _, _, _, _ => False
  | .cons e .nil, ρ, H, Q, X => wE e ρ H Q X
  | .cons e es, ρ, H, Q, X => wE e ρ H (asTruth fun b H₁ => if b = true then Q (.bool true) H₁ else wOr es ρ H₁ Q X) X
noncomputable def wC : MCs → MV → Sto → MH → (MV → MH → Prop) → (String → MH → Prop) → Prop
  | .nil, _, _, _, _, _ => False
  | .cons op e .nil, a, ρ, H, Q, X => wE e ρ H (fun b H₁ => ∃ r, CmpR H₁ op a b r ∧ Q (.bool r) H₁) X
  | .cons op e c, a, ρ, H, Q, X => wE e ρ H (fun b H₁ => ∃ r, CmpR H₁ op a b r ∧ if r = true then wC c b ρ H₁ Q X else Q (.bool false) H₁) X
end

/-- statements: N what going on, R what a return, X what a raise must meet -/
noncomputable def wS_for (hd : Bool) (it : Sto → MH → (MV → MH → Prop) → Prop) (body : MV → Sto → MH → (Sto → MH → Prop) → Prop) (ρ : Sto) (H : MH) (N : Sto → MH → Prop) : Prop :=
  hd = false ∧ it ρ H fun src H₁ => ∃ vs, Elems H₁ src vs ∧ forW src vs body N vs ρ H₁
mutual
noncomputable def wS (hd : Bool) : MS → Sto → MH → (Sto → MH → Prop) → (MV → MH → Prop) → (String → Sto → MH → Prop) → Prop
  | .expr e, ρ, H, N, _, X => wE Δ hd e ρ H (fun _ H₁ => N ρ H₁) (fun c H₁ => X c ρ H₁)
  | .assign x e, ρ, H, N, _, X => wE Δ hd e ρ H (fun v H₁ => N (ρ.set x v) H₁) (fun c H₁ => X c ρ H₁)
  | .setAttr e f v, ρ, H, N, _, X => wE Δ hd v ρ H (fun x H₁ => wE Δ hd e ρ H₁ (fun o H₂ => SetAttrR H₂ (N ρ) o f x) (fun c H₁ => X c ρ H₁)) (fun c H₁ => X c ρ H₁)
  | .setIdx e i v, ρ, H, N, _, X => wE Δ hd v ρ H (fun x H₁ => wE Δ hd e ρ H₁ (fun o H₂ => wE Δ hd i ρ H₂ (fun k H₃ => SetIdxR H₃ (N ρ) o k x) (fun c H₁ => X c ρ H₁)) (fun c H₁ => X c ρ H₁)) (fun c H₁ => X c ρ H₁)
  | .ret e, ρ, H, _, R, X => wE Δ hd e ρ H R (fun c H₁ => X c ρ H₁)
  | .ite t a b, ρ, H, N, R, X => wE Δ hd t ρ H (asTruth fun c H₁ => if c = true then wSs hd a ρ H₁ N R X else wSs hd b ρ H₁ N R X) (fun c H₁ => X c ρ H₁)
  | .whil t b, ρ, H, N, R, X => ∃ n, whileW (fun ρ H k => wE Δ hd t ρ H (asTruth k) (fun c H₁ => X c ρ H₁)) (fun ρ H k => wSs hd b ρ H k R X) N n ρ H
  | .for_ x it b, ρ, H, N, R, X => wS_for hd (fun ρ H k => wE Δ hd it ρ H k (fun c H₁ => X c ρ H₁)) (fun v ρ H k => wSs hd b (ρ.set x v) H k R X) ρ H N
  | .forT xs it b, ρ, H, N, R, X => wS_for hd (fun ρ H k => wE Δ hd it ρ H k (fun c H₁ => X c ρ H₁)) (fun v ρ H k => ∃ vs ρ', v = .tup vs ∧ BindR xs vs ρ ρ' ∧ wSs hd b ρ' H k R X) ρ H N
  | .raise c _, ρ, H, _, _, X => hd = false ∧ X c ρ H
  | .try_ b x h, ρ, H, N, R, X => hd = false ∧ wSs hd b ρ H N R (fun c ρ' H' => wSs true h (ρ'.set x (.exc c)) H' (fun ρ'' H'' => N (ρ''.del x) H'') R (fun _ _ _ => False))
noncomputable def wSs (hd : Bool) : MSs → Sto → MH → (Sto → MH → Prop) → (MV → MH → Prop) → (String → Sto → MH → Prop) → Prop
  | .nil, ρ, H, N, _, _ => N ρ H
  | .cons s ss, ρ, H, N, R, X => wS hd s ρ H (fun ρ' H' => wSs hd ss ρ' H' N R X) R X
end

structure MFn where
  params : List String
  body : MSs

abbrev MProg := List (String × MFn)
noncomputable def MProg.fn (P : MProg) (f : String) : Option MFn := match P with
  | [] => none
  | (g, d) :: r => if f = g then some d else MProg.fn r f

noncomputable def callW (P : MProg) : Nat → CallT
  | 0, _, _, _, _, _, _ => False
  | n + 1, hd, f, vs, H, Q, X => ∃ d, P.fn f = some d ∧ d.params.length = vs.length ∧ wSs (callW P n) hd d.body (Sto.ofArgs d.params vs) H (fun _ H' => Q .none H') Q (fun c _ H' => X c H')

end Mine
end
section
set_option autoImplicit false
set_option linter.unusedVariables false
set_option genSizeOf false
set_option genSizeOfSpec false
set_option genInjectivity false
namespace Mine
open PySem

theorem ofString_inj {x y : String} (h : Str.ofString x = Str.ofString y) : x = y := by
  unfold Str.ofString at h
  rw [cpsOfBytes_string, cpsOfBytes_string] at h
  have h1 : x.toList.map Char.toNat = y.toList.map Char.toNat := by
    have := congrArg (fun s : Str => s.cps.toList) h
    simpa using this
  have h2 : x.toList = y.toList := by
    have inj : ∀ (l r : List Char), l.map Char.toNat = r.map Char.toNat → l = r := by
      intro l
      induction l with
      | nil => intro r hr; cases r with | nil => rfl | cons _ _ => cases hr
      | cons a l ih =>
        intro r hr
        cases r with
        | nil => cases hr
        | cons b r =>
          simp only [List.map_cons, List.cons.injEq] at hr
          rw [ih r hr.2, Char.toNat_inj.mp hr.1]
    exact inj _ _ h1
  exact String.toList_inj.mp h2
theorem ofString_eq {x y : String} : Str.ofString x = Str.ofString y ↔ x = y := ⟨ofString_inj, fun h => by rw [h]⟩

namespace All2
variable {α β γ : Type} {R S : α → β → Prop} {l : List α} {r : List β}
theorem mono (f : ∀ a b, R a b → S a b) (h : All2 R l r) : All2 S l r := by
  induction h with
  | nil => exact .nil
  | cons h _ ih => exact .cons (f _ _ h) ih
theorem length_eq (h : All2 R l r) : l.length = r.length := by
  induction h with
  | nil => rfl
  | cons _ _ ih => exact congrArg Nat.succ ih
theorem append {l' : List α} {r' : List β} (h : All2 R l r) (h' : All2 R l' r') : All2 R (l ++ l') (r ++ r') := by
  induction h with
  | nil => exact h'
  | cons h _ ih => exact .cons h ih
theorem get (h : All2 R l r) : ∀ (i : Nat) (b : β), r[i]? = some b → ∃ a, l[i]? = some a ∧ R a b := by
  induction h with
  | nil => intro i b e; rw [List.getElem?_nil] at e; cases e
  | cons h _ ih => intro i b e; cases i with
    | zero => cases e; exact ⟨_, rfl, h⟩
    | succ i => exact ih i b e
theorem take (h : All2 R l r) : ∀ (i : Nat), All2 R (l.take i) (r.take i) := by
  induction h with
  | nil => intro i; cases i <;> exact .nil
  | cons h _ ih => intro i; cases i with
    | zero => exact .nil
    | succ i => exact .cons h (ih i)
theorem drop (h : All2 R l r) : ∀ (i : Nat), All2 R (l.drop i) (r.drop i) := by
  induction h with
  | nil => intro i; cases i <;> exact .nil
  | cons h t ih => intro i; cases i with
    | zero => exact .cons h t
    | succ i => exact ih i
theorem set (h : All2 R l r) : ∀ (i : Nat) {a : α} {b : β}, R a b → All2 R (l.set i a) (r.set i b) := by
  induction h with
  | nil => intro i a b _; exact .nil
  | cons h t ih => intro i a b e; cases i with
    | zero => exact .cons e t
    | succ i => exact .cons h (ih i e)
theorem replicate (n : Nat) {a : α} {b : β} (e : R a b) : All2 R (List.replicate n a) (List.replicate n b) := by
  induction n with
  | zero => exact .nil
  | succ n ih => exact .cons e ih
end All2

inductive HK where
  | lst (vs : List MV)
  | ro (vs : List MV)
  | dct (es : List (Int × MV))
  | inst (d : Addr)
  | idict (a : Addr) (fs : List (String × MV))
  | tup (vs : List MV)
  | rng (a b c : Int)
  | exc (c : String)
  | cell (v : Option MV)
  | ns (m : Sto)
  | raw (o : Obj)
  | hid (vs : List MV)

noncomputable def HK.slot : HK → Bool
  | .cell _ | .ns _ | .raw _ | .hid _ => true
  | _ => false
noncomputable def HK.fixed : HK → Bool
  | .ro _ | .tup _ | .rng .. | .exc _ => true
  | _ => false

abbrev Psi := Addr → Option HK
noncomputable def Psi.set (Ψ : Psi) (a : Addr) (k : HK) : Psi := fun b => if b = a then some k else Ψ b

inductive VRel (Ψ : Psi) : Value → MV → Prop
  | none : VRel Ψ .none .none
  | bool {b : Bool} : VRel Ψ (.bool b) (.bool b)
  | int {i : Int} {t : Tok} : VRel Ψ (.int i t) (.int i)
  | str {s : Str} {t : Tok} : VRel Ψ (.str s t) (.str s)
  | ref {a : Addr} : VRel Ψ (.ref a) (.ref a)
  | tup {a : Addr} {vs : List MV} (h : Ψ a = some (.tup vs)) : VRel Ψ (.ref a) (.tup vs)
  | rng {a : Addr} {x y z : Int} (h : Ψ a = some (.rng x y z)) : VRel Ψ (.ref a) (.rng x y z)
  | exc {a : Addr} {c : String} (h : Ψ a = some (.exc c)) : VRel Ψ (.ref a) (.exc c)
theorem vnone {Ψ : Psi} {v : Value} (h : VRel Ψ v .none) : v = .none := by cases h; rfl
theorem vbool {Ψ : Psi} {v : Value} {b : Bool} (h : VRel Ψ v (.bool b)) : v = .bool b := by cases h; rfl
theorem vint {Ψ : Psi} {v : Value} {i : Int} (h : VRel Ψ v (.int i)) : ∃ t, v = .int i t := by cases h; exact ⟨_, rfl⟩
theorem vstr {Ψ : Psi} {v : Value} {x : Str} (h : VRel Ψ v (.str x)) : ∃ t, v = .str x t := by cases h; exact ⟨_, rfl⟩
theorem vref {Ψ : Psi} {v : Value} {a : Addr} (h : VRel Ψ v (.ref a)) : v = .ref a := by cases h; rfl
theorem vtup {Ψ : Psi} {v : Value} {vs : List MV} (h : VRel Ψ v (.tup vs)) : ∃ a, v = .ref a ∧ Ψ a = some (.tup vs) := by cases h; exact ⟨_, rfl, by assumption⟩
theorem vrng {Ψ : Psi} {v : Value} {a b c : Int} (h : VRel Ψ v (.rng a b c)) : ∃ x, v = .ref x ∧ Ψ x = some (.rng a b c) := by cases h; exact ⟨_, rfl, by assumption⟩
theorem vexc {Ψ : Psi} {v : Value} {c : String} (h : VRel Ψ v (.exc c)) : ∃ x, v = .ref x ∧ Ψ x = some (.exc c) := by cases h; exact ⟨_, rfl, by assumption⟩

/-- what never turns stays -/
noncomputable def Fix (Ψ Ψ' : Psi) : Prop := ∀ a k, Ψ a = some k → k.fixed = true → Ψ' a = some k
theorem Fix.refl (Ψ : Psi) : Fix Ψ Ψ := fun _ _ h _ => h
theorem Fix.trans {Ψ Ψ' Ψ'' : Psi} (x : Fix Ψ Ψ') (y : Fix Ψ' Ψ'') : Fix Ψ Ψ'' := fun a k h f => y a k (x a k h f) f
theorem VRel.mono {Ψ Ψ' : Psi} (F : Fix Ψ Ψ') {v : Value} {m : MV} (h : VRel Ψ v m) : VRel Ψ' v m := by
  cases h with
  | tup h => exact .tup (F _ _ h rfl)
  | rng h => exact .rng (F _ _ h rfl)
  | exc h => exact .exc (F _ _ h rfl)
  | _ => constructor

/-- a row of values in an object of the model -/
inductive SeqO (T : String) (Ψ : Psi) (o : Obj) (vs : List MV) : Prop
  | mk (items : Array Value) (n : Nat) (e : o = { cls := .type T, dict := none, data := .seq items n, slots := #[] }) (r : All2 (VRel Ψ) items.toList vs) (hl : vs.length ≤ bigList)
section
variable (prog : Program) (w : World) (ca : String → Addr)
noncomputable def ORel (Ψ : Psi) (o : Obj) : HK → Prop
  | .lst vs => SeqO "list" Ψ o vs
  | .ro vs => ∃ items n, o.cls = .type "list" ∧ o.data = .seq items n ∧ All2 (VRel Ψ) items.toList vs ∧ vs.length ≤ bigList
  | .dct es => ∃ kvs, o.IsDictOf (intKind prog w) kvs ∧ All2 (fun (p : Int × Value) (q : Int × MV) => p.1 = q.1 ∧ VRel Ψ p.2 q.2) kvs es
  | .inst d => o.cls = .ref (ca "Train") ∧ o.dict = some d ∧ o.data = .plain
  | .idict _ fs => o.ExactDict ∧ ∃ ents n, o.data = .dict ents n ∧ (StrKeys ents ∧ ents.size ≤ fs.length) ∧
      (∀ x, fsGet fs x = none → nsFind ents (Str.ofString x) = none) ∧ ∀ x mv, fsGet fs x = some mv → ∃ v, nsFind ents (Str.ofString x) = some v ∧ VRel Ψ v mv
  | .tup vs => SeqO "tuple" Ψ o vs
  | .rng a b c => (∃ t u v, o = { cls := .type "range", dict := none, data := .fields #[.int a t, .int b u, .int c v], slots := #[] }) ∧ smallI a ∧ smallI b ∧ smallI c ∧ 0 < c
  | .exc c => excNames.contains c = true ∧ o.cls = .ref (ca c) ∧ ∃ vs, o.data = .fields vs
  | .cell v => (∃ w, o.data = .cell w) ∧ ∀ mv, v = some mv → ∃ w, o.data = .cell (some w) ∧ VRel Ψ w mv
  | .ns m => ∃ ents n, o.data = .dict ents n ∧ StrKeys ents ∧ ∀ x v, m x = some v → ∃ w, nsFind ents (Str.ofString x) = some w ∧ VRel Ψ w v
  | .raw o' => o = o'
  | .hid vs => SeqO "list" Ψ o vs

variable {prog w ca}
theorem SeqO.mono {T : String} {Ψ Ψ' : Psi} (F : Fix Ψ Ψ') {o : Obj} {vs : List MV} (h : SeqO T Ψ o vs) : SeqO T Ψ' o vs := by
  cases h with | mk items n e r hl => exact ⟨items, n, e, r.mono fun _ _ => VRel.mono F, hl⟩
theorem ORel.mono {Ψ Ψ' : Psi} (F : Fix Ψ Ψ') {o : Obj} {k : HK} (h : ORel prog w ca Ψ o k) : ORel prog w ca Ψ' o k := by
  cases k with
  | lst vs => exact SeqO.mono F h
  | tup vs => exact SeqO.mono F h
  | hid vs => exact SeqO.mono F h
  | ro vs => obtain ⟨items, n, c, c', d, e⟩ := h; exact ⟨items, n, c, c', d.mono fun _ _ => VRel.mono F, e⟩
  | dct es => obtain ⟨kvs, a, d⟩ := h; exact ⟨kvs, a, d.mono fun _ _ x => ⟨x.1, x.2.mono F⟩⟩
  | idict a fs =>
    obtain ⟨a, ents, n, c, d, e, f⟩ := h
    refine ⟨a, ents, n, c, d, e, fun x mv hx => ?_⟩
    obtain ⟨v, h1, h2⟩ := f x mv hx; exact ⟨v, h1, h2.mono F⟩
  | cell v => refine ⟨h.1, fun mv e => ?_⟩; obtain ⟨w, a, b⟩ := h.2 mv e; exact ⟨w, a, b.mono F⟩
  | ns m => obtain ⟨ents, n, c, d, e⟩ := h; refine ⟨ents, n, c, d, fun x v hx => ?_⟩; obtain ⟨w, a, b⟩ := e x v hx; exact ⟨w, a, b.mono F⟩
  | _ => exact h

variable (prog w ca)
noncomputable def Typed (Ψ : Psi) (h : Heap) : Prop := ∀ a k, Ψ a = some k → ∃ o, h.get? a = some o ∧ ORel prog w ca Ψ o k
variable {prog w ca}
theorem Typed.mod {Ψ Ψ' : Psi} {h h' : Heap} (T : Typed prog w ca Ψ h) (P : Addr → Prop) (F : Fix Ψ Ψ')
    (hsame : ∀ a k, Ψ' a = some k → ¬ P a → Ψ a = some k ∧ ∀ o, h.get? a = some o → h'.get? a = some o)
    (hnew : ∀ a k, Ψ' a = some k → P a → ∃ o, h'.get? a = some o ∧ ORel prog w ca Ψ' o k) : Typed prog w ca Ψ' h' := fun a k e => by
  by_cases hp : P a
  · exact hnew a k e hp
  · obtain ⟨e1, e2⟩ := hsame a k e hp
    obtain ⟨o, ho, hr⟩ := T a k e1
    exact ⟨o, e2 o ho, hr.mono F⟩
theorem Typed.keeps {Ψ : Psi} {h h' : Heap} (T : Typed prog w ca Ψ h) (k : ∀ a k, Ψ a = some k → ∀ o, h.get? a = some o → h'.get? a = some o) : Typed prog w ca Ψ h' :=
  T.mod (fun _ => False) (.refl _) (fun a x e _ => ⟨e, k a x e⟩) fun _ _ _ hp => hp.elim
end

theorem Fix.set_new {Ψ : Psi} {a : Addr} (k : HK) (h : Ψ a = none) : Fix Ψ (Ψ.set a k) := fun b x e _ => by
  unfold Psi.set; split
  · rename_i q; subst q; rw [h] at e; cases e
  · exact e
theorem Fix.set_turn {Ψ : Psi} {a : Addr} {k₀ : HK} (k : HK) (h : Ψ a = some k₀) (hf : k₀.fixed = false) : Fix Ψ (Ψ.set a k) := fun b x e f => by
  unfold Psi.set; split
  · rename_i q; subst q; rw [h] at e; cases e; rw [hf] at f; cases f
  · exact e
theorem Psi.set_self (Ψ : Psi) (a : Addr) (k : HK) : Ψ.set a k a = some k := if_pos rfl
theorem Psi.set_ne (Ψ : Psi) {a b : Addr} (k : HK) (h : b ≠ a) : Ψ.set a k b = Ψ b := if_neg h
theorem MH.set_self (H : MH) (a : Addr) (k : MObj) : H.set a k a = some k := if_pos rfl
theorem MH.set_ne (H : MH) {a b : Addr} (k : MObj) (h : b ≠ a) : H.set a k b = H b := if_neg h

/-- what a step may turn of frames, cells and hidden things -/
structure Keep (own : Addr → Prop) (Ψ Ψ' : Psi) : Prop where
  fix : Fix Ψ Ψ'
  slot : ∀ a k, Ψ a = some k → k.slot = true → ¬ own a → Ψ' a = some k
  ns : ∀ a m, Ψ a = some (.ns m) → ∃ m', Ψ' a = some (.ns m')
  cell : ∀ a v, Ψ a = some (.cell v) → ∃ v', Ψ' a = some (.cell v')
noncomputable def none_ : Addr → Prop := fun _ => False
theorem Keep.refl (own : Addr → Prop) (Ψ : Psi) : Keep own Ψ Ψ := ⟨.refl _, fun _ _ h _ _ => h, fun _ m h => ⟨m, h⟩, fun _ v h => ⟨v, h⟩⟩
theorem Keep.trans {own : Addr → Prop} {Ψ Ψ' Ψ'' : Psi} (x : Keep own Ψ Ψ') (y : Keep own Ψ' Ψ'') : Keep own Ψ Ψ'' :=
  ⟨x.fix.trans y.fix, fun a k h f n => y.slot a k (x.slot a k h f n) f n, fun a m h => (x.ns a m h).elim fun m' e => y.ns a m' e, fun a v h => (x.cell a v h).elim fun v' e => y.cell a v' e⟩
theorem Keep.weaken {own own' : Addr → Prop} {Ψ Ψ' : Psi} (x : Keep own Ψ Ψ') (h : ∀ a, own a → own' a) : Keep own' Ψ Ψ' :=
  ⟨x.fix, fun a k e f n => x.slot a k e f fun q => n (h a q), x.ns, x.cell⟩
theorem Keep.of_none {own : Addr → Prop} {Ψ Ψ' : Psi} (x : Keep none_ Ψ Ψ') : Keep own Ψ Ψ' := x.weaken fun _ h => h.elim
theorem nn {α : Type} {x : Option α} {y : α} {p : Prop} (h : x = none) (e : x = some y) : p := by rw [h] at e; cases e
theorem ne_of_none {Ψ : Psi} {a b : Addr} {k : HK} (h : Ψ a = none) (e : Ψ b = some k) : b ≠ a := fun q => nn h (q ▸ e)
/-- what is new does not count as own -/
theorem Keep.drop {own own' : Addr → Prop} {Ψ Ψ' : Psi} (x : Keep own Ψ Ψ') (h : ∀ a, own a → Ψ a = none ∨ own' a) : Keep own' Ψ Ψ' :=
  ⟨x.fix, fun a k e f n => x.slot a k e f fun q => (h a q).elim (fun z => nn z e) n, x.ns, x.cell⟩
theorem Psi.set_up {Ψ : Psi} {a b : Addr} {k k' : HK} (h : Ψ a = none) (e : Ψ b = some k) : Ψ.set a k' b = some k := (Psi.set_ne _ _ (ne_of_none h e)).trans e
theorem Keep.set_new {Ψ : Psi} {a : Addr} (k : HK) (h : Ψ a = none) : Keep none_ Ψ (Ψ.set a k) :=
  ⟨.set_new k h, fun b x e _ _ => Psi.set_up h e, fun b m e => ⟨m, Psi.set_up h e⟩, fun b m e => ⟨m, Psi.set_up h e⟩⟩
noncomputable def HK.data : HK → Bool
  | .lst _ | .dct _ | .inst .. | .idict .. => true
  | _ => false
/-- where two things differ -/
theorem ne_of_kind {Ψ : Psi} {a b : Addr} {k k' : HK} (f : HK → Bool) (h : Ψ a = some k) (e : Ψ b = some k') (n : f k ≠ f k') : b ≠ a := fun q => by
  subst q; rw [h] at e; exact n (congrArg f (Option.some.inj e))
theorem Psi.set_kind {Ψ : Psi} {a b : Addr} {k k' k₁ : HK} (f : HK → Bool) (h : Ψ a = some k) (e : Ψ b = some k') (n : f k ≠ f k') : Ψ.set a k₁ b = some k' := (Psi.set_ne _ _ (ne_of_kind f h e n)).trans e
noncomputable def HK.sort : HK → Nat
  | .lst _ | .dct _ | .inst .. | .idict .. => 0
  | .ns _ => 1
  | .cell _ => 2
  | .raw _ => 3
  | .hid _ => 4
  | _ => 5
theorem sort_data {k : HK} (h : k.data = true) : k.sort = 0 ∧ k.fixed = false := by cases k <;> first | exact ⟨rfl, rfl⟩ | exact absurd h Bool.noConfusion
theorem sort_slot {k : HK} (h : k.slot = true) : k.sort ≠ 0 := by cases k <;> first | exact absurd h Bool.noConfusion | exact Nat.noConfusion
theorem ne_of_sort {Ψ : Psi} {a b : Addr} {k k' : HK} (h : Ψ a = some k) (e : Ψ b = some k') (n : k.sort ≠ k'.sort) : b ≠ a := fun q => by
  subst q; rw [h] at e; exact n (congrArg HK.sort (Option.some.inj e))
theorem Psi.set_sort {Ψ : Psi} {a b : Addr} {k k' k₁ : HK} (h : Ψ a = some k) (e : Ψ b = some k') (n : k.sort ≠ k'.sort) : Ψ.set a k₁ b = some k' := (Psi.set_ne _ _ (ne_of_sort h e n)).trans e
theorem Keep.set_data {Ψ : Psi} {a : Addr} {k₀ : HK} (k : HK) (h : Ψ a = some k₀) (hd : k₀.data = true) : Keep none_ Ψ (Ψ.set a k) :=
  have z := sort_data hd
  ⟨.set_turn k h z.2, fun b x e f _ => Psi.set_sort h e (z.1.symm ▸ (sort_slot f).symm), fun b m e => ⟨m, Psi.set_sort h e (z.1.symm ▸ Nat.noConfusion)⟩, fun b m e => ⟨m, Psi.set_sort h e (z.1.symm ▸ Nat.noConfusion)⟩⟩
/-- a slot of one's own is turned -/
theorem Keep.set_own {Ψ : Psi} {a : Addr} {k₀ k : HK} {own : Addr → Prop} (h : Ψ a = some k₀) (hf : k₀.fixed = false) (ho : own a) (hns : ∀ m, k₀ = .ns m → ∃ m', k = .ns m') (hce : ∀ m, k₀ = .cell m → ∃ m', k = .cell m') : Keep own Ψ (Ψ.set a k) := by
  refine ⟨.set_turn k h hf, fun b x e f n => (Psi.set_ne _ _ fun (q : b = a) => n (q.symm ▸ ho)).trans e, fun b m e => ?_, fun b m e => ?_⟩
  · by_cases q : b = a
    · subst q; obtain ⟨m', rfl⟩ := hns m (Option.some.inj (h.symm.trans e)); exact ⟨m', Psi.set_self _ _ _⟩
    · exact ⟨m, (Psi.set_ne _ _ q).trans e⟩
  · by_cases q : b = a
    · subst q; obtain ⟨m', rfl⟩ := hce m (Option.some.inj (h.symm.trans e)); exact ⟨m', Psi.set_self _ _ _⟩
    · exact ⟨m, (Psi.set_ne _ _ q).trans e⟩

noncomputable def HRel (Ψ : Psi) (a : Addr) : MObj → Prop
  | .lst vs => Ψ a = some (.lst vs)
  | .ro vs => Ψ a = some (.ro vs)
  | .dct es => Ψ a = some (.dct es)
  | .inst fs => ∃ d, Ψ a = some (.inst d) ∧ Ψ d = some (.idict a fs)

structure EnvRel (Ψ : Psi) (env : Env) (ρ : Sto) : Prop where
  kind : env.scope.kind = .function
  glob : env.globals = mainGlobals
  blt : env.builtins = builtinsNs
  loc : ∃ m, Ψ env.locals = some (.ns m) ∧ ∀ x v, x ≠ ".0" → env.kindOf (Str.ofString x) = some .local → ρ x = some v → m x = some v
  val : ∀ x v, (env.kindOf (Str.ofString x) = some .cell ∨ env.kindOf (Str.ofString x) = some .free) → ρ x = some v →
    ∃ c, env.cells.lookup (Str.ofString x) = some c ∧ Ψ c = some (.cell (some v))
  cel : ∀ n, env.kindOf n = some .cell → ∃ c w, env.cells.lookup n = some c ∧ Ψ c = some (.cell w)
  apart : env.cells.Pairwise fun x y => x.2 ≠ y.2

noncomputable def ownOf (env : Env) (a : Addr) : Prop := a = env.locals ∨ ∃ n, env.kindOf n = some .cell ∧ env.cells.lookup n = some a

theorem EnvRel.keep {Ψ Ψ' : Psi} {env : Env} {ρ : Sto} (E : EnvRel Ψ env ρ) (K : Keep none_ Ψ Ψ') : EnvRel Ψ' env ρ where
  kind := E.kind
  glob := E.glob
  blt := E.blt
  loc := E.loc.imp fun _ x => ⟨K.slot _ _ x.1 rfl id, x.2⟩
  val x v hk hv := (E.val x v hk hv).imp fun _ y => ⟨y.1, K.slot _ _ y.2 rfl id⟩
  cel n hn := (E.cel n hn).imp fun _ y => y.imp fun _ z => ⟨z.1, K.slot _ _ z.2 rfl id⟩
  apart := E.apart

end Mine
end
section
set_option autoImplicit false
set_option linter.unusedVariables false
set_option genInjectivity false
set_option genSizeOf false
namespace Mine
open PySem

structure Amb where
  prog : Program
  w : World
  h₀ : Heap
  ca : String → Addr
  g₀ : Array GenState
  os₀ : OsState
  big : ∃ a o, sysModules < a ∧ h₀.get? a = some o

abbrev Amb.M (W : Amb) : Model := model W.prog W.w
abbrev Amb.O (W : Amb) (Ψ : Psi) (o : Obj) (k : HK) : Prop := ORel W.prog W.w W.ca Ψ o k

structure St (W : Amb) (fs : List Env) (Ψ : Psi) (H : MH) (s : Shared) : Prop where
  typed : Typed W.prog W.w W.ca Ψ s.heap
  fresh : ∀ a k, Ψ a = some k → (∀ vs, k ≠ .ro vs) → W.h₀.get? a = none
  heap : ∀ a o, H a = some o → HRel Ψ a o
  base : W.h₀.StaysIn s.heap
  frames : ∀ e ∈ fs, e.scope.kind ≠ .module ∧ ∃ L m, e.frame = some L ∧ Ψ L = some (.ns m)
  gens : s.gens = W.g₀
  os : s.os = W.os₀
  dsys : ∀ a es, Ψ a = some (.dct es) → (a == sysModules) = false

section
variable {W : Amb} {fs : List Env} {Ψ Ψ' : Psi} {H : MH} {s s' : Shared}

theorem St.none_at (S : St W fs Ψ H s) : Ψ s.heap.objs.size = none := by
  cases q : Ψ s.heap.objs.size with
  | none => rfl
  | some k => obtain ⟨o, ho, _⟩ := S.typed _ _ q; exact absurd (Heap.lt_size ho) (Nat.lt_irrefl _)
theorem HRel.some {a : Addr} {o : MObj} (h : HRel Ψ a o) : ∃ k, Ψ a = some k := by
  cases o with
  | inst fs => obtain ⟨d, h, _⟩ := h; exact ⟨_, h⟩
  | _ => exact ⟨_, h⟩
theorem St.hNone (S : St W fs Ψ H s) {a : Addr} (h : Ψ a = none) : H a = none := by
  cases q : H a with
  | none => rfl
  | some o => exact (S.heap a o q).some.elim fun _ e => nn h e
theorem St.free_at (S : St W fs Ψ H s) : H s.heap.objs.size = none := S.hNone S.none_at
theorem St.base_at (S : St W fs Ψ H s) : W.h₀.get? s.heap.objs.size = none := S.base.fresh

theorem St.notSysAt (S : St W fs Ψ H s) : (s.heap.objs.size == sysModules) = false := by
  obtain ⟨a, o, h1, h2⟩ := W.big
  exact beq_eq_false_iff_ne.mpr (Nat.ne_of_gt (Nat.lt_trans h1 (Heap.lt_size (S.base a o h2))))
theorem HRel.keepN {a : Addr} {o : MObj} (h : HRel Ψ a o) (k : ∀ b x, Ψ b = Option.some x → Ψ' b = Option.some x) : HRel Ψ' a o := by
  cases o with
  | inst fs => obtain ⟨d, h1, h2⟩ := h; exact ⟨d, k _ _ h1, k _ _ h2⟩
  | _ => exact k _ _ h

theorem St.toks (S : St W fs Ψ H s) (n : Nat) : St W fs Ψ H { s with toks := n } := ⟨S.typed, S.fresh, S.heap, S.base, S.frames, S.gens, S.os, S.dsys⟩
/-- a heap that keeps all that is known -/
theorem St.of_keeps (S : St W fs Ψ H s) (hk : ∀ a k, Ψ a = some k → ∀ o, s.heap.get? a = some o → s'.heap.get? a = some o) (hb : W.h₀.StaysIn s'.heap) (hg : s'.gens = s.gens) (ho : s'.os = s.os) : St W fs Ψ H s' :=
  ⟨S.typed.keeps hk, S.fresh, S.heap, hb, S.frames, hg.trans S.gens, ho.trans S.os, S.dsys⟩
theorem St.of_all (S : St W fs Ψ H s) (hk : ∀ a o, s.heap.get? a = some o → s'.heap.get? a = some o) (hg : s'.gens = s.gens) (ho : s'.os = s.os) : St W fs Ψ H s' :=
  S.of_keeps (fun a _ _ o => hk a o) (fun b o e => hk b o (S.base b o e)) hg ho
theorem ne_none {α : Type} {f : Addr → Option α} {a b : Addr} {x : α} (h : f a = none) (e : f b = some x) : b ≠ a := fun q => nn h (q ▸ e)
theorem St.of_extBut (S : St W fs Ψ H s) {a : Addr} (hn : Ψ a = none) (h0 : W.h₀.get? a = none) (hk : Heap.ExtBut a s.heap s'.heap) (hg : s'.gens = s.gens) (ho : s'.os = s.os) : St W fs Ψ H s' :=
  S.of_keeps (fun b k e o => hk b o (ne_none hn e)) (fun b o e => hk b o (ne_none (f := W.h₀.get?) h0 e) (S.base b o e)) hg ho
theorem Psi.set_inv {Ψ : Psi} {a b : Addr} {k x : HK} (e : Ψ.set a k b = some x) : (b = a ∧ x = k) ∨ (b ≠ a ∧ Ψ b = some x) := by
  by_cases q : b = a
  · subst q; exact .inl ⟨rfl, (Option.some.inj ((Psi.set_self _ _ _).symm.trans e)).symm⟩
  · exact .inr ⟨q, (Psi.set_ne _ _ q).symm.trans e⟩
/-- something new at a free place -/
theorem St.placed (S : St W fs Ψ H s) {a : Addr} {o : Obj} {k : HK} (hk : ∀ b o, s.heap.get? b = some o → s'.heap.get? b = some o) (ha : s.heap.get? a = none) (hsys : (a == sysModules) = false) (ho : s'.heap.get? a = some o)
    (hr : W.O (Ψ.set a k) o k) (hg : s'.gens = s.gens) (hos : s'.os = s.os) : Ψ a = none ∧ St W fs (Ψ.set a k) H s' := by
  have hn : Ψ a = none := by
    cases q : Ψ a with
    | none => rfl
    | some k => exact (S.typed _ _ q).elim fun o ho => nn ha ho.1
  have hb : W.h₀.get? a = none := by
    cases q : W.h₀.get? a with
    | none => rfl
    | some o => exact nn ha (S.base a o q)
  refine ⟨hn, ⟨fun b x e => ?_, fun b x e hx => ?_, fun b x e => (S.heap b x e).keepN fun _ _ => Psi.set_up hn, fun b o e => hk b o (S.base b o e), fun e he => ?_, hg.trans S.gens, hos.trans S.os, fun b es e => ?_⟩⟩
  · rcases Psi.set_inv e with ⟨rfl, rfl⟩ | ⟨_, e⟩
    · exact ⟨o, ho, hr⟩
    · exact (S.typed b x e).elim fun o z => ⟨o, hk _ _ z.1, z.2.mono (.set_new k hn)⟩
  · rcases Psi.set_inv e with ⟨rfl, _⟩ | ⟨_, e⟩
    · exact hb
    · exact S.fresh b x e hx
  · obtain ⟨p, L, m, b, c⟩ := S.frames e he; exact ⟨p, L, m, b, Psi.set_up hn c⟩
  · rcases Psi.set_inv e with ⟨rfl, _⟩ | ⟨_, e⟩
    · exact hsys
    · exact S.dsys b es e
theorem St.push (S : St W fs Ψ H s) {o : Obj} {k : HK} (hf : o.isFreed = false) (hr : W.O (Ψ.set s.heap.objs.size k) o k)
    (hh : s'.heap = s.heap.push o) (hg : s'.gens = s.gens) (ho : s'.os = s.os) : St W fs (Ψ.set s.heap.objs.size k) H s' :=
  (S.placed (fun b o e => hh ▸ Heap.get?_push_of_some _ e) (Heap.get?_none_of_le (Nat.le_refl _)) S.notSysAt (hh ▸ Heap.get?_push_size _ hf) hr hg ho).2
theorem St.pushKeep (S : St W fs Ψ H s) (k : HK) : Keep none_ Ψ (Ψ.set s.heap.objs.size k) := .set_new k S.none_at

/-- something becomes visible -/
theorem St.shown (S : St W fs Ψ H s) {c : Addr} {o : MObj} (h : HRel Ψ c o) : St W fs Ψ (H.set c o) s :=
  ⟨S.typed, S.fresh, fun a x e => by
    by_cases q : a = c
    · subst q; exact Option.some.inj ((MH.set_self _ _ _).symm.trans e) ▸ h
    · exact S.heap a x ((MH.set_ne _ _ q).symm.trans e), S.base, S.frames, S.gens, S.os, S.dsys⟩

/-- one object turned -/
theorem St.turned (S : St W fs Ψ H s) {a : Addr} {o' : Obj} {k₀ k : HK} {H' : MH} (e₀ : Ψ a = some k₀) (hfix : k₀.fixed = false) (hns : ∀ m, k₀ = .ns m → ∃ m', k = .ns m')
    (hr : W.O (Ψ.set a k) o' k) (hs : Heap.SameBut a s.heap s'.heap) (ho' : s'.heap.get? a = some o') (hH : ∀ b x, H' b = some x → HRel (Ψ.set a k) b x)
    (hg : s'.gens = s.gens) (ho : s'.os = s.os) (hdc : ∀ es, k = .dct es → (a == sysModules) = false := by intro _ q; cases q) : St W fs (Ψ.set a k) H' s' := by
  have h0 := S.fresh a k₀ e₀ fun vs q => by subst q; exact Bool.noConfusion hfix
  refine ⟨fun b x e => ?_, fun b x e hx => ?_, hH, fun b o e => (hs.2 b (ne_none (f := W.h₀.get?) h0 e)).trans (S.base b o e), fun e he => ?_, hg.trans S.gens, ho.trans S.os, fun b es e => ?_⟩
  · rcases Psi.set_inv e with ⟨rfl, rfl⟩ | ⟨q, e⟩
    · exact ⟨o', ho', hr⟩
    · exact (S.typed b x e).elim fun o z => ⟨o, (hs.2 b q).trans z.1, z.2.mono (.set_turn k e₀ hfix)⟩
  · rcases Psi.set_inv e with ⟨rfl, _⟩ | ⟨_, e⟩
    · exact h0
    · exact S.fresh b x e hx
  · obtain ⟨p, L, m, q, r⟩ := S.frames e he
    refine ⟨p, L, ?_⟩
    by_cases hL : L = a
    · subst hL
      obtain ⟨m', hm'⟩ := hns m (Option.some.inj (e₀.symm.trans r))
      exact ⟨m', q, hm' ▸ Psi.set_self _ _ _⟩
    · exact ⟨m, q, (Psi.set_ne _ _ hL).trans r⟩
  · rcases Psi.set_inv e with ⟨rfl, q⟩ | ⟨_, e⟩
    · exact hdc es q.symm
    · exact S.dsys b es e
end

/-! what a step leaves -/
inductive PostE (W : Amb) (fs : List Env) (Ψ : Psi) (Q : MV → MH → Prop) (v : Value) (s' : Shared) : Prop
  | mk (Ψ' : Psi) (H' : MH) (mv : MV) (S : St W fs Ψ' H' s') (K : Keep none_ Ψ Ψ') (hv : VRel Ψ' v mv) (q : Q mv H')
inductive PostB (W : Amb) (fs : List Env) (Ψ : Psi) (Q : Bool → MH → Prop) (v : Bool) (s' : Shared) : Prop
  | mk (Ψ' : Psi) (H' : MH) (S : St W fs Ψ' H' s') (K : Keep none_ Ψ Ψ') (q : Q v H')
inductive PostL (W : Amb) (fs : List Env) (Ψ : Psi) (Q : List MV → MH → Prop) (vs : List Value) (s' : Shared) : Prop
  | mk (Ψ' : Psi) (H' : MH) (mvs : List MV) (S : St W fs Ψ' H' s') (K : Keep none_ Ψ Ψ') (hv : All2 (VRel Ψ') vs mvs) (q : Q mvs H')

theorem PostE.from {W : Amb} {fs : List Env} {Ψ Ψ₁ : Psi} {Q : MV → MH → Prop} {v : Value} {s' : Shared} (K : Keep none_ Ψ Ψ₁) (x : PostE W fs Ψ₁ Q v s') : PostE W fs Ψ Q v s' := by
  cases x with | mk Ψ' H' mv a b c d => exact ⟨Ψ', H', mv, a, K.trans b, c, d⟩

/-! exceptions in flight -/
noncomputable def ExcAt (B h : Heap) (e : Addr) (cls : Value) (fs : List Env) : Prop :=
  (∃ a0, h.TracedAtW B e cls a0 .none) ∨
  (∃ a0 L env outer, fs = env :: outer ∧ env.frame = some L ∧ h.TracedAtW B e cls a0 (rawInt L)) ∨
  (∃ oe vs a0, h.get? e = some oe ∧ oe.cls = cls ∧ oe.data = .fields vs ∧ vs[0]? = some a0 ∧ vs[1]? = some .none)

noncomputable def Fly (W : Amb) (fs : List Env) (Ψ : Psi) (e : Addr) (c : String) (h : Heap) : Prop :=
  excNames.contains c = true ∧ ∃ B : Heap, W.h₀.StaysIn B ∧ B.StaysIn h ∧ B.get? e = none ∧ (∀ a k, Ψ a = some k → (∀ m, k ≠ .ns m) → ∃ o, B.get? a = some o) ∧ h.FunFrames B fs ∧ ExcAt B h e (.ref (W.ca c)) fs

inductive PostX (W : Amb) (fs : List Env) (Ψ : Psi) (X : String → MH → Prop) (e : Value) (s' : Shared) : Prop
  | mk (ea : Addr) (c : String) (Ψ' : Psi) (H' : MH) (he : e = .ref ea) (F : Fly W fs Ψ' ea c s'.heap) (S : St W fs Ψ' H' s') (K : Keep none_ Ψ Ψ') (q : X c H')
theorem PostX.from {W : Amb} {fs : List Env} {Ψ Ψ₁ : Psi} {X : String → MH → Prop} {e : Value} {s' : Shared} (K : Keep none_ Ψ Ψ₁) (x : PostX W fs Ψ₁ X e s') : PostX W fs Ψ X e s' := by
  cases x with | mk ea c Ψ' H' a b d k r => exact ⟨ea, c, Ψ', H', a, b, d, K.trans k, r⟩

end Mine
end
section
set_option autoImplicit false
set_option linter.unusedVariables false
namespace Mine
open PySem

noncomputable def opOf : BOp → Operator
  | .add => .Add | .sub => .Sub | .mul => .Mult | .fdiv => .FloorDiv | .mod => .Mod | .pow => .Pow

section
variable {W : Amb} {fs : List Env} {Ψ : Psi} {H : MH} {s : Shared} {A : Around} {E : Value → Shared → Prop} {Q : MV → MH → Prop}

theorem PostE.now {v : Value} {mv : MV} (S : St W fs Ψ H s) (hv : VRel Ψ v mv) (h : Q mv H) : PostE W fs Ψ Q v s := ⟨Ψ, H, mv, S, .refl _ _, hv, h⟩
theorem PostE.int {i : Int} {t n : Nat} (S : St W fs Ψ H s) (h : Q (.int i) H) : PostE W fs Ψ Q (.int i t) { s with toks := n } := .now (S.toks n) .int h

/-- a list of the ledger, as the library names it -/
inductive ListO (Ψ : Psi) (h : Heap) (a : Addr) (vs : List MV) : Prop
  | mk (items : Array Value) (n : Nat) (l : IsL h a items n) (r : All2 (VRel Ψ) items.toList vs) (z : items.size = vs.length) (b : vs.length ≤ bigList)
theorem all2_size {items : Array Value} {vs : List MV} (r : All2 (VRel Ψ) items.toList vs) : items.size = vs.length := (Array.length_toList ..).symm.trans r.length_eq
theorem St.lst (S : St W fs Ψ H s) {a : Addr} {vs : List MV} (h : H a = some (.lst vs)) : ListO Ψ s.heap a vs := by
  obtain ⟨o, ho, items, n, rfl, r, b⟩ := S.typed _ _ (S.heap a _ h)
  exact ⟨items, n, ho, r, all2_size r, b⟩
theorem IsL.isList {h : Heap} {a : Addr} {items : Array Value} {n : Nat} (x : IsL h a items n) : h.IsList a items := ⟨_, x, rfl, n, rfl⟩
inductive ListAt (Ψ : Psi) (h : Heap) (a : Addr) (vs : List MV) : Prop
  | mk (items : Array Value) (l : h.IsList a items) (r : All2 (VRel Ψ) items.toList vs) (z : items.size = vs.length) (b : vs.length ≤ bigList)
theorem St.lstAt (S : St W fs Ψ H s) {a : Addr} {vs : List MV} (h : LstAt H a vs) : ListAt Ψ s.heap a vs := by
  cases h with
  | inl e => obtain ⟨items, n, l, r, z, b⟩ := S.lst e; exact ⟨items, IsL.isList l, r, z, b⟩
  | inr e =>
    obtain ⟨o, ho, items, n, hc, hd, r, b⟩ := S.typed _ _ (S.heap a _ e)
    exact ⟨items, ⟨o, ho, hc, n, hd⟩, r, all2_size r, b⟩

/-- a new list -/
theorem PostE.placed {a : Addr} {items : Array Value} {n : Nat} {vs : List MV} {s' : Shared} (S : St W fs Ψ H s) (hk : ∀ b o, s.heap.get? b = some o → s'.heap.get? b = some o) (ha : s.heap.get? a = none) (hsys : (a == sysModules) = false)
    (hl : IsL s'.heap a items n) (hv : All2 (VRel Ψ) items.toList vs) (hb : vs.length ≤ bigList) (hg : s'.gens = s.gens) (hos : s'.os = s.os) (h : New H Q vs) : PostE W fs Ψ Q (.ref a) s' := by
  have F : ∀ {k : HK}, Ψ a = none → Fix Ψ (Ψ.set a k) := fun hn => .set_new _ hn
  have hn : Ψ a = none := by
    cases q : Ψ a with
    | none => rfl
    | some k => exact (S.typed _ _ q).elim fun o ho => nn ha ho.1
  have S' := (S.placed (s' := s') (k := .lst vs) hk ha hsys hl ⟨items, n, rfl, hv.mono fun _ _ => VRel.mono (.set_new _ hn), hb⟩ hg hos).2
  exact ⟨_, _, .ref a, S'.shown (o := .lst vs) (Psi.set_self _ _ _), .set_new _ hn, .ref, h _ (S.hNone hn)⟩
theorem PostE.newList {items : Array Value} {vs : List MV} (S : St W fs Ψ H s) (hv : All2 (VRel Ψ) items.toList vs) (hb : vs.length ≤ bigList) (h : New H Q vs) :
    PostE W fs Ψ Q (.ref s.heap.objs.size) { s with heap := s.heap.push { cls := .type "list", data := .seq items } } :=
  .placed (n := 0) S (fun _ _ => Heap.get?_push_of_some _) (Heap.get?_none_of_le (Nat.le_refl _)) S.notSysAt (Heap.get?_push_size _ rfl) hv hb rfl rfl h
theorem intBits_le {a : Int} {k : Nat} (h : a.natAbs ≤ 2 ^ k) : Builtin.Int.intBits a ≤ k + 1 := by
  unfold Builtin.Int.intBits
  split
  · omega
  · rename_i hz
    have hne : a.natAbs ≠ 0 := by intro q; apply hz; simp_all
    have : Nat.log2 a.natAbs < k + 1 := (Nat.log2_lt hne).mpr (Nat.lt_of_le_of_lt h (Nat.pow_lt_pow_right (by decide) (Nat.lt_succ_self k)))
    omega

theorem foldl_rep (v : Value) : ∀ (n : Nat) (acc : Array Value), (List.foldl (fun x1 x2 => x1 ++ x2) acc (List.replicate n #[v])).toList = acc.toList ++ List.replicate n v
  | 0, acc => by simp
  | n + 1, acc => by rw [List.replicate_succ, List.foldl_cons, foldl_rep v n, List.replicate_succ]; simp

theorem big_le {n : Nat} (h : n ≤ bigList) : n ≤ sizeLine := Nat.le_trans h (by decide)
theorem op_bin {op : BOp} {a b : Value} {ma mb : MV} (S : St W fs Ψ H s) (ha : VRel Ψ a ma) (hb : VRel Ψ b mb) (h : BinR H Q op ma mb) :
    wpAny W.M A (binaryOp (opOf op) a b) (PostE W fs Ψ Q) E s := by
  have ii : ∀ {x y : Int} {op : Operator}, VRel Ψ a (.int x) → VRel Ψ b (.int y) → (∀ t u, wpAny W.M A (binaryOp op (.int x t) (.int y u)) (PostE W fs Ψ Q) E s) → wpAny W.M A (binaryOp op a b) (PostE W fs Ψ Q) E s := by
    intro x y op ha hb h
    obtain ⟨t, rfl⟩ := vint ha
    obtain ⟨u, rfl⟩ := vint hb
    exact h t u
  cases h with
  | add q => exact ii ha hb fun _ _ => P.add_int (.int S q)
  | sub q => exact ii ha hb fun _ _ => P.sub_int (.int S q)
  | mul h q =>
    refine ii ha hb fun _ _ => P.mul_int (.int S q) ?_
    rcases h with h | h
    · exact .of_left (Nat.le_trans (intBits_le (k := 63) h) (Nat.le_refl _))
    · exact .of_right (Nat.le_trans (intBits_le (k := 63) h) (Nat.le_refl _))
  | fdiv h h2 q => exact ii ha hb fun _ _ => PyProof.Rows.floordiv_int h (.int S q) (.inl (PyProof.noPylong_small h2))
  | mod h q => exact ii ha hb fun _ _ => PyProof.Rows.mod_int h (.int S q)
  | @pow x y h0 h1 h2 q =>
    refine ii ha hb fun _ _ => PyProof.Rows.pow_int h0 ?_ (.int S q)
    have h3 : (Builtin.Int.intBits x : Int) ≤ 5 := Int.ofNat_le.mpr (intBits_le (a := x) (k := 4) (Nat.le_trans h2 (by decide)))
    exact Int.le_trans (Int.mul_le_mul h3 h1 h0 (by decide)) (by decide)
  | app hx hy hl q =>
    obtain rfl := vref ha
    obtain rfl := vref hb
    obtain ⟨i1, n1, l1, r1, z1, _⟩ := S.lst hx
    obtain ⟨i2, n2, l2, r2, z2, _⟩ := S.lst hy
    exact P.add_list l1 l2 (.newList S (by rw [Array.toList_append]; exact r1.append r2) (by rw [List.length_append]; exact hl) q) (by rw [z1, z2]; exact big_le hl)
  | @rep x k v hx h0 h1 q =>
    obtain rfl := vref ha
    obtain ⟨t, rfl⟩ := vint hb
    obtain ⟨i1, n1, l1, r1, z1, _⟩ := S.lst hx
    have kb : k.toNat ≤ bigList := Int.toNat_le.mpr h1
    have hk : i1.size * k.toNat ≤ 2 ^ 24 := by rw [z1, List.length_cons, List.length_nil, Nat.zero_add, Nat.one_mul]; exact Nat.le_trans kb (by decide)
    refine wpAny_binaryOp_repeat_ref (T := "list") (U := "int") (by decide) ⟨_, l1, rfl⟩ (fun s' => typeIs_int s' k _) noFill_list_mul F.fills_int_mul F.slot_int_rmul repeat_list F.slot_int_index.lookup
      (call_meets F.slot_int_rmul (typeIs_int s k _) F.entry_int_rmul (F.args_int_rmul_2 _ _) (int___rmul___int_list k _ x i1 n1)
        ⟨l1, rfl, ⟨_, l1, rfl⟩, call_meets F.slot_list_mul ⟨_, l1, rfl⟩ F.entry_list_mul (F.args_list_mul_2 _ _)
          (AutoListH.list___mul___list_int_3 x i1 n1 k _ (by simp [Builtin.List.listFitsIndex]; unfold bigList at h1; omega) (by omega) (by simp [Builtin.List.listTooLong, sizeLine]; omega))
          ⟨l1, ?_⟩⟩)
    refine .newList S ?_ (by rw [List.length_replicate]; exact kb) q
    obtain ⟨il⟩ := i1
    cases r1 with
    | cons hv t =>
      cases t
      rw [if_neg (by simp)]
      rw [foldl_rep]
      exact All2.replicate _ hv

/-! comparisons -/
noncomputable def copOf : COp → CmpOp
  | .eq => .Eq | .ne => .NotEq | .lt => .Lt | .le => .LtE | .gt => .Gt | .ge => .GtE | .isin => .In | .notin => .NotIn | .is_ => .Is | .isnot => .IsNot

/-- the reading of plain data -/
inductive Rd (h : Heap) (n : Nat) (v : Value) (d : PyData) : Prop
  | mk (as : List Addr) (r : Reads h v d as) (c : d.canLay0 = true) (p : d.depth ≤ n)
inductive RdAll (h : Heap) (n : Nat) (v : List Value) (d : List PyData) : Prop
  | mk (as : List Addr) (r : ReadsAll h v d as) (c : PyData.canLayAll0 d = true) (p : PyData.depthAll d ≤ n)
theorem readsAll_of {n : Nat} (ih : ∀ v mv d, VRel Ψ v mv → DR H n mv d → Rd s.heap n v d) {vs : List Value} {mvs : List MV} (h : All2 (VRel Ψ) vs mvs) : ∀ {ds : List PyData}, All2 (DR H n) mvs ds → RdAll s.heap n vs ds := by
  induction h with
  | nil => intro ds h; cases h; exact ⟨[], .nil, rfl, Nat.zero_le _⟩
  | cons hv _ IH =>
    intro ds h
    cases h with
    | cons h1 t =>
      obtain ⟨as, r, c, p⟩ := ih _ _ _ hv h1
      obtain ⟨bs, rs, c', p'⟩ := IH t
      exact ⟨_, .cons r rs, by unfold PyData.canLayAll0; rw [c, c']; rfl, Nat.max_le.mpr ⟨p, p'⟩⟩
theorem reads_of (S : St W fs Ψ H s) : ∀ (n : Nat) (v : Value) (mv : MV) (d : PyData), VRel Ψ v mv → DR H n mv d → Rd s.heap n v d := by
  intro n
  induction n with
  | zero => intro _ _ _ _ h; exact h.elim
  | succ n ih =>
    intro v mv d hv h
    cases d with
    | none => obtain rfl : mv = .none := h; obtain rfl := vnone hv; exact ⟨_, .none, rfl, Nat.zero_le _⟩
    | bool b => obtain rfl : mv = .bool b := h; obtain rfl := vbool hv; exact ⟨_, .bool _, rfl, Nat.zero_le _⟩
    | int i => obtain rfl : mv = .int i := h; obtain ⟨t, rfl⟩ := vint hv; exact ⟨_, .int _ _, rfl, Nat.zero_le _⟩
    | str x => obtain ⟨rfl, hs⟩ : mv = .str x ∧ _ := h; obtain ⟨t, rfl⟩ := vstr hv; exact ⟨_, .str _ _, hs, Nat.zero_le _⟩
    | list ds =>
      obtain ⟨a, vs, rfl, hl, hds⟩ : ∃ a vs, mv = .ref a ∧ LstAt H a vs ∧ All2 (DR H n) vs ds := h
      obtain rfl := vref hv
      obtain ⟨items, ⟨ol, l1, hc, k, hdt⟩, r1, _, _⟩ := S.lstAt hl
      obtain ⟨as, ra, c, p⟩ := readsAll_of ih r1 hds
      exact ⟨_, .list l1 hc hdt ra, c, Nat.succ_le_succ p⟩
    | tuple ds =>
      obtain ⟨vs, rfl, hds⟩ : ∃ vs, mv = .tup vs ∧ All2 (DR H n) vs ds := h
      obtain ⟨a, rfl, ha⟩ := vtup hv
      obtain ⟨o, ho, items, k, rfl, r1, _⟩ := S.typed _ _ ha
      obtain ⟨as, ra, c, p⟩ := readsAll_of ih r1 hds
      exact ⟨_, .tuple ho rfl rfl ra, c, Nat.succ_le_succ p⟩
    | _ => exact h.elim
theorem shaped_of {d : PyData} (c : d.canLay0 = true) (p : d.depth ≤ 8) : SeqAt.shaped d = true := by
  unfold SeqAt.shaped; rw [c, Bool.true_and]; exact decide_eq_true (Nat.le_trans p (by decide))
end
end Mine
end
section
set_option autoImplicit false
set_option linter.unusedVariables false
namespace Mine
open PySem

section
variable {W : Amb} {fs : List Env} {Ψ : Psi} {H : MH} {s : Shared} {A : Around} {E : Value → Shared → Prop} {Q : MV → MH → Prop}

/-- entries of a dict -/
abbrev ERel (Ψ : Psi) (p : Int × Value) (q : Int × MV) : Prop := p.1 = q.1 ∧ VRel Ψ p.2 q.2
theorem valueAt_ne {x k : Int} {v : Value} {ents : List (Int × Value)} (q : ¬ k = x) : valueAt ((x, v) :: ents) k = valueAt ents k := by
  unfold valueAt
  rw [List.find?_cons_of_neg (by simpa using fun e : x = k => q e.symm)]
theorem valueAt_dct (k : Int) {kvs : List (Int × Value)} {es : List (Int × MV)} (h : All2 (ERel Ψ) kvs es) : (valueAt kvs k = none ∧ dGet es k = none) ∨ ∃ v mv, valueAt kvs k = some v ∧ dGet es k = some mv ∧ VRel Ψ v mv := by
  induction h with
  | nil => exact .inl ⟨rfl, rfl⟩
  | @cons p q l r e _ ih =>
    obtain ⟨x, v⟩ := p
    obtain ⟨y, u⟩ := q
    obtain ⟨e1, e2⟩ := e
    obtain rfl : x = y := e1
    by_cases q : k = x
    · subst q; exact .inr ⟨v, u, by simp [valueAt], if_pos rfl, e2⟩
    · have e3 : dGet ((x, u) :: r) k = dGet r k := if_neg q
      rw [valueAt_ne q, e3]; exact ih
inductive DctAt (W : Amb) (Ψ : Psi) (h : Heap) (a : Addr) (es : List (Int × MV)) : Prop
  | mk (kvs : List (Int × Value)) (d : h.DictOf (intKind W.prog W.w) a kvs) (r : All2 (ERel Ψ) kvs es) (ns : (a == sysModules) = false)
theorem St.dct (S : St W fs Ψ H s) {a : Addr} {es : List (Int × MV)} (h : H a = some (.dct es)) : DctAt W Ψ s.heap a es := by
  have e := S.heap a _ h
  obtain ⟨o, ho, kvs, hd, r⟩ := S.typed _ _ e
  exact ⟨kvs, Heap.dictOf_iff.mpr ⟨o, ho, hd⟩, r, S.dsys _ _ e⟩
theorem dct_some {kvs : List (Int × Value)} {es : List (Int × MV)} (r : All2 (ERel Ψ) kvs es) (k : Int) : (dGet es k).isSome = (valueAt kvs k).isSome := by
  rcases valueAt_dct k r with ⟨h1, h2⟩ | ⟨v, mv, h1, h2, _⟩ <;> rw [h1, h2] <;> rfl
theorem intKey {k : Int} {t : Tok} : (intKind W.prog W.w).is k (.int k t) = true := by simp [intKind, Value.isInt]
theorem intsAre_of {vs : List Value} {is : List Int} (h : All2 (VRel Ψ) vs (is.map .int)) : PyProof.Rows.IntsAre vs is := by
  induction is generalizing vs with
  | nil => cases h; exact .nil
  | cons i is ih => cases h with | cons hv t => obtain ⟨t', rfl⟩ := vint hv; exact .cons _ _ (ih t)
theorem of_intsAre {vs : List Value} {is : List Int} (h : PyProof.Rows.IntsAre vs is) : All2 (VRel Ψ) vs (is.map .int) := by
  induction h with
  | nil => exact .nil
  | cons n t _ ih => exact .cons .int ih
theorem any_mem {x : Int} {is : List Int} : is.any (· == x) = decide (x ∈ is) := by
  induction is with
  | nil => rfl
  | cons i is ih => rw [List.any_cons, ih, List.decide_mem_cons, Bool.beq_comm]
theorem is_none {v : Value} {a : MV} (h : VRel Ψ v a) : plainIs v .none = true ∧ (v == .none) = isNil a := by cases h <;> exact ⟨rfl, rfl⟩
theorem is_tru {v : Value} {a : MV} (h : VRel Ψ v a) : plainIs v (.bool true) = true ∧ (v == .bool true) = isTru a := by
  cases h with
  | @bool b => exact ⟨rfl, by cases b <;> rfl⟩
  | _ => exact ⟨rfl, rfl⟩
theorem op_cmp {op : COp} {a b : Value} {ma mb : MV} {r : Bool} (S : St W fs Ψ H s) (ha : VRel Ψ a ma) (hb : VRel Ψ b mb) (h : CmpR H op ma mb r) (hu : A.units + 65 < cLine) (hq : Q (.bool r) H) : wpAny W.M A (compareOp (copOf op) a b) (PostE W fs Ψ Q) E s := by
  have now : PostE W fs Ψ Q (.bool r) s := .now S .bool hq
  have now1 : ∀ n, PostE W fs Ψ Q (.bool r) { s with toks := n } := fun n => .now (S.toks n) .bool hq
  have ii : ∀ {x y : Int} {op : CmpOp}, VRel Ψ a (.int x) → VRel Ψ b (.int y) → (∀ t u, wpAny W.M A (compareOp op (.int x t) (.int y u)) (PostE W fs Ψ Q) E s) → wpAny W.M A (compareOp op a b) (PostE W fs Ψ Q) E s := by
    intro x y op ha hb h
    obtain ⟨t, rfl⟩ := vint ha
    obtain ⟨u, rfl⟩ := vint hb
    exact h t u
  cases h with
  | eqi => exact ii ha hb fun _ _ => P.eq_int now
  | nei => exact ii ha hb fun _ _ => P.ne_int now
  | eqs => obtain ⟨t, rfl⟩ := vstr ha; obtain ⟨u, rfl⟩ := vstr hb; exact PyProof.Rows.eq_str now
  | nes => obtain ⟨t, rfl⟩ := vstr ha; obtain ⟨u, rfl⟩ := vstr hb; exact PyProof.Rows.ne_str now
  | eqd hx hy =>
    obtain ⟨as, ra, c1, p1⟩ := reads_of S 8 _ _ _ ha hx
    obtain ⟨bs, rb, c2, p2⟩ := reads_of S 8 _ _ _ hb hy
    exact PyProof.Rows.eq_dataH ra rb (shaped_of c1 p1) (shaped_of c2 p2) (Nat.lt_of_succ_lt hu) now
  | ned hx hy =>
    obtain ⟨as, ra, c1, p1⟩ := reads_of S 8 _ _ _ ha hx
    obtain ⟨bs, rb, c2, p2⟩ := reads_of S 8 _ _ _ hb hy
    exact PyProof.Rows.ne_dataH ra rb (shaped_of c1 p1) (shaped_of c2 p2) (Nat.lt_of_succ_lt hu) now
  | lt => exact ii ha hb fun _ _ => P.lt_int now
  | le => exact ii ha hb fun _ _ => P.le_int now
  | gt => exact ii ha hb fun _ _ => P.gt_int now
  | ge => exact ii ha hb fun _ _ => P.ge_int now
  | ind h =>
    obtain ⟨t, rfl⟩ := vint ha; obtain rfl := vref hb
    obtain ⟨kvs, d, r, ns⟩ := S.dct h
    exact wpAny_in_of (knd := intKind W.prog W.w) intKey ns d.mapOf (dct_some r _ ▸ now1 _)
  | notind h =>
    obtain ⟨t, rfl⟩ := vint ha; obtain rfl := vref hb
    obtain ⟨kvs, d, r, ns⟩ := S.dct h
    exact wpAny_notIn_of (knd := intKind W.prog W.w) intKey ns d.mapOf (dct_some r _ ▸ now1 _)
  | inl h =>
    obtain ⟨t, rfl⟩ := vint ha; obtain rfl := vref hb
    obtain ⟨items, l, r, _, _⟩ := S.lstAt h
    exact PyProof.Rows.in_list_ints (vs := items.toList) l (intsAre_of r) (by rw [any_mem]; exact now)
  | notinl h =>
    obtain ⟨t, rfl⟩ := vint ha; obtain rfl := vref hb
    obtain ⟨items, l, r, _, _⟩ := S.lstAt h
    exact PyProof.Rows.notin_list_ints (vs := items.toList) l (intsAre_of r) (by rw [any_mem]; exact now)
  | isN => obtain rfl := vnone hb; exact wpAny_is_plain (is_none ha).1 ((is_none ha).2.symm ▸ now)
  | isnotN => obtain rfl := vnone hb; exact wpAny_isNot_plain (is_none ha).1 ((is_none ha).2.symm ▸ now)
  | isT => obtain rfl := vbool hb; exact wpAny_is_plain (is_tru ha).1 ((is_tru ha).2.symm ▸ now)

theorem op_truth {v : Value} {mv : MV} {b : Bool} {k : Bool → MH → Prop} (S : St W fs Ψ H s) (hv : VRel Ψ v mv) (h : mv = .bool b) (hk : k b H) : wpAny W.M A (truthy v) (PostB W fs Ψ k) E s := by
  subst h
  obtain rfl := vbool hv
  exact wpAny_truthy_bool ⟨Ψ, H, S, .refl _ _, hk⟩

/-! items -/
theorem seqIndex_pos {k : Int} {n : Nat} (h0 : 0 ≤ k) (h : k.toNat < n) : seqIndex? k n = some k.toNat := by
  unfold seqIndex?
  have h1 : ¬ k < 0 := Int.not_lt.mpr h0
  have h2 : k < n := (Int.toNat_lt h0).mp h
  simp [h1, h0, h2]
theorem seqIndex_neg {k : Int} {n : Nat} (h0 : k < 0) (h : 0 ≤ k + n) : seqIndex? k n = some (k + n).toNat := by
  unfold seqIndex?
  have h2 : k + n < n := by omega
  simp [h0, h, h2]
/-- where an index falls -/
theorem at_cases {vs : List MV} {i : Int} {x : MV} (h : atIdx vs i = some x) (hb : vs.length ≤ bigList) : ∃ j : Nat, vs[j]? = some x ∧ seqIndex? i vs.length = some j ∧ -(2 ^ 62) ≤ i ∧ i < 2 ^ 62 ∧ ((0 ≤ i ∧ j = i.toNat) ∨ (i < 0 ∧ 0 ≤ i + vs.length ∧ j = (i + vs.length).toNat)) := by
  unfold atIdx at h
  unfold bigList at hb
  split at h
  · rename_i h0
    have := (List.getElem?_eq_some_iff.mp h).1
    exact ⟨_, h, seqIndex_pos h0 this, by omega, by omega, .inl ⟨h0, rfl⟩⟩
  · split at h
    · exact ⟨_, h, seqIndex_neg (by omega) (by omega), by omega, by omega, .inr ⟨by omega, by omega, rfl⟩⟩
    · cases h
theorem tup_at (S : St W fs Ψ H s) {a : Addr} {vs : List MV} (h : Ψ a = some (.tup vs)) : ∃ items, PyProof.Rows.IsTup s.heap a items ∧ All2 (VRel Ψ) items.toList vs ∧ items.size = vs.length ∧ vs.length ≤ bigList := by
  obtain ⟨o, ho, items, k, rfl, r1, hb⟩ := S.typed _ _ h
  exact ⟨items, ⟨_, ho, rfl, k, rfl⟩, r1, all2_size r1, hb⟩
theorem two62 : (2 : Int) ^ 62 < 2 ^ 63 := by decide
theorem op_sub {value slice : PySem.Expr} {v i : Value} {mv mi x : MV} (S : St W fs Ψ H s) (hv : VRel Ψ v mv) (hi : VRel Ψ i mi) (h : SubR H mv mi x) (q : Q x H)
    (hs : ∀ o i, subscripted slice false o i = operate [o, i] (getItem o i)) : wpAny W.M A (PyProof.Rows.subscriptTail value slice v i) (PostE W fs Ψ Q) E s := by
  cases h with
  | @lst a vs k x hl hx =>
    obtain rfl := vref hv
    obtain ⟨t, rfl⟩ := vint hi
    obtain ⟨items, l, r, z, b⟩ := S.lstAt hl
    obtain ⟨j, hj, _, lo, hi, hc⟩ := at_cases hx b
    obtain ⟨v, hv', hr⟩ := r.get _ _ hj
    rw [Array.getElem?_toList] at hv'
    refine PyProof.Rows.tail_any (Heap.IsList.typeIs l) slot_list_getitem.lookup ?_ (hs _ _)
    rcases hc with ⟨h0, rfl⟩ | ⟨h0, h1, rfl⟩
    · exact wpAny_getItem_list l h0 (Int.lt_trans hi two62) hv' (.now S hr q)
    · rw [← z] at h1 hv'
      exact wpAny_getItem_list_neg l h0 (by omega) (Int.le_trans (by decide) lo) hv' (.now S hr q)
  | tup hx =>
    obtain ⟨a, rfl, ha⟩ := vtup hv
    obtain ⟨t, rfl⟩ := vint hi
    obtain ⟨items, ht, r, z, b⟩ := tup_at S ha
    obtain ⟨j, hj, hq, lo, hi, _⟩ := at_cases hx b
    obtain ⟨v, hv', hr⟩ := r.get _ _ hj
    rw [Array.getElem?_toList] at hv'
    rw [← z] at hq
    exact PyProof.Rows.tail_any ht.typeIs PyProof.Rows.slot_tuple_getitem.lookup (PyProof.Rows.getItem_tuple ht (Int.le_trans (by decide) lo) (Int.lt_trans hi two62) hq hv' (.now S hr q)) (hs _ _)
  | @dct a es k x hd hx =>
    obtain rfl := vref hv
    obtain ⟨t, rfl⟩ := vint hi
    obtain ⟨kvs, d, r, _⟩ := S.dct hd
    rcases valueAt_dct k r with ⟨_, h2⟩ | ⟨v, mv, h1, h2, hr⟩
    · exact nn h2 hx
    · obtain rfl := Option.some.inj (h2.symm.trans hx)
      exact PyProof.Rows.tail_any d.mapOf.typeIs slot_dict_getitem.lookup (wpAny_getItem_of (knd := intKind W.prog W.w) intKey d.mapOf h1 (.now (S.toks _) hr q)) (hs _ _)
end
end Mine
end
section
set_option autoImplicit false
set_option linter.unusedVariables false
namespace Mine
open PySem
section
variable {W : Amb} {fs : List Env} {Ψ : Psi} {H : MH} {s : Shared} {A : Around} {E : Value → Shared → Prop} {Q : MV → MH → Prop}
theorem part_of {v : Value} {mv : MV} {p : Option Int} (hv : VRel Ψ v mv) (h : OptI mv p) : IsPart v p := by
  cases h with
  | none => obtain rfl := vnone hv; exact .none
  | int => obtain ⟨t, rfl⟩ := vint hv; exact .int _ _
theorem cut_len {α : Type} {l : List α} {a b : Option Int} : (cut l a b).length ≤ l.length := Nat.le_trans (List.length_take_le' _ _) (by rw [List.length_drop]; exact Nat.sub_le _ _)
/-- the slice object stands, new, at the heap's end -/
theorem op_slice {value slice : PySem.Expr} {v lo hi : Value} {mv ml mh : MV} {vs : List MV} (S : St W fs Ψ H s) (hv : VRel Ψ v mv) (hl : VRel Ψ lo ml) (hh : VRel Ψ hi mh) (h : SliceR H mv ml mh vs) (q : New H Q vs)
    (hs : ∀ o i, subscripted slice false o i = operate [i, o] (getItem o i)) :
    wpAny W.M A (PyProof.Rows.subscriptTail value slice v (.ref s.heap.objs.size)) (PostE W fs Ψ Q) E { s with heap := s.heap.push { cls := .type "slice", data := .fields #[lo, hi, .none] } } := by
  have S1 : St W fs Ψ H { s with heap := s.heap.push { cls := .type "slice", data := .fields #[lo, hi, .none] } } :=
    S.of_all (fun a o e => Heap.get?_push_of_some _ e) rfl rfl
  cases h with
  | lst hv' h1 h2 =>
    obtain rfl := vref hv
    obtain ⟨items, l, r, z, b⟩ := S1.lstAt hv'
    refine PyProof.Rows.tail_any (Heap.IsList.typeIs l) slot_list_getitem.lookup (wpAny_getItem_list_slice l (Heap.IsSliceOf.new ..) (part_of hl h1) (part_of hh h2) .none (by simp) ?_ (z ▸ big_le b)) (hs _ _)
    refine .newList S1 ?_ (Nat.le_trans cut_len b) q
    rw [slicePick_plain]
    unfold cut
    rw [z]
    exact (r.drop _).take _
end
end Mine
end
section
set_option autoImplicit false
set_option linter.unusedVariables false
namespace Mine
open PySem

noncomputable def Psi.del (Ψ : Psi) (a : Addr) : Psi := fun b => if b = a then none else Ψ b
theorem Psi.del_self (Ψ : Psi) (a : Addr) : Ψ.del a a = none := if_pos rfl
theorem Psi.del_ne (Ψ : Psi) {a b : Addr} (h : b ≠ a) : Ψ.del a b = Ψ b := if_neg h
theorem Psi.of_del {Ψ : Psi} {a b : Addr} {k : HK} (h : Ψ.del a b = some k) : b ≠ a ∧ Ψ b = some k := by
  unfold Psi.del at h; split at h
  · cases h
  · exact ⟨by assumption, h⟩

noncomputable def ItAt (Ψ : Psi) (sv : Value) (src : MV) (it : Addr) (i : Nat) : Prop := ∃ o, Ψ it = some (.raw o) ∧ match src with
  | .ref a => o.cls = .type "list_iterator" ∧ o.data = .fields #[.ref a, .int i 0]
  | .tup _ => ∃ a, sv = .ref a ∧ o.cls = .type "tuple_iterator" ∧ o.data = .fields #[.ref a, .int i 0]
  | .rng a b c => o = { cls := .type "range_iterator", dict := none, data := .fields #[rawInt (a + c * i), rawInt (Builtin.Range.rangeSize a b c - i), rawInt c], slots := #[] }
  | _ => False

section
variable {W : Amb} {fs : List Env} {Ψ Ψ' : Psi} {H : MH} {s s' : Shared} {A : Around} {E : Value → Shared → Prop} {Q : MV → MH → Prop}

theorem ne31 : (3 : Nat) ≠ 1 := by decide
theorem ne32 : (3 : Nat) ≠ 2 := by decide
theorem ne35 : (3 : Nat) ≠ 5 := by decide
theorem ne30 : (3 : Nat) ≠ 0 := by decide
theorem Psi.del_sort {a b : Addr} {k k' : HK} (h : Ψ a = some k) (e : Ψ b = some k') (n : k.sort ≠ k'.sort) : Ψ.del a b = some k' := (Psi.del_ne _ (ne_of_sort h e n)).trans e
theorem fixed_sort {k : HK} (h : k.fixed = true) : k.sort = 5 := by cases k <;> first | rfl | exact absurd h Bool.noConfusion
theorem Keep.del_raw {a : Addr} {o : Obj} (h : Ψ a = some (.raw o)) : Keep (· = a) Ψ (Ψ.del a) :=
  ⟨fun b x e f => Psi.del_sort h e (fixed_sort f ▸ ne35), fun b x e _ n => (Psi.del_ne _ n).trans e, fun b m e => ⟨m, Psi.del_sort h e ne31⟩, fun b m e => ⟨m, Psi.del_sort h e ne32⟩⟩
/-- what the law can see stands for data -/
theorem HRel.keepS {a : Addr} {o : MObj} (h : HRel Ψ a o) (k : ∀ b (x : HK), Ψ b = Option.some x → (x.sort = 0 ∨ x.sort = 5) → Ψ' b = Option.some x) : HRel Ψ' a o := by
  cases o with
  | inst fs => exact h.imp fun d z => ⟨k _ _ z.1 (.inl rfl), k _ _ z.2 (.inl rfl)⟩
  | ro vs => exact k _ _ h (.inr rfl)
  | _ => exact k _ _ h (.inl rfl)
theorem sort3 {k : HK} (o : Obj) (h : k.sort = 0 ∨ k.sort = 5) : (HK.raw o).sort ≠ k.sort := h.elim (fun h => h ▸ ne30) (fun h => h ▸ ne35)

/-- something hidden goes -/
theorem St.gone (S : St W fs Ψ H s) {a : Addr} {o : Obj} (e₀ : Ψ a = some (.raw o)) (hk : Heap.ExtBut a s.heap s'.heap) (hg : s'.gens = s.gens) (ho : s'.os = s.os) : St W fs (Ψ.del a) H s' := by
  have h0 := S.fresh a _ e₀ fun _ q => HK.noConfusion q
  refine ⟨fun b k e => ?_, fun b k e hx => S.fresh b k (Psi.of_del e).2 hx, fun b x e => (S.heap b x e).keepS fun c k e q => Psi.del_sort e₀ e (sort3 o q), fun b o e => hk b o (ne_none (f := W.h₀.get?) h0 e) (S.base b o e), fun e he => ?_, hg.trans S.gens, ho.trans S.os, fun b es e => S.dsys b es (Psi.of_del e).2⟩
  · obtain ⟨hne, e⟩ := Psi.of_del e
    exact (S.typed b k e).imp fun o z => ⟨hk b o hne z.1, z.2.mono (Keep.del_raw e₀).fix⟩
  · obtain ⟨p, L, m, q, r⟩ := S.frames e he
    exact ⟨p, L, m, q, Psi.del_sort e₀ r ne31⟩

/-- an iterator goes on -/
theorem St.stepped (S : St W fs Ψ H s) {a : Addr} {o o' : Obj} (e₀ : Ψ a = some (.raw o)) (hs : Heap.SameBut a s.heap s'.heap) (ho' : s'.heap.get? a = some o') (hg : s'.gens = s.gens) (ho : s'.os = s.os) :
    St W fs (Ψ.set a (.raw o')) H s' :=
  S.turned e₀ rfl (fun m q => HK.noConfusion q) rfl hs ho' (fun b x e => (S.heap b x e).keepS fun c k e q => Psi.set_sort e₀ e (sort3 o q)) hg ho

theorem Keep.set_raw {a : Addr} {o o' : Obj} (e₀ : Ψ a = some (.raw o)) : Keep (· = a) Ψ (Ψ.set a (.raw o')) :=
  .set_own e₀ rfl rfl (fun _ q => HK.noConfusion q) (fun _ q => HK.noConfusion q)

theorem rng_at (S : St W fs Ψ H s) {r : Addr} {a b c : Int} (h : Ψ r = some (.rng a b c)) : (∃ t u v, IsRange s.heap r a b c t u v) ∧ smallI a ∧ smallI b ∧ smallI c ∧ 0 < c := by
  obtain ⟨o, ho, ⟨t, u, v, rfl⟩, q⟩ := S.typed _ _ h
  exact ⟨⟨t, u, v, ho⟩, q⟩
theorem rangeSize_le {a b c : Int} (hc : 0 < c) : 0 ≤ Builtin.Range.rangeSize a b c ∧ Builtin.Range.rangeSize a b c ≤ max (b - a) 0 := by
  unfold Builtin.Range.rangeSize
  rw [if_pos hc]
  split
  · have h1 : (b - a - 1) / c ≤ b - a - 1 := Int.ediv_le_self _ (by omega)
    have h2 : 0 ≤ (b - a - 1) / c := Int.ediv_nonneg (by omega) (by omega)
    omega
  · omega
theorem small_of {a b c : Int} (h : smallI a ∧ smallI b ∧ smallI c ∧ 0 < c) : Builtin.Range.small a b c = true := by
  obtain ⟨⟨a1, a2⟩, ⟨b1, b2⟩, ⟨c1, c2⟩, hc⟩ := h
  obtain ⟨z1, z2⟩ := rangeSize_le (a := a) (b := b) hc
  unfold Builtin.Range.small Builtin.Range.rangeFitsLong
  simp only [Bool.and_eq_true, decide_eq_true_eq, Bool.or_eq_true, beq_iff_eq]
  refine ⟨⟨⟨⟨⟨by omega, by omega⟩, by omega, by omega⟩, by omega, by omega⟩, by omega, by omega⟩, .inr ?_⟩
  rw [if_pos hc]
  simp only [Bool.and_eq_true, decide_eq_true_eq]
  omega
theorem rangeL_length (a b c : Int) : (rangeL a b c).length = (Builtin.Range.rangeSize a b c).toNat := by unfold rangeL; simp

theorem op_iter {sv : Value} {src : MV} {vs : List MV} (S : St W fs Ψ H s) (hv : VRel Ψ sv src) (he : Elems H src vs) {QQ : Value → Shared → Prop}
    (h : ∀ it Ψ' s', St W fs Ψ' H s' → Keep none_ Ψ Ψ' → Ψ it = none → (∀ b k, Ψ b = some k → Ψ' b = some k) → ItAt Ψ' sv src it 0 → QQ (.ref it) s') : wpAny W.M A (pyIter sv) QQ E s := by
  have mk : ∀ o : Obj, o.isFreed = false → (∀ Ψ' : Psi, Ψ' s.heap.objs.size = some (.raw o) → ItAt Ψ' sv src s.heap.objs.size 0) → QQ (.ref s.heap.objs.size) { s with heap := s.heap.push o } := fun o hf z =>
    h _ _ _ (S.push (s' := { s with heap := s.heap.push o }) (k := .raw o) hf rfl rfl rfl rfl) (S.pushKeep _) S.none_at (fun b k e => Psi.set_up S.none_at e) (z _ (Psi.set_self _ _ _))
  cases he with
  | lst hl =>
    obtain rfl := vref hv
    obtain ⟨items, l, r, _, _⟩ := S.lstAt hl
    exact wpAny_pyIter_list l (mk _ rfl fun Ψ' e => ⟨_, e, rfl, rfl⟩)
  | tup =>
    obtain ⟨a, rfl, ha⟩ := vtup hv
    obtain ⟨items, ht, r, _, _⟩ := tup_at S ha
    exact wpAny_pyIter_tuple ht (mk _ rfl fun Ψ' e => ⟨_, e, _, rfl, rfl, rfl⟩)
  | rng =>
    obtain ⟨x, rfl, ha⟩ := vrng hv
    obtain ⟨⟨t, u, v, hR⟩, hr⟩ := rng_at S ha
    refine wpAny_pyIter_range hR (small_of hr) (mk _ rfl fun Ψ' e => ⟨_, e, ?_⟩)
    simp

theorem op_next {sv : Value} {src : MV} {vs : List MV} {it : Addr} {i : Nat} {x : MV} (S : St W fs Ψ H s) (hv : VRel Ψ sv src) (he : Elems H src vs) (hi : ItAt Ψ sv src it i) (hx : vs[i]? = some x)
    {QQ : Option Value → Shared → Prop} (h : ∀ v Ψ' s', St W fs Ψ' H s' → Keep (· = it) Ψ Ψ' → VRel Ψ' v x → ItAt Ψ' sv src it (i + 1) → QQ (some v) s') : wpAny W.M A (pyNext (.ref it)) QQ E s := by
  obtain ⟨o, ho, hm⟩ := hi
  obtain ⟨o', hg, hraw⟩ := S.typed _ _ ho
  obtain rfl : o' = o := hraw
  have nx : ∀ {v : Value} {h' : Heap} {tk : Nat} {o2 : Obj}, VRel Ψ v x → h'.get? it = some o2 → Heap.SameBut it s.heap h' → (∀ Ψ' : Psi, Ψ' it = some (.raw o2) → ItAt Ψ' sv src it (i + 1)) → QQ (some v) { s with heap := h', toks := tk } := fun {v h' tk o2} hr e2 hs z =>
    h v _ _ (S.stepped (s' := { s with heap := h', toks := tk }) ho hs e2 rfl rfl) (Keep.set_raw ho) (hr.mono (Keep.set_raw ho).fix) (z _ (Psi.set_self _ _ _))
  cases he with
  | lst hl =>
    obtain rfl := vref hv
    obtain ⟨items, l, r, _, _⟩ := S.lstAt hl
    obtain ⟨v, hv', hr⟩ := r.get _ _ hx
    rw [Array.getElem?_toList] at hv'
    refine wpAny_pyNext_list_item ⟨_, hg, hm.1, hm.2⟩ l hv' fun h' hit hs => ?_
    obtain ⟨o2, e2, c2, d2⟩ := hit
    exact nx hr e2 hs fun Ψ' e => ⟨o2, e, c2, d2⟩
  | tup =>
    obtain ⟨a, rfl, ha⟩ := vtup hv
    obtain ⟨items, ht, r, _, _⟩ := tup_at S ha
    obtain ⟨a', e', h1, h2⟩ := hm
    obtain rfl := Value.ref.inj e'
    obtain ⟨v, hv', hr⟩ := r.get _ _ hx
    rw [Array.getElem?_toList] at hv'
    refine wpAny_pyNext_tuple_item ⟨_, hg, h1, h2⟩ ht hv' fun h' hit hs => ?_
    obtain ⟨o2, e2, c2, d2⟩ := hit
    exact nx hr e2 hs fun Ψ' e => ⟨o2, e, _, rfl, c2, d2⟩
  | @rng a b c =>
    rw [List.getElem?_map] at hx
    obtain ⟨y, hy, rfl⟩ := Option.map_eq_some_iff.mp hx
    have hlt : i < (Builtin.Range.rangeSize a b c).toNat := rangeL_length a b c ▸ (List.getElem?_eq_some_iff.mp hy).1
    unfold rangeL at hy
    rw [List.getElem?_map, List.getElem?_range hlt] at hy
    obtain rfl := Option.some.inj hy
    have hm' : o' = _ := hm
    subst hm'
    refine wpAny_pyNext_range_item hg (by omega) fun h' hit hs => ?_
    refine nx .int hit hs fun Ψ' e => ⟨_, e, ?_⟩
    have e1 : a + c * ((i + 1 : Nat) : Int) = a + c * i + c := by rw [Int.natCast_add, Int.mul_add]; simp; omega
    have e2 : Builtin.Range.rangeSize a b c - ((i + 1 : Nat) : Int) = Builtin.Range.rangeSize a b c - i - 1 := by omega
    dsimp only
    rw [e1, e2]

theorem op_done {sv : Value} {src : MV} {vs : List MV} {it : Addr} {i : Nat} (hh : A.handled = none) (S : St W fs Ψ H s) (hv : VRel Ψ sv src) (he : Elems H src vs) (hi : ItAt Ψ sv src it i) (hx : vs[i]? = none)
    {QQ : Option Value → Shared → Prop} (h : ∀ Ψ' s', St W fs Ψ' H s' → Keep (· = it) Ψ Ψ' → QQ none s') : wpAny W.M A (pyNext (.ref it)) QQ E s := by
  obtain ⟨o, ho, hm⟩ := hi
  obtain ⟨o', hg, hraw⟩ := S.typed _ _ ho
  obtain rfl : o' = o := hraw
  have fin : ∀ h', Heap.ExtBut it s.heap h' → QQ none { s with heap := h' } := fun h' hs => h _ _ (S.gone (s' := { s with heap := h' }) ho hs rfl rfl) (Keep.del_raw ho)
  cases he with
  | lst hl =>
    obtain rfl := vref hv
    obtain ⟨items, l, r, z, _⟩ := S.lstAt hl
    exact wpAny_pyNext_list_end hh ⟨_, hg, hm.1, hm.2⟩ l (by rw [Array.getElem?_eq_none_iff, z]; exact List.getElem?_eq_none_iff.mp hx) fin
  | tup =>
    obtain ⟨a, rfl, ha⟩ := vtup hv
    obtain ⟨items, ht, r, z, _⟩ := tup_at S ha
    obtain ⟨a', e', h1, h2⟩ := hm
    obtain rfl := Value.ref.inj e'
    exact wpAny_pyNext_tuple_end hh ⟨_, hg, h1, h2⟩ ht (by rw [Array.getElem?_eq_none_iff, z]; exact List.getElem?_eq_none_iff.mp hx) fin
  | @rng a b c =>
    have hlt : (Builtin.Range.rangeSize a b c).toNat ≤ i := by have := List.getElem?_eq_none_iff.mp hx; rwa [List.length_map, rangeL_length] at this
    have hm' : o' = _ := hm
    subst hm'
    exact wpAny_pyNext_range_end hh hg (by omega) fin
end
end Mine
end
section
set_option autoImplicit false
set_option linter.unusedVariables false
namespace Mine
open PySem PyProof.Rows

/-! a row that ascends is one run -/
theorem minRun_le : ∀ (f n r : Nat), minRun' f n r ≤ n + r
  | 0, n, r => Nat.le_refl _
  | f + 1, n, r => by
    rw [minRun'_succ]
    split
    · exact Nat.le_refl _
    · have := minRun_le f (n / 2) (max r (n % 2))
      omega
section
variable {prog : Program} {w : World} {A : Around} {E : Value → Shared → Prop} {s : Shared} {a₀ : Array Keyed}
theorem runs_asc {st : SortSt} {Q : Unit → SortSt → Prop} (h0 : IntKeys a₀) (hB : SBase a₀ st) (h2 : 2 ≤ a₀.size) (hs : SortedTo (arrOf st) a₀.size)
    (h : ∀ st', (arrOf st').Perm a₀ → failedOf st' = none → SortedTo (arrOf st') a₀.size → Q () st') : wpS (model prog w) A E s sortRuns' Q st := by
  rw [sortRuns'_eq]
  refine wpS_bind (wpS_get ?_)
  dsimp only
  have hmr : ¬ a₀.size < minRun' a₀.size a₀.size 0 := Nat.not_lt.mpr (minRun_le _ _ _)
  simp only [hB.size]
  refine wpS_bind (wpS_mono (wpS_forRange (I := fun x c st' => (x = 0 ∧ c = (none, 0) ∧ st' = st) ∨ (1 ≤ x ∧ c = (none, a₀.size) ∧ SDone a₀ st')) (Q := fun c st' => c = (none, a₀.size) ∧ SDone a₀ st') ?_ ?_ (.inl ⟨rfl, rfl, rfl⟩)) ?_)
  · rintro x c st' _ hx (⟨rfl, rfl, rfl⟩ | ⟨_, rfl, hD⟩)
    · dsimp only
      rw [if_neg (Nat.not_le.mpr hx)]
      simp only [Nat.sub_zero, Nat.zero_add]
      rw [countRun0_eq]
      refine wpS_bind (wpS_bind (wpS_ascLoop h0 (Nat.le_refl _) (Nat.le_refl 1) (Nat.le_of_lt h2) hB (fun i j hij hj => hs i j hij (Nat.lt_of_lt_of_le hj (Nat.le_of_lt h2))) fun n hn1 hn2 hsn hor => ?_))
      obtain rfl : n = a₀.size := by
        rcases hor with q | q
        · exact q
        · by_cases hlt : n < a₀.size
          · exact absurd (hs (n - 1) n (Nat.sub_le _ _) hlt) (Int.not_le.mpr q)
          · exact Nat.le_antisymm hn2 (Nat.not_lt.mp hlt)
      dsimp only
      rw [if_pos (beq_self_eq_true _)]
      refine wpS_pure ?_
      dsimp only
      rw [if_neg hmr]
      refine wpS_bind (wpS_get ?_)
      have hb : (pendingOf st').back? = none := by rw [hB.pend]; rfl
      rw [hb]
      dsimp only
      exact wpS_bind (wpS_modify (wpS_pure (.inr ⟨Nat.le_refl _, rfl, hB.done hs⟩)))
    · dsimp only
      rw [if_pos (Nat.le_refl _)]
      exact wpS_pure ⟨rfl, hD⟩
  · rintro c st' (⟨hx, _, _⟩ | ⟨_, hc, hD⟩)
    · exact absurd hx (by omega)
    · exact ⟨hc, hD⟩
  · rintro c st' ⟨rfl, hD⟩
    dsimp only
    refine wpS_bind (wpS_mono (wpS_forRange (I := fun _ c st'' => st'' = st' ∧ c = (none, ())) (Q := fun c st'' => st'' = st' ∧ c = (none, ())) ?_ (fun _ _ hh => hh) ⟨rfl, rfl⟩) ?_)
    · rintro x c st'' _ _ ⟨rfl, rfl⟩
      refine wpS_bind (wpS_get ?_)
      rw [if_pos (by rw [hD.2.2.1]; exact Nat.le_refl 1)]
      exact wpS_pure ⟨rfl, rfl⟩
    · rintro c st'' ⟨rfl, rfl⟩
      exact wpS_pure (h _ hD.1 hD.2.1 hD.2.2.2)
theorem pairs_asc {vs : List Value} {ns : List Int} (hI : IntsAre vs ns) (ha : ns.Pairwise (· ≤ ·)) : SortedTo (pairsOf vs) (pairsOf vs).size := by
  intro i j hij hj
  have hj' := hj
  rw [pairsOf_size] at hj'
  have e : ∀ k, k < vs.length → ∃ h : k < ns.length, K (pairsOf vs) k = ns[k] := fun k hk => by
    have hn := hI.nums
    have hl : k < ns.length := by rw [← hn, List.length_map]; exact hk
    refine ⟨hl, ?_⟩
    rw [K_eq (by rw [pairsOf_size]; exact hk)]
    simp only [← hn, List.getElem_map, pairsOf, Array.getElem_zip, List.getElem_toArray]
  obtain ⟨l1, e1⟩ := e i (Nat.lt_of_le_of_lt hij hj')
  obtain ⟨l2, e2⟩ := e j hj'
  rw [e1, e2]
  rcases Nat.lt_or_eq_of_le hij with q | q
  · exact List.pairwise_iff_getElem.mp ha i j l1 l2 q
  · subst q; exact Int.le_refl _
theorem sort_asc {a : Addr} {vs : List Value} {ns : List Int} {n : Nat} {P : Fin → Shared → Prop} (ho : s.heap.get? a = some (seqObj "list" vs.toArray n)) (hI : IntsAre vs ns) (hasc : ns.Pairwise (· ≤ ·)) (hz : vs.length ≤ sizeLine)
    (h : ∀ out : Array Value, IntsAre out.toList ns → P (.done (.ret .none)) { s with heap := sortedHeap s.heap a vs out }) : wpAny (model prog w) A (Builtin.«list.sort» ⟨[.ref a], []⟩) P E s := by
  rw [list_sort_plain]
  have ha : a < s.heap.objs.size := Heap.lt_size ho
  refine wpAny_bind (listItems_at ho rfl ?_)
  refine wpAny_bind (listUpdate_at ho rfl ?_ (by rw [List.size_toArray]; exact hz) (Nat.zero_le _))
  obtain ⟨e1, ho1⟩ : ∃ e1, (s.heap.update a (Obj.mapSeq fun _ => #[])).get? a = some (seqObj "list" #[] e1) := ⟨_, get?_update_seq ho (fun _ => #[])⟩
  refine wpAny_bind (seqEpoch_at ho1 rfl ?_)
  refine wpAny_bind (wpAny_newTuple ?_)
  refine wpAny_bind (wpAny_newList ?_)
  refine wpAny_holding ?_
  have ho6 : (((s.heap.update a (Obj.mapSeq fun _ => #[])).push (seqObj "tuple" vs.toArray 0)).push (seqObj "list" #[] 0)).get? a = some (seqObj "list" #[] e1) := by
    rw [Heap.get?_push_ne _ _ _ (by rw [size_push', Heap.size_update]; exact Nat.ne_of_lt (Nat.lt_succ_of_lt ha)), Heap.get?_push_ne _ _ _ (by rw [Heap.size_update]; exact Nat.ne_of_lt ha)]
    exact ho1
  show wpAny (model prog w) A _ P E { s with heap := ((s.heap.update a (Obj.mapSeq fun _ => #[])).push (seqObj "tuple" vs.toArray 0)).push (seqObj "list" #[] 0) }
  dsimp only
  have fin : ∀ st' : SortSt, (arrOf st').Perm (pairsOf vs) → SortedTo (arrOf st') (pairsOf vs).size → P (.done (.ret .none)) { s with heap := sortedHeap s.heap a vs ((arrOf st').map (·.2)) } := by
    intro st' hp hs
    obtain ⟨ns', h1, h2, h3⟩ := sorted_out hI hp hs
    obtain rfl : ns' = ns := h2.eq_of_pairwise (fun x y _ _ p q => Int.le_antisymm p q) h3 hasc
    exact h _ h1
  have sz : ∀ st' : SortSt, (arrOf st').Perm (pairsOf vs) → ((arrOf st').map (·.2)).size ≤ sizeLine + 1 := fun st' hp => by
    rw [Array.size_map, hp.size_eq, pairsOf_size]; exact Nat.le_succ_of_le hz
  by_cases h2 : vs.toArray.size < 2
  · rw [if_pos h2, if_pos h2]
    refine wpAny_bind (wpAny_pure ?_)
    rw [StateT.run_pure]
    refine wpAny_bind (wpAny_pure ?_)
    dsimp only
    refine wpAny_bind (seqEpoch_at ho6 rfl ?_)
    refine wpAny_bind (listUpdate_at ho6 rfl ?_ (Nat.zero_le _) (sz (SortSt.mk' general' (vs.toArray.zip vs.toArray) #[] 7 none) (Array.Perm.refl _)))
    simp only [bne_self_eq_false, Bool.false_eq_true, if_false]
    exact wpAny_pure (fin (SortSt.mk' general' (vs.toArray.zip vs.toArray) #[] 7 none) (Array.Perm.refl _) (pairs_asc hI hasc))
  · rw [if_neg h2, if_neg h2]
    obtain ⟨v₁, v₂, rest, rfl⟩ : ∃ v₁ v₂ rest, vs = v₁ :: v₂ :: rest := by
      match vs, h2 with
      | [], h2 => simp at h2
      | [_], h2 => simp at h2
      | v₁ :: v₂ :: rest, _ => exact ⟨v₁, v₂, rest, rfl⟩
    rw [keyKind_ints hI]
    refine wpAny_bind (wpAny_pure ?_)
    refine wpAny_bind (wpAny_mono (runs_asc (a₀ := pairsOf (v₁ :: v₂ :: rest)) (st := SortSt.mk' oneType' ((v₁ :: v₂ :: rest).toArray.zip (v₁ :: v₂ :: rest).toArray) #[] 7 none)
      (Q := fun _ st' => (arrOf st').Perm (pairsOf (v₁ :: v₂ :: rest)) ∧ failedOf st' = none ∧ SortedTo (arrOf st') (pairsOf (v₁ :: v₂ :: rest)).size)
      hI.intKeys ⟨Array.Perm.refl _, rfl, rfl, rfl⟩ (by rw [pairsOf_size]; simp) (pairs_asc hI hasc) fun st' a1 a2 a3 => ⟨a1, a2, a3⟩) ?_ fun _ _ e => e)
    rintro ⟨⟨⟩, st'⟩ s' ⟨rfl, hp, hf, hs⟩
    dsimp only
    refine wpAny_bind (seqEpoch_at ho6 rfl ?_)
    refine wpAny_bind (listUpdate_at ho6 rfl ?_ (Nat.zero_le _) (sz st' hp))
    rw [hf]
    simp only [bne_self_eq_false, Bool.false_eq_true, if_false]
    exact wpAny_pure (fin st' hp hs)
theorem sorted_asc {l : Addr} {vs : List Value} {ns : List Int} {Q : Value → Shared → Prop} (hl : s.heap.IsList l vs.toArray) (hI : IntsAre vs ns) (hasc : ns.Pairwise (· ≤ ·)) (hz : vs.length ≤ sizeLine)
    (h : ∀ out : Array Value, IntsAre out.toList ns → Q (.ref (s.heap.objs.size + 1)) { s with heap := sortedAll s.heap vs out }) : wpAny (model prog w) A (call (.builtin "sorted") [.ref l]) Q E s := by
  refine Calls.call_function_entry kind_sorted plain_sorted entry_sorted (args_sorted1 _) ?_
  unfold Builtin.«sorted»
  refine wpAny_bind (m := checkCount "sorted" 1 1 _) (wpAny_pure ?_)
  refine wpAny_bind (collect_list hl ?_ hz)
  refine wpAny_bind (wpAny_newList ?_)
  have hsz : ((s.heap.push (seqObj "list" #[] 0)).update s.heap.objs.size (Obj.mapSeq (· ++ vs.toArray))).objs.size = s.heap.objs.size + 1 := by rw [Heap.size_update, size_push']
  have hoL : (((s.heap.push (seqObj "list" #[] 0)).update s.heap.objs.size (Obj.mapSeq (· ++ vs.toArray))).push (seqObj "list" vs.toArray 0)).get? (s.heap.objs.size + 1) = some (seqObj "list" vs.toArray 0) := by rw [← hsz]; exact Heap.get?_push_size _ rfl
  show wpAny _ _ _ _ _ { s with heap := ((s.heap.push (seqObj "list" #[] 0)).update s.heap.objs.size (Obj.mapSeq (· ++ vs.toArray))).push (seqObj "list" vs.toArray 0) }
  rw [hsz]
  refine wpAny_bind (wpAny_holding (wpAny_call_entry slot_list_sort ⟨_, hoL, rfl⟩ entry_list_sort (sort_asc hoL hI hasc hz fun out a1 => ⟨_, rfl, ?_⟩) (args_list_sort _)))
  exact wpAny_pure ⟨_, rfl, h out a1⟩
end
end Mine
end
section
set_option autoImplicit false
set_option linter.unusedVariables false
namespace Mine
open PySem

section
variable {W : Amb} {fs : List Env} {Ψ Ψ' : Psi} {H : MH} {s s' : Shared} {A : Around} {E : Value → Shared → Prop} {Q : MV → MH → Prop}

/-- a new list at the end of a heap that has grown -/
theorem PostE.grown {a : Addr} {items : Array Value} {n : Nat} {vs : List MV} {h' : Heap} {tk : Nat} (S : St W fs Ψ H s) (hk : ∀ b o, s.heap.get? b = some o → h'.get? b = some o) (ha : s.heap.objs.size ≤ a)
    (hl : IsL h' a items n) (hv : All2 (VRel Ψ) items.toList vs) (hb : vs.length ≤ bigList) (h : New H Q vs) : PostE W fs Ψ Q (.ref a) { s with heap := h', toks := tk } :=
  .placed (s' := { s with heap := h', toks := tk }) S hk (Heap.get?_none_of_le ha) (W.big.elim fun _ x => x.elim fun _ y => beq_eq_false_iff_ne.mpr (Nat.ne_of_gt (Nat.lt_of_lt_of_le (Nat.lt_trans y.1 (Heap.lt_size (S.base _ _ y.2))) ha))) hl hv hb rfl rfl h
theorem PostE.same {v : Value} {mv : MV} {h' : Heap} {tk : Nat} (S : St W fs Ψ H s) (hk : ∀ b o, s.heap.get? b = some o → h'.get? b = some o) (hv : VRel Ψ v mv) (h : Q mv H) : PostE W fs Ψ Q v { s with heap := h', toks := tk } :=
  .now (S.of_all (s' := { s with heap := h', toks := tk }) hk rfl rfl) hv h
theorem bools_of {vs : List Value} {bs : List Bool} (h : All2 (VRel Ψ) vs (bs.map .bool)) : vs = bs.map Value.bool := by
  induction bs generalizing vs with
  | nil => cases h; rfl
  | cons i is ih => cases h with | cons hv t => obtain rfl := vbool hv; rw [ih t]; rfl

noncomputable def biVal : String → Value
  | "range" => .type "range"
  | "list" => .type "list"
  | b => .builtin b

theorem all2_1 {α β : Type} {R : α → β → Prop} {l : List α} {b : β} (h : All2 R l [b]) : ∃ a, l = [a] ∧ R a b := by
  cases h with | cons h t => cases t; exact ⟨_, rfl, h⟩
theorem all2_2 {α β : Type} {R : α → β → Prop} {l : List α} {b c : β} (h : All2 R l [b, c]) : ∃ a a', l = [a, a'] ∧ R a b ∧ R a' c := by
  cases h with | cons h t => obtain ⟨a', rfl, h'⟩ := all2_1 t; exact ⟨_, _, rfl, h, h'⟩
theorem arg_ref {l : List Value} {a : Addr} (h : All2 (VRel Ψ) l [.ref a]) : l = [.ref a] := by obtain ⟨v, rfl, h1⟩ := all2_1 h; rw [vref h1]
theorem arg_int {l : List Value} {a : Int} (h : All2 (VRel Ψ) l [.int a]) : ∃ t, l = [.int a t] := by obtain ⟨v, rfl, h1⟩ := all2_1 h; obtain ⟨t, rfl⟩ := vint h1; exact ⟨t, rfl⟩
theorem arg_ints {l : List Value} {a b : Int} (h : All2 (VRel Ψ) l [.int a, .int b]) : ∃ t u, l = [.int a t, .int b u] := by
  obtain ⟨v, v', rfl, h1, h2⟩ := all2_2 h; obtain ⟨t, rfl⟩ := vint h1; obtain ⟨u, rfl⟩ := vint h2; exact ⟨t, u, rfl⟩

theorem newRange {a b c : Int} {t u v : Tok} {tk : Nat} (S : St W fs Ψ H s) (hs : smallI a ∧ smallI b ∧ smallI c ∧ 0 < c) (h : Q (.rng a b c) H) :
    PostE W fs Ψ Q (.ref s.heap.objs.size) { s with heap := s.heap.push { cls := .type "range", data := .fields #[.int a t, .int b u, .int c v] }, toks := tk } :=
  ⟨_, H, .rng a b c, S.push (s' := { s with heap := s.heap.push { cls := .type "range", data := .fields #[.int a t, .int b u, .int c v] }, toks := tk }) (k := .rng a b c) rfl ⟨⟨t, u, v, rfl⟩, hs⟩ rfl rfl rfl,
    S.pushKeep _, .rng (Psi.set_self _ _ _), h⟩
theorem small0 : smallI 0 := ⟨by decide, by decide⟩
theorem small1 : smallI 1 := ⟨by decide, by decide⟩

/-- all of a row of truths -/
theorem all_getD (bs : List Bool) : (List.range bs.length).all (fun i => bs.getD i false) = bs.all id := by
  induction bs with
  | nil => rfl
  | cons b bs ih => rw [List.length_cons, List.range_succ_eq_map, List.all_cons, List.all_map, List.all_cons, ← ih]; rfl
theorem bi_all {a : Addr} {bs : List Bool} (S : St W fs Ψ H s) (hh : A.handled = none) (hl : LstAt H a (bs.map .bool)) (h : Q (.bool (bs.all id)) H) : wpAny W.M A (call (.builtin "all") [.ref a]) (PostE W fs Ψ Q) E s := by
  obtain ⟨items, l1, r1, z, _⟩ := S.lstAt hl
  have e := bools_of r1
  rw [List.length_map] at z
  have hne : a ≠ s.heap.objs.size := Nat.ne_of_lt (l1.elim fun _ q => Heap.lt_size q.1)
  refine call_all_walk (wpAny_pyIter_list l1 ⟨_, _, _, _, _, _, fun i => bs.getD i false, rfl, Walks.list (A := A.in1) hh _ a hne items, ⟨⟨_, Heap.get?_push_size _ rfl, rfl, rfl⟩, l1.push _⟩, ?_, ?_⟩)
  · intro i v s2 QQ EE hP hQ
    have : items.toList[i]? = some v := (Array.getElem?_toList ..).trans hP
    rw [e, List.getElem?_map] at this
    obtain ⟨b, hb', rfl⟩ := Option.map_eq_some_iff.mp this
    have hQ' : QQ (bs.getD i false) s2 := hQ
    rw [List.getD_eq_getElem?_getD, hb'] at hQ'
    exact wpAny_truthy_bool hQ'
  · intro h' tk hk
    rw [z, all_getD]
    show PostE W fs Ψ Q _ { s with heap := h', toks := tk }
    exact .same S (fun b o e => hk b o (fun q => Nat.ne_of_lt (Heap.lt_size e) (List.mem_singleton.mp q)) (Heap.get?_push_of_some _ e)) .bool h
theorem keys_of : ∀ (l : List Value) (kvs : List (Int × Value)) (es : List (Int × MV)), l.length = kvs.length → All2 (ERel Ψ) kvs es →
    (∀ (j : Nat) (v : Value), l[j]? = some v → ∃ k x, kvs[j]? = some (k, x) ∧ (intKind W.prog W.w).is k v = true) → All2 (VRel Ψ) l (es.map fun e => MV.int e.1) := by
  intro l kvs es hl r
  induction r generalizing l with
  | nil => intro _; cases l with | nil => exact .nil | cons _ _ => cases hl
  | @cons p q kvs es h1 _ ih =>
    intro hv
    cases l with
    | nil => cases hl
    | cons v l =>
      obtain ⟨k, x, e1, e2⟩ := hv 0 v rfl
      obtain rfl := Option.some.inj e1
      obtain ⟨t', rfl⟩ := Value.isInt_shape e2
      refine .cons ?_ (ih l (Nat.succ.inj hl) fun j v' e => hv (j + 1) v' e)
      show VRel Ψ (.int k t') (.int q.1)
      rw [← h1.1]; exact .int
theorem bi_listD {a : Addr} {es : List (Int × MV)} (S : St W fs Ψ H s) (hh : A.handled = none) (hl : H a = some (.dct es)) (hb : es.length ≤ bigList) (h : New H Q (es.map fun e => .int e.1)) : wpAny W.M A (call (.type "list") [.ref a]) (PostE W fs Ψ Q) E s := by
  obtain ⟨kvs, d, r, ns⟩ := S.dct hl
  obtain ⟨ep, hda⟩ := d.dictAt
  refine PySem.W.kdl_call (PySem.W.kdl_dict ns) hh hda (by rw [r.length_eq]; exact big_le hb) fun h' tk acc' c' hk hS hacc => ?_
  exact .grown S hk (Nat.le_refl _) hS (keys_of _ _ _ (by rw [Array.length_toList]; exact hacc.1) r fun j v e => hacc.2 j v (by rw [← Array.getElem?_toList]; exact e)) (by rw [List.length_map]; exact hb) h

theorem all2_get {α β : Type} {R : α → β → Prop} : ∀ {l : List α} {r : List β}, l.length = r.length → (∀ (j : Nat) a b, l[j]? = some a → r[j]? = some b → R a b) → All2 R l r
  | [], [], _, _ => .nil
  | a :: l, b :: r, h, k => .cons (k 0 a b rfl rfl) (all2_get (Nat.succ.inj h) fun j a b e1 e2 => k (j + 1) a b e1 e2)
theorem bi_listR {x : Addr} {a b : Int} (S : St W fs Ψ H s) (hh : A.handled = none) (hl : Ψ x = some (.rng a b 1)) (hb : (rangeL a b 1).length ≤ bigList) (h : New H Q ((rangeL a b 1).map .int)) : wpAny W.M A (call (.type "list") [.ref x]) (PostE W fs Ψ Q) E s := by
  obtain ⟨⟨t, u, v, hr⟩, hs⟩ := rng_at S hl
  have hn := (rangeSize_le (a := a) (b := b) hs.2.2.2).1
  have hb' := big_le hb
  rw [rangeL_length] at hb'
  refine call_list_range hh hr (small_of hs) (Int.toNat_of_nonneg hn).symm hb' fun h' tk acc' c' hk hS hacc => ?_
  refine .grown S hk (Nat.le_refl _) hS ?_ (by rw [List.length_map]; exact hb) h
  refine all2_get (by rw [List.length_map, rangeL_length, Array.length_toList]; exact hacc.1) fun j y z e1 e2 => ?_
  obtain ⟨t', rfl⟩ := hacc.2 j y (by rw [← Array.getElem?_toList]; exact e1)
  rw [List.getElem?_map] at e2
  obtain ⟨i, hi, rfl⟩ := Option.map_eq_some_iff.mp e2
  unfold rangeL at hi
  rw [List.getElem?_map] at hi
  obtain ⟨m, hm, rfl⟩ := Option.map_eq_some_iff.mp hi
  obtain ⟨hm1, hm2⟩ := List.getElem?_eq_some_iff.mp hm
  rw [List.getElem_range] at hm2
  subst hm2
  rw [Int.mul_one, Int.one_mul]
  exact .int
theorem bi_max {a : Addr} {is : List Int} {m : Int} (S : St W fs Ψ H s) (hh : A.handled = none) (hl : LstAt H a (is.map .int)) (hm : m ∈ is) (hx : ∀ i ∈ is, i ≤ m) (h : Q (.int m) H) : wpAny W.M A (call (.builtin "max") [.ref a]) (PostE W fs Ψ Q) E s := by
  obtain ⟨items, l1, r1, z, _⟩ := S.lstAt hl
  have hI := intsAre_of r1
  obtain ⟨xs, e⟩ := hI.allInts.items
  have hns : is = xs.toList.map (·.1) := by rw [← hI.numsOf, ← nums_intItems, ← e]
  have hln : is.length = xs.size := by rw [hns, List.length_map, Array.length_toList]
  have hsz : 0 < xs.size := hln ▸ List.length_pos_of_mem hm
  have l2 : s.heap.IsList a (intItems xs) := by rw [← e]; exact l1
  refine max_intList hh l2 hsz fun v h' tk hv' hk => ?_
  obtain ⟨t, rfl⟩ := intItems_at hv'
  obtain ⟨g1, g2⟩ := argBest_gt (numAt xs) (xs.size - 1)
  obtain ⟨j, hj, hj'⟩ := PySem.mem_getD (hns ▸ hm)
  rw [List.length_map, Array.length_toList] at hj
  have m3 := g2 j (Nat.le_sub_one_of_lt hj)
  have hlt : argBest (fun i j => decide (numAt xs i > numAt xs j)) (xs.size - 1) < is.length := by omega
  have m2 := hx _ (PySem.getD_mem hlt)
  rw [PySem.numAt_eq, PySem.numAt_eq, ← hns] at m3
  rw [← hns] at hj'
  rw [hj'] at m3
  rw [PySem.numAt_eq, ← hns, Int.le_antisymm m2 m3]
  exact .same S hk .int h

theorem ints_all2 {l : List Value} {is : List Int} (h : PyProof.Rows.IntsAre l is) : All2 (VRel Ψ) l (is.map .int) := by
  induction h with
  | nil => exact .nil
  | cons _ _ _ ih => exact .cons .int ih
theorem op_bi {hd : Bool} {b : String} {args : List Value} {vs : List MV} (S : St W fs Ψ H s) (hv : All2 (VRel Ψ) args vs) (hh : hd = false → A.handled = none) (h : BiR hd H Q b vs) :
    wpAny W.M A (call (biVal b) args) (PostE W fs Ψ Q) E s := by
  cases h with
  | lenL h q =>
    obtain rfl := arg_ref hv
    obtain ⟨items, l, r, z, b⟩ := S.lstAt h
    exact Calls.call_len_list l (by rw [z]; unfold bigList at b; omega) (z.symm ▸ .int S q)
  | lenT q =>
    obtain ⟨v, rfl, h1⟩ := all2_1 hv
    obtain ⟨a, rfl, h2⟩ := vtup h1
    obtain ⟨items, ht, r, z, b⟩ := tup_at S h2
    exact PyProof.Rows.len_tuple ht (by rw [z]; unfold bigList at b; omega) (z.symm ▸ .int S q)
  | range1 h q => obtain ⟨t, rfl⟩ := arg_int hv; exact call_range_1 (newRange S ⟨small0, h, small1, by decide⟩ q)
  | range2 h0 h q => obtain ⟨t, u, rfl⟩ := arg_ints hv; exact call_range_2 (newRange S ⟨h0, h, small1, by decide⟩ q)
  | @min2 a b h q =>
    obtain ⟨t, u, rfl⟩ := arg_ints hv
    refine min_two_ints (hh h) fun h' tk hk => .same (mv := .int (minI a b)) S hk ?_ q
    unfold minI; split <;> exact .int
  | @max2 a b h q =>
    obtain ⟨t, u, rfl⟩ := arg_ints hv
    refine max_two_ints (hh h) fun h' tk hk => .same (mv := .int (maxI a b)) S hk ?_ q
    unfold maxI; split <;> exact .int
  | maxL h hl hm hx q => obtain rfl := arg_ref hv; exact bi_max S (hh h) hl hm hx q
  | allL h hl q => obtain rfl := arg_ref hv; exact bi_all S (hh h) hl q
  | listL h hl q =>
    obtain rfl := arg_ref hv
    obtain ⟨items, ⟨ol, l1, hc, n, hdt⟩, r1, z, b⟩ := S.lstAt hl
    exact call_list_seq _ (.inl rfl) l1 hc hdt (fun h' c' hk hS => .grown (tk := s.toks) S hk (Nat.le_refl _) hS r1 b q) (z ▸ big_le b)
  | sortedL hl ha q =>
    obtain rfl := arg_ref hv
    obtain ⟨items, l1, r1, z, b⟩ := S.lstAt hl
    refine sorted_asc (vs := items.toList) (by rw [Array.toArray_toList]; exact l1) (intsAre_of r1) ha (by rw [Array.length_toList, z]; exact big_le b) fun out ho => ?_
    obtain ⟨e, he⟩ := PyProof.Rows.sortedAll_at s.heap items.toList out
    exact .grown (tk := s.toks) S (fun _ _ => PyProof.Rows.sortedAll_old) (Nat.le_succ _) he (ints_all2 ho) b q
  | listD h hl hb q => obtain rfl := arg_ref hv; exact bi_listD S (hh h) hl hb q
  | listR h hb q =>
    obtain ⟨v, rfl, h1⟩ := all2_1 hv
    obtain ⟨x, rfl, ha⟩ := vrng h1
    exact bi_listR S (hh h) ha hb q
end
end Mine
end
section
set_option autoImplicit false
set_option linter.unusedVariables false
namespace Mine
open PySem

abbrev Names := List (Str × NameKind)
noncomputable def strEqL : List Nat → List Nat → Bool
  | [], [] => true
  | a :: r, b :: q => Nat.beq a b && strEqL r q
  | _, _ => false
noncomputable def strEq (a b : Str) : Bool := strEqL a.cps.toList b.cps.toList
theorem strEqL_eq : ∀ {a b : List Nat}, strEqL a b = true → a = b
  | [], [], _ => rfl
  | _ :: _, _ :: _, h => by
    simp only [strEqL, Bool.and_eq_true] at h
    rw [Nat.eq_of_beq_eq_true h.1, strEqL_eq h.2]
theorem strEq_eq {a b : Str} (h : strEq a b = true) : a = b := by
  obtain ⟨⟨a⟩⟩ := a; obtain ⟨⟨b⟩⟩ := b
  have := strEqL_eq (a := a) (b := b) h
  rw [this]

/-- what the text's written part says -/
structure Facts (W : Amb) (K : PySem.W.Frag) : Prop where
  inn : K.In W.h₀
  top : ∃ p loose mg mb, PySem.W.TopRead p loose mg mb W.h₀
  nolim : W.h₀.NoLimit

structure Cx (n : Nat) (hd : Bool) (A : Around) (fs : List Env) (env : Env) (nm : Names) : Prop where
  frames : A.frames = some fs
  top : ∃ e₀ outer, fs = e₀ :: outer ∧ e₀.frame = env.frame
  names : env.scope.names = nm
  hand : hd = false → A.handled = none
  depth : A.depth + n ≤ 900
  units : A.units + 4 * n ≤ 9000

section
variable {W : Amb} {fs : List Env} {Ψ Ψ₁ : Psi} {H : MH} {s : Shared} {A : Around} {Q : MV → MH → Prop} {X : String → MH → Prop}

theorem lift {t : Sem Value} (K : Keep none_ Ψ Ψ₁) (h : wpAny W.M A t (PostE W fs Ψ₁ Q) (PostX W fs Ψ₁ X) s) : wpAny W.M A t (PostE W fs Ψ Q) (PostX W fs Ψ X) s :=
  wpAny_mono h (fun _ _ x => x.from K) fun _ _ x => x.from K
end

variable (W : Amb) (K : PySem.W.Frag) (Δ : CallT) (n : Nat)

/-- the meaning of a node is sound -/
noncomputable def SndE (nm : Names) (e : ME) (x : PySem.Expr) : Prop :=
  ∀ {hd : Bool} {A : Around} {fs : List Env} {env : Env} {ρ : Sto} {Ψ : Psi} {H : MH} {s : Shared} {Q : MV → MH → Prop} {X : String → MH → Prop},
    Cx n hd A fs env nm → EnvRel Ψ env ρ → St W fs Ψ H s → wE Δ hd e ρ H Q X → wpAny W.M A (eval x env) (PostE W fs Ψ Q) (PostX W fs Ψ X) s
noncomputable def SndL (nm : Names) (es : MEs) (xs : List PySem.Expr) : Prop :=
  ∀ {hd : Bool} {A : Around} {fs : List Env} {env : Env} {ρ : Sto} {Ψ : Psi} {H : MH} {s : Shared} {pos : Pos} {Q : List MV → MH → Prop} {X : String → MH → Prop},
    Cx n hd A fs env nm → EnvRel Ψ env ρ → St W fs Ψ H s → wEs Δ hd es ρ H Q X → wpAny W.M A (spliced (backTo pos (starEach xs env))) (fun vs s' => vs.length = xs.length ∧ PostL W fs Ψ Q vs s') (PostX W fs Ψ X) s
/-- the meaning of a test is sound -/
noncomputable def SndT (nm : Names) (e : ME) (x : PySem.Expr) : Prop :=
  ∀ {hd : Bool} {A : Around} {fs : List Env} {env : Env} {ρ : Sto} {Ψ : Psi} {H : MH} {s : Shared} {k : Bool → MH → Prop} {X : String → MH → Prop},
    Cx n hd A fs env nm → EnvRel Ψ env ρ → St W fs Ψ H s → wE Δ hd e ρ H (asTruth k) X → wpAny W.M A (isTrue x env (eval x env)) (PostB W fs Ψ k) (PostX W fs Ψ X) s

noncomputable def varKind (k : Option NameKind) : Bool := match k with
  | some .local | some .cell | some .free => true
  | _ => false
noncomputable def isVar (nm : Names) (x : String) (id : Str) : Bool := strEq id (Str.ofString x) && varKind (nm.lookup id) && !(id == ("__debug__" : Str)) && !(id == ("__classdict__" : Str)) && !(x == ".0")
noncomputable def isGlob (nm : Names) (x : String) (id : Str) : Bool := strEq id (Str.ofString x) && (nm.lookup id == some .globalImplicit) && !(id == ("__debug__" : Str))

variable {W K Δ n}
section
variable {nm : Names}

/-- a step, and what follows on it -/
theorem monoE {A : Around} {fs : List Env} {Ψ : Psi} {s : Shared} {t : Sem Value} {Z : MV → MH → Prop} {X : String → MH → Prop} {R : Value → Shared → Prop} (h : wpAny W.M A t (PostE W fs Ψ Z) (PostX W fs Ψ X) s)
    (k : ∀ Ψ₁ H₁ mv v s₁, St W fs Ψ₁ H₁ s₁ → Keep none_ Ψ Ψ₁ → VRel Ψ₁ v mv → Z mv H₁ → R v s₁) : wpAny W.M A t R (PostX W fs Ψ X) s :=
  wpAny_mono h (fun v s₁ p => by cases p with | mk Ψ₁ H₁ mv S K hv q => exact k Ψ₁ H₁ mv v s₁ S K hv q) fun _ _ x => x
theorem monoB {A : Around} {fs : List Env} {Ψ : Psi} {s : Shared} {t : Sem Bool} {Z : Bool → MH → Prop} {X : String → MH → Prop} {R : Bool → Shared → Prop} (h : wpAny W.M A t (PostB W fs Ψ Z) (PostX W fs Ψ X) s)
    (k : ∀ Ψ₁ H₁ b s₁, St W fs Ψ₁ H₁ s₁ → Keep none_ Ψ Ψ₁ → Z b H₁ → R b s₁) : wpAny W.M A t R (PostX W fs Ψ X) s :=
  wpAny_mono h (fun v s₁ p => by cases p with | mk Ψ₁ H₁ S K q => exact k Ψ₁ H₁ v s₁ S K q) fun _ _ x => x

theorem snd_none {k : Nat} {pos : Pos} : SndE W Δ n nm .none (.Constant .none k pos) := by
  intro hd A fs env ρ Ψ H s Q X _ _ S h
  exact wpAny_pure (.now S .none h)
theorem snd_bool {b : Bool} {k : Nat} {pos : Pos} : SndE W Δ n nm (.bool b) (.Constant (.bool b) k pos) := by
  intro hd A fs env ρ Ψ H s Q X _ _ S h
  exact wpAny_pure (.now S .bool h)
theorem snd_int {i : Int} {k : Nat} {pos : Pos} : SndE W Δ n nm (.int i) (.Constant (.int i) k pos) := by
  intro hd A fs env ρ Ψ H s Q X _ _ S h
  exact wpAny_Constant_int (.int S h)
theorem snd_str {x : String} {k : Nat} {pos : Pos} : SndE W Δ n nm (.str x) (.Constant (.str (Str.ofString x)) k pos) := by
  intro hd A fs env ρ Ψ H s Q X _ _ S h
  exact Calls.Constant_str (.now (S.toks _) .str h)

theorem and_of {a b : Bool} (h : (a && b) = true) : a = true ∧ b = true := Bool.and_eq_true_iff.mp h
theorem not_of {a : Bool} (h : (!a) = true) : a = false := Bool.not_eq_true' a ▸ h
theorem varKind_of {k : Option NameKind} (h : varKind k = true) : k = some .local ∨ k = some .cell ∨ k = some .free := by
  unfold varKind at h; split at h
  · exact .inl rfl
  · exact .inr (.inl rfl)
  · exact .inr (.inr rfl)
  · exact absurd h Bool.noConfusion
theorem loadVar {hd : Bool} {A : Around} {fs : List Env} {env : Env} {ρ : Sto} {Ψ : Psi} {H : MH} {s : Shared} {E : Value → Shared → Prop} {QQ : Value → Shared → Prop} {x : String} {id : Str} {v : MV}
    (C : Cx n hd A fs env nm) (R : EnvRel Ψ env ρ) (S : St W fs Ψ H s) (hx : isVar nm x id = true) (hv : ρ x = some v) (h : ∀ w, VRel Ψ w v → QQ w s) : wpAny W.M A (loadName env id) QQ E s := by
  obtain ⟨hx, h5⟩ := and_of hx
  obtain ⟨hx, h4⟩ := and_of hx
  obtain ⟨hx, _⟩ := and_of hx
  obtain ⟨h1, h2⟩ := and_of hx
  obtain rfl := strEq_eq h1
  have cl : ∀ {c : Addr}, Ψ c = some (.cell (some v)) → ∃ o w, s.heap.get? c = some o ∧ o.data = .cell (some w) ∧ VRel Ψ w v := fun hm => by
    obtain ⟨o, ho, _, hf⟩ := S.typed _ _ hm
    exact (hf v rfl).elim fun w z => ⟨o, w, ho, z⟩
  rcases varKind_of (C.names ▸ h2) with hk | hk | hk
  · obtain ⟨m, hm, hmv⟩ := R.loc
    obtain ⟨o, ho, ents, k, hd', hs, hf⟩ := S.typed _ _ hm
    obtain ⟨w, hw, hr⟩ := hf x v (hmv x v (beq_eq_false_iff_ne.mp (not_of h5)) hk hv)
    exact wpAny_loadName_local R.kind hk ⟨o, ents, k, ho, hd', hs, fun _ => rfl⟩ hw (h w hr)
  · obtain ⟨c, hc, hm⟩ := R.val x v (.inl hk) hv
    obtain ⟨o, w, ho, hd', hr⟩ := cl hm
    exact wpAny_loadName_cell R.kind hk hc ⟨o, ho, hd'⟩ (h w hr)
  · obtain ⟨c, hc, hm⟩ := R.val x v (.inr hk) hv
    obtain ⟨o, w, ho, hd', hr⟩ := cl hm
    exact wpAny_loadName_free R.kind hk hc ⟨o, ho, hd'⟩ (h w hr) (not_of h4)

theorem snd_var {x : String} {id : Str} {pos : Pos} (hx : isVar nm x id = true) : SndE W Δ n nm (.var x) (.Name id pos) := by
  intro hd A fs env ρ Ψ H s Q X C R S h
  obtain ⟨v, hv, h⟩ := h
  exact wpAny_Name (loadVar C R S hx hv fun w hr => .now S hr h) (not_of (and_of (and_of (and_of hx).1).1).2)

/-- a global name of the text -/
theorem loadGlob {hd : Bool} {A : Around} {fs : List Env} {env : Env} {ρ : Sto} {Ψ : Psi} {H : MH} {s : Shared} {E : Value → Shared → Prop} {QQ : Value → Shared → Prop} {x : String} {id : Str} {pos : Pos} {v : Value}
    (F : Facts W K) (C : Cx n hd A fs env nm) (R : EnvRel Ψ env ρ) (S : St W fs Ψ H s) (hx : isGlob nm x id = true) (hv : PySem.W.nsIn K mainGlobals (Str.ofString x) = some (some v)) (h : QQ v s) : wpAny W.M A (eval (.Name id pos) env) QQ E s := by
  obtain ⟨hx, h3⟩ := and_of hx
  obtain ⟨h1, h2⟩ := and_of hx
  replace h3 := not_of h3
  replace h2 := C.names ▸ eq_of_beq h2
  obtain rfl := strEq_eq h1
  obtain ⟨p, loose, mg, mb, T⟩ := F.top
  refine Calls.Name_function_global R.kind h2 (Calls.loadGlobal_global (mg := mg) ?_ (PySem.W.mg_of F.inn T.g hv) h) h3
  rw [R.glob]
  exact T.g.keeps S.base
/-- a built-in name -/
theorem loadBlt {hd : Bool} {A : Around} {fs : List Env} {env : Env} {ρ : Sto} {Ψ : Psi} {H : MH} {s : Shared} {E : Value → Shared → Prop} {QQ : Value → Shared → Prop} {x : String} {id : Str} {pos : Pos} {v : Value}
    (F : Facts W K) (C : Cx n hd A fs env nm) (R : EnvRel Ψ env ρ) (S : St W fs Ψ H s) (hx : isGlob nm x id = true) (hv : PySem.W.nsIn K mainGlobals (Str.ofString x) = some none) (hb : bootBuiltins (Str.ofString x) = some v) (hn : Str.ofString x ≠ "__name__") (h : QQ v s) : wpAny W.M A (eval (.Name id pos) env) QQ E s := by
  obtain ⟨hx, h3⟩ := and_of hx
  obtain ⟨h1, h2⟩ := and_of hx
  replace h3 := not_of h3
  replace h2 := C.names ▸ eq_of_beq h2
  obtain rfl := strEq_eq h1
  obtain ⟨p, loose, mg, mb, T⟩ := F.top
  refine Calls.Name_function_global R.kind h2 (Calls.loadGlobal_builtin (mg := mg) (mb := mb) ?_ (PySem.W.mg_none_of F.inn T.g hv) ?_ ((T.builtins _ hn).trans hb) h) h3
  · rw [R.glob]; exact T.g.keeps S.base
  · rw [R.blt]; exact T.b.keeps S.base

theorem snd_bin {op : BOp} {l r : ME} {l' r' : PySem.Expr} {pos : Pos} (hl : SndE W Δ n nm l l') (hr : SndE W Δ n nm r r') : SndE W Δ n nm (.bin op l r) (.BinOp l' (opOf op) r' pos) := by
  intro hd A fs env ρ Ψ H s Q X C R S h
  refine wpAny_BinOp (monoE (hl C R S h) fun Ψ₁ H₁ ma a s₁ S₁ K₁ va h₁ => ?_)
  refine wpAny_mono (monoE (hr C (R.keep K₁) S₁ h₁) fun Ψ₂ H₂ mb b s₂ S₂ K₂ vb h₂ => ?_) (fun _ _ x => x) fun _ _ x => x.from K₁
  exact lift (K₁.trans K₂) (op_bin S₂ (va.mono K₂.fix) vb h₂)
theorem snd_neg {e : ME} {x : PySem.Expr} {pos : Pos} (he : SndE W Δ n nm e x) : SndE W Δ n nm (.neg e) (.UnaryOp .USub x pos) := by
  intro hd A fs env ρ Ψ H s Q X C R S h
  refine wpAny_bind (monoE (he C R S h) fun Ψ₁ H₁ ma a s₁ S₁ K₁ va h₁ => ?_)
  obtain ⟨i, rfl, h₁⟩ := h₁
  obtain ⟨t, rfl⟩ := vint va
  exact lift K₁ (wpAny_bind (wpAny_standAt (wpAny_holding (P.neg_int (.int S₁ h₁)))))
theorem snd_not {e : ME} {x : PySem.Expr} {pos : Pos} (he : SndE W Δ n nm e x) : SndE W Δ n nm (.not e) (.UnaryOp .Not x pos) := by
  intro hd A fs env ρ Ψ H s Q X C R S h
  refine wpAny_bind (monoE (he C R S h) fun Ψ₁ H₁ ma a s₁ S₁ K₁ va h₁ => ?_)
  obtain ⟨b, rfl, h₁⟩ := asTruth_of h₁
  obtain rfl := vbool va
  exact lift K₁ (wpAny_bind (wpAny_standAt (wpAny_holding (PyProof.Rows.not_of (wpAny_truthy_bool (.now S₁ .bool h₁))))))

/-- a row of operands: where it stops -/
noncomputable def stopAt : BoolOp → Bool
  | .And => false
  | .Or => true
theorem boolOp_cons {A : Around} {fs : List Env} {Ψ : Psi} {s : Shared} {Q : MV → MH → Prop} {X : String → MH → Prop} {pos : Pos} {op : BoolOp} {t t' : Sem Value} {rest : List (Sem Value)} {Z : Bool → MH → Prop}
    (h : wpAny W.M A t (PostE W fs Ψ (asTruth Z)) (PostX W fs Ψ X) s)
    (k : ∀ Ψ₁ H₁ s₁ b, St W fs Ψ₁ H₁ s₁ → Keep none_ Ψ Ψ₁ → Z b H₁ → if b = stopAt op then Q (.bool b) H₁ else wpAny W.M A (boolOp pos op (t' :: rest)) (PostE W fs Ψ₁ Q) (PostX W fs Ψ₁ X) s₁) :
    wpAny W.M A (boolOp pos op (t :: t' :: rest)) (PostE W fs Ψ Q) (PostX W fs Ψ X) s := by
  refine wpAny_bind (monoE h fun Ψ₁ H₁ mv v s₁ S₁ K₁ va h₁ => ?_)
  obtain ⟨b, rfl, h₁⟩ := asTruth_of h₁
  obtain rfl := vbool va
  have := k Ψ₁ H₁ s₁ b S₁ K₁ h₁
  refine wpAny_bind (wpAny_standAt (wpAny_bind (wpAny_holding (wpAny_truthy_bool ?_))))
  cases op <;> cases b <;> first
    | exact wpAny_pure ⟨Ψ₁, H₁, .bool _, S₁, K₁, .bool, this⟩
    | exact lift K₁ this

/-- the meaning of a row of operands, by its operator -/
noncomputable def wB (Δ : CallT) (hd : Bool) (op : BoolOp) (es : MEs) (ρ : Sto) (H : MH) (Q : MV → MH → Prop) (X : String → MH → Prop) : Prop := match op with
  | .And => wAnd Δ hd es ρ H Q X
  | .Or => wOr Δ hd es ρ H Q X
theorem wB_one {hd : Bool} {op : BoolOp} {e : ME} {ρ : Sto} {H : MH} {Q : MV → MH → Prop} {X : String → MH → Prop} (h : wB Δ hd op (.cons e .nil) ρ H Q X) : wE Δ hd e ρ H Q X := by cases op <;> exact h
theorem wB_cons {hd : Bool} {op : BoolOp} {e e' : ME} {es : MEs} {ρ : Sto} {H : MH} {Q : MV → MH → Prop} {X : String → MH → Prop} (h : wB Δ hd op (.cons e (.cons e' es)) ρ H Q X) :
    ∃ Z, wE Δ hd e ρ H (asTruth Z) X ∧ ∀ b H₁, Z b H₁ → if b = stopAt op then Q (.bool b) H₁ else wB Δ hd op (.cons e' es) ρ H₁ Q X := by
  cases op
  · exact ⟨_, h, fun b H₁ z => by cases b <;> exact z⟩
  · exact ⟨_, h, fun b H₁ z => by cases b <;> exact z⟩
noncomputable def SndAnd (nm : Names) (es : MEs) (xs : List PySem.Expr) : Prop :=
  ∀ {hd : Bool} {A : Around} {fs : List Env} {env : Env} {ρ : Sto} {Ψ : Psi} {H : MH} {s : Shared} {pos : Pos} {op : BoolOp} {Q : MV → MH → Prop} {X : String → MH → Prop},
    Cx n hd A fs env nm → EnvRel Ψ env ρ → St W fs Ψ H s → wB Δ hd op es ρ H Q X → wpAny W.M A (boolOp pos op (evalEach xs env)) (PostE W fs Ψ Q) (PostX W fs Ψ X) s
theorem sndAnd_one {e : ME} {x : PySem.Expr} (he : SndE W Δ n nm e x) : SndAnd (W := W) (Δ := Δ) (n := n) nm (.cons e .nil) [x] := fun C R S h => he C R S (wB_one h)
theorem sndAnd_cons {e e' : ME} {es : MEs} {x x' : PySem.Expr} {xs : List PySem.Expr} (he : SndE W Δ n nm e x) (hr : SndAnd (W := W) (Δ := Δ) (n := n) nm (.cons e' es) (x' :: xs)) : SndAnd (W := W) (Δ := Δ) (n := n) nm (.cons e (.cons e' es)) (x :: x' :: xs) := by
  intro hd A fs env ρ Ψ H s pos op Q X C R S h
  obtain ⟨Z, h1, h2⟩ := wB_cons h
  refine boolOp_cons (rest := evalEach xs env) (he C R S h1) fun Ψ₁ H₁ s₁ b S₁ K₁ z => ?_
  have := h2 b H₁ z
  split at this
  · rename_i q; rw [if_pos q]; exact this
  · rename_i q; rw [if_neg q]; exact hr C (R.keep K₁) S₁ this
theorem snd_bop {op : BoolOp} {es : MEs} {e : ME} {xs : List PySem.Expr} {pos : Pos} (h : SndAnd (W := W) (Δ := Δ) (n := n) nm es xs) (he : ∀ {hd ρ H Q X}, wE Δ hd e ρ H Q X → wB Δ hd op es ρ H Q X) : SndE W Δ n nm e (.BoolOp op xs pos) := fun C R S z => h C R S (he z)

/-! tests -/
theorem sndT_not {e : ME} {x : PySem.Expr} {pos : Pos} (he : SndT W Δ n nm e x) : SndT W Δ n nm (.not e) (.UnaryOp .Not x pos) := by
  intro hd A fs env ρ Ψ H s k X C R S h
  exact PyProof.Rows.isTrue_not (monoB (he (k := fun b H => k (!b) H) C R S h) fun Ψ' H' b s' S K' q => ⟨Ψ', H', S, K', q⟩)
theorem sndT_plain {e : ME} {x : PySem.Expr} (he : SndE W Δ n nm e x) (hp : ∀ env whole, isTrue x env whole = (do let v ← whole; standAt x.pos; holding [v] (truthy v))) : SndT W Δ n nm e x := by
  intro hd A fs env ρ Ψ H s k X C R S h
  rw [hp]
  refine wpAny_bind (monoE (he C R S h) fun Ψ₁ H₁ mv v s₁ S₁ K₁ va h₁ => ?_)
  obtain ⟨b, rfl, h₁⟩ := asTruth_of h₁
  obtain rfl := vbool va
  exact wpAny_bind (wpAny_standAt (wpAny_holding (wpAny_truthy_bool ⟨Ψ₁, H₁, S₁, K₁, h₁⟩)))
theorem PostB.from {A : Around} {fs : List Env} {Ψ Ψ₁ : Psi} {k : Bool → MH → Prop} {X : String → MH → Prop} {s : Shared} {t : Sem Bool} (K : Keep none_ Ψ Ψ₁) (h : wpAny W.M A t (PostB W fs Ψ₁ k) (PostX W fs Ψ₁ X) s) : wpAny W.M A t (PostB W fs Ψ k) (PostX W fs Ψ X) s :=
  wpAny_mono (monoB h fun Ψ' H' b s' S K' q => (⟨Ψ', H', S, K.trans K', q⟩ : PostB W fs Ψ k b s')) (fun _ _ x => x) fun _ _ x => x.from K
/-- a row of tests -/
noncomputable def SndAllT (nm : Names) (es : MEs) (xs : List PySem.Expr) : Prop :=
  ∀ {hd : Bool} {A : Around} {fs : List Env} {env : Env} {ρ : Sto} {Ψ : Psi} {H : MH} {s : Shared} {op : BoolOp} {k : Bool → MH → Prop} {X : String → MH → Prop},
    Cx n hd A fs env nm → EnvRel Ψ env ρ → St W fs Ψ H s → wB Δ hd op es ρ H (asTruth k) X → wpAny W.M A (allTrue op xs env) (PostB W fs Ψ k) (PostX W fs Ψ X) s
theorem allTrue_cons {M : Model} {A : Around} {op : BoolOp} {x : PySem.Expr} {xs : List PySem.Expr} {env : Env} {Q : Bool → Shared → Prop} {E : Value → Shared → Prop} {s : Shared}
    (h : wpAny M A (isTrue x env (eval x env)) (fun b s' => if b = stopAt op then Q b s' else wpAny M A (allTrue op xs env) Q E s') E s) : wpAny M A (allTrue op (x :: xs) env) Q E s := by
  cases op
  · exact wpAny_allTrue_And_cons (wpAny_mono h (fun b s' q => by cases b <;> exact q) fun _ _ x => x)
  · exact wpAny_allTrue_Or_cons (wpAny_mono h (fun b s' q => by cases b <;> exact q) fun _ _ x => x)
theorem allTrue_nil {M : Model} {A : Around} {op : BoolOp} {env : Env} {Q : Bool → Shared → Prop} {E : Value → Shared → Prop} {s : Shared} (h : Q (!stopAt op) s) : wpAny M A (allTrue op [] env) Q E s := by
  cases op
  · exact wpAny_allTrue_And_nil h
  · exact wpAny_allTrue_Or_nil h
theorem bne_not {a b : Bool} (h : ¬ a = b) : a = !b := by cases a <;> cases b <;> first | rfl | exact absurd rfl h
theorem sndAllT_one {e : ME} {x : PySem.Expr} (he : SndT W Δ n nm e x) : SndAllT (W := W) (Δ := Δ) (n := n) nm (.cons e .nil) [x] := by
  intro hd A fs env ρ Ψ H s op k X C R S h
  refine allTrue_cons (wpAny_mono (he C R S (wB_one h)) (fun b s₁ h₁ => ?_) fun _ _ x => x)
  by_cases q : b = stopAt op
  · rw [if_pos q]; exact h₁
  · rw [if_neg q]; exact allTrue_nil (bne_not q ▸ h₁)
theorem sndAllT_cons {e e' : ME} {es : MEs} {x x' : PySem.Expr} {xs : List PySem.Expr} (he : SndT W Δ n nm e x) (hr : SndAllT (W := W) (Δ := Δ) (n := n) nm (.cons e' es) (x' :: xs)) : SndAllT (W := W) (Δ := Δ) (n := n) nm (.cons e (.cons e' es)) (x :: x' :: xs) := by
  intro hd A fs env ρ Ψ H s op k X C R S h
  obtain ⟨Z, h1, h2⟩ := wB_cons h
  refine allTrue_cons (monoB (he C R S h1) fun Ψ₁ H₁ b s₁ S₁ K₁ z => ?_)
  have := h2 b H₁ z
  by_cases q : b = stopAt op
  · rw [if_pos q] at this ⊢; exact ⟨Ψ₁, H₁, S₁, K₁, this⟩
  · rw [if_neg q] at this ⊢; exact PostB.from K₁ (hr C (R.keep K₁) S₁ this)
theorem sndT_bop {op : BoolOp} {es : MEs} {e : ME} {xs : List PySem.Expr} {pos : Pos} (h : SndAllT (W := W) (Δ := Δ) (n := n) nm es xs) (he : ∀ {hd ρ H Q X}, wE Δ hd e ρ H Q X → wB Δ hd op es ρ H Q X) : SndT W Δ n nm e (.BoolOp op xs pos) := fun C R S z => wpAny_isTrue_BoolOp (h C R S (he z))
end
end Mine
end
section
set_option autoImplicit false
set_option linter.unusedVariables false
namespace Mine
open PySem

section
variable {W : Amb} {K : PySem.W.Frag} {Δ : CallT} {n : Nat} {nm : Names}

theorem wpAny_release {M : Model} {A : Around} {E : Value → Shared → Prop} {s : Shared} {vs keep : List Value} {Q : Unit → Shared → Prop} (h : Q () s) : wpAny M A (release vs keep) Q E s := fun Γ p _ => by
  rw [Sem.wp_release]; exact h

/-! comparisons -/
noncomputable def notSet : PySem.Expr → Bool
  | .Set .. => false
  | _ => true
theorem notSet_marks {op : CmpOp} {e : PySem.Expr} (h : notSet e = true) : behindInMarks op e = false := by
  cases e <;> first | rfl | exact absurd h Bool.noConfusion

noncomputable def SndC (W : Amb) (Δ : CallT) (n : Nat) (nm : Names) (c : MCs) (ops : List CmpOp) (xs : List PySem.Expr) : Prop :=
  ∀ {hd : Bool} {A : Around} {fs : List Env} {env : Env} {ρ : Sto} {Ψ : Psi} {H : MH} {s : Shared} {pos : Pos} {a : Value} {ma : MV} {X : String → MH → Prop},
    Cx n hd A fs env nm → EnvRel Ψ env ρ → St W fs Ψ H s → VRel Ψ a ma →
    (∀ {Q : MV → MH → Prop}, wC Δ hd c ma ρ H Q X → wpAny W.M A (compareChain pos a ops (markedEach ops xs (evalEach xs env))) (PostE W fs Ψ Q) (PostX W fs Ψ X) s) ∧
    (∀ {k : Bool → MH → Prop}, wC Δ hd c ma ρ H (asTruth k) X → wpAny W.M A (testChain pos a ops (markedEach ops xs (evalEach xs env))) (PostB W fs Ψ k) (PostX W fs Ψ X) s)
theorem units_of {hd : Bool} {A : Around} {fs : List Env} {env : Env} (C : Cx n hd A fs env nm) : A.units + 65 < cLine := by have := C.units; unfold cLine; omega
/-- a comparison's word is a truth -/
theorem cmp_step {A : Around} {fs : List Env} {Ψ Ψ₁ : Psi} {H₁ : MH} {s₁ : Shared} {op : COp} {a b : Value} {ma mb : MV} {r : Bool} {X : String → MH → Prop} {R : Value → Shared → Prop}
    (S₁ : St W fs Ψ₁ H₁ s₁) (va : VRel Ψ₁ a ma) (vb : VRel Ψ₁ b mb) (hr : CmpR H₁ op ma mb r) (hu : A.units + 65 < cLine) (K₁ : Keep none_ Ψ Ψ₁) (k : ∀ Ψ₂ s₂, St W fs Ψ₂ H₁ s₂ → Keep none_ Ψ₁ Ψ₂ → R (.bool r) s₂) : wpAny W.M A (compareOp (copOf op) a b) R (PostX W fs Ψ X) s₁ := by
  refine wpAny_mono (op_cmp (Q := fun mv H => mv = .bool r ∧ H = H₁) (E := PostX W fs Ψ X) S₁ va vb hr hu ⟨rfl, rfl⟩) (fun v s₂ p => ?_) fun _ _ x => x
  cases p with
  | mk Ψ₂ H₂ mv S K hv q =>
    obtain ⟨rfl, rfl⟩ := q
    obtain rfl := vbool hv
    exact k _ _ S K
theorem sndC_one {op : COp} {e : ME} {x : PySem.Expr} (F : Facts W K) (hx : notSet x = true) (he : SndE W Δ n nm e x) : SndC W Δ n nm (.cons op e .nil) [copOf op] [x] := by
  intro hd A fs env ρ Ψ H s pos a ma X C R S va
  have e1 : markedEach [copOf op] [x] (evalEach [x] env) = [eval x env] := by
    show [markedBehindIn (copOf op) x (eval x env)] = _
    rw [markedBehindIn_of_false (notSet_marks hx)]
  rw [e1]
  refine ⟨fun {Q} h => ?_, fun {k} h => ?_⟩
  · refine wpAny_bind (wpAny_holding (monoE (he C R S h) fun Ψ₁ H₁ mb b s₁ S₁ K₁ vb h₁ => ?_))
    obtain ⟨r, hr, h₁⟩ := h₁
    exact wpAny_bind (wpAny_standAt (wpAny_operating (cmp_step S₁ (va.mono K₁.fix) vb hr (units_of C) K₁ fun Ψ₂ s₂ S₂ K₂ => ⟨Ψ₂, H₁, .bool r, S₂, K₁.trans K₂, .bool, h₁⟩)))
  · refine wpAny_bind (wpAny_holding (monoE (he C R S h) fun Ψ₁ H₁ mb b s₁ S₁ K₁ vb h₁ => ?_))
    obtain ⟨r, hr, h₁⟩ := h₁
    exact wpAny_bind (wpAny_standAt (wpAny_bind (wpAny_operating (cmp_step S₁ (va.mono K₁.fix) vb hr (units_of C) K₁ fun Ψ₂ s₂ S₂ K₂ => wpAny_holding (wpAny_truthy_bool ⟨Ψ₂, H₁, S₂, K₁.trans K₂, h₁⟩)))))
theorem chain_cons {pos : Pos} {a : Value} {o o' : CmpOp} {ops : List CmpOp} {t : Sem Value} (ts : List (Sem Value)) : compareChain pos a (o :: o' :: ops) (t :: ts) = (do
      let rv ← holding [a] t
      standAt pos
      let c ← holding [a, rv] (compareOp o a rv)
      release [a, rv] [c]
      if ← holding [c, rv] (truthy c) then compareChain pos rv (o' :: ops) ts else pure c) := by cases ts <;> rfl
theorem test_cons {pos : Pos} {a : Value} {o o' : CmpOp} {ops : List CmpOp} {t : Sem Value} (ts : List (Sem Value)) : testChain pos a (o :: o' :: ops) (t :: ts) = (do
      let rv ← holding [a] t
      standAt pos
      let c ← holding [a, rv] (compareOp o a rv)
      release [a, rv] [c]
      if ← holding [c, rv] (truthy c) then testChain pos rv (o' :: ops) ts else pure false) := by cases ts <;> rfl
theorem sndC_cons {op op' : COp} {e e' : ME} {c : MCs} {x x' : PySem.Expr} {o' : CmpOp} {ops : List CmpOp} {xs : List PySem.Expr} (F : Facts W K) (he : SndE W Δ n nm e x) (hr : SndC W Δ n nm (.cons op' e' c) (o' :: ops) (x' :: xs)) :
    SndC W Δ n nm (.cons op e (.cons op' e' c)) (copOf op :: o' :: ops) (x :: x' :: xs) := by
  intro hd A fs env ρ Ψ H s pos a ma X C R S va
  have e1 : markedEach (copOf op :: o' :: ops) (x :: x' :: xs) (evalEach (x :: x' :: xs) env) = eval x env :: markedEach (o' :: ops) (x' :: xs) (evalEach (x' :: xs) env) := by
    cases ops <;> cases xs <;> rfl
  rw [e1]
  refine ⟨fun {Q} h => ?_, fun {k} h => ?_⟩
  · rw [chain_cons]
    refine wpAny_bind (wpAny_holding (monoE (he C R S h) fun Ψ₁ H₁ mb b s₁ S₁ K₁ vb h₁ => ?_))
    obtain ⟨r, hc, h₁⟩ := h₁
    refine wpAny_bind (wpAny_standAt (wpAny_bind (wpAny_holding (cmp_step S₁ (va.mono K₁.fix) vb hc (units_of C) K₁ fun Ψ₂ s₂ S₂ K₂ => wpAny_bind (wpAny_release (wpAny_bind (wpAny_holding (wpAny_truthy_bool ?_))))))))
    cases r with
    | true => exact lift (K₁.trans K₂) ((hr C (R.keep (K₁.trans K₂)) S₂ (vb.mono K₂.fix)).1 h₁)
    | false => exact wpAny_pure ⟨Ψ₂, H₁, .bool false, S₂, K₁.trans K₂, .bool, h₁⟩
  · rw [test_cons]
    refine wpAny_bind (wpAny_holding (monoE (he C R S h) fun Ψ₁ H₁ mb b s₁ S₁ K₁ vb h₁ => ?_))
    obtain ⟨r, hc, h₁⟩ := h₁
    refine wpAny_bind (wpAny_standAt (wpAny_bind (wpAny_holding (cmp_step S₁ (va.mono K₁.fix) vb hc (units_of C) K₁ fun Ψ₂ s₂ S₂ K₂ => wpAny_bind (wpAny_release (wpAny_bind (wpAny_holding (wpAny_truthy_bool ?_))))))))
    cases r with
    | true => exact PostB.from (K₁.trans K₂) ((hr C (R.keep (K₁.trans K₂)) S₂ (vb.mono K₂.fix)).2 h₁)
    | false => exact wpAny_pure ⟨Ψ₂, H₁, S₂, K₁.trans K₂, h₁⟩
theorem snd_cmp {l : ME} {c : MCs} {l' : PySem.Expr} {ops : List CmpOp} {xs : List PySem.Expr} {pos : Pos} (hl : SndE W Δ n nm l l') (hc : SndC W Δ n nm c ops xs) : SndE W Δ n nm (.cmp l c) (.Compare l' ops xs pos) := by
  intro hd A fs env ρ Ψ H s Q X C R S h
  exact wpAny_bind (monoE (hl C R S h) fun Ψ₁ H₁ ma a s₁ S₁ K₁ va h₁ => lift K₁ ((hc C (R.keep K₁) S₁ va).1 h₁))
theorem sndT_cmp {l : ME} {c : MCs} {l' : PySem.Expr} {ops : List CmpOp} {xs : List PySem.Expr} {pos : Pos} (hl : SndE W Δ n nm l l') (hc : SndC W Δ n nm c ops xs) : SndT W Δ n nm (.cmp l c) (.Compare l' ops xs pos) := by
  intro hd A fs env ρ Ψ H s k X C R S h
  exact wpAny_bind (monoE (hl C R S h) fun Ψ₁ H₁ ma a s₁ S₁ K₁ va h₁ => PostB.from K₁ ((hc C (R.keep K₁) S₁ va).2 h₁))

/-! rows of expressions, displays, items -/
noncomputable def notStarred : PySem.Expr → Bool
  | .Starred .. => false
  | _ => true
theorem starEach_cons {x : PySem.Expr} {xs : List PySem.Expr} {env : Env} (h : notStarred x = true) : starEach (x :: xs) env = (false, eval x env) :: starEach xs env := by
  cases x <;> first | rfl | exact absurd h Bool.noConfusion
theorem sndL_nil : SndL W Δ n nm .nil [] := by
  intro hd A fs env ρ Ψ H s pos Q X C R S h
  exact wpAny_pure ⟨rfl, Ψ, H, [], S, .refl _ _, .nil, h⟩
theorem sndL_cons {e : ME} {es : MEs} {x : PySem.Expr} {xs : List PySem.Expr} (hx : notStarred x = true) (he : SndE W Δ n nm e x) (hr : SndL W Δ n nm es xs) : SndL W Δ n nm (.cons e es) (x :: xs) := by
  intro hd A fs env ρ Ψ H s pos Q X C R S h
  rw [starEach_cons hx]
  refine Calls.spliced_cons (monoE (he C R S h) fun Ψ₁ H₁ ma a s₁ S₁ K₁ va h₁ => ?_)
  refine wpAny_mono (hr (pos := pos) C (R.keep K₁) S₁ h₁) (fun vs s₂ h₂ => ?_) fun _ _ x => x.from K₁
  obtain ⟨hl, Ψ₂, H₂, mvs, S₂, K₂, vb, h₂⟩ := h₂
  exact ⟨congrArg Nat.succ hl, Ψ₂, H₂, ma :: mvs, S₂, K₁.trans K₂, .cons (va.mono K₂.fix) vb, h₂⟩
/-- a row of values, and what follows on it -/
theorem monoL {A : Around} {fs : List Env} {Ψ : Psi} {s : Shared} {t : Sem (List Value)} {m : Nat} {Z : List MV → MH → Prop} {X : String → MH → Prop} {R : List Value → Shared → Prop} (h : wpAny W.M A t (fun vs s' => vs.length = m ∧ PostL W fs Ψ Z vs s') (PostX W fs Ψ X) s)
    (k : ∀ Ψ₁ H₁ mvs vs s₁, vs.length = m → St W fs Ψ₁ H₁ s₁ → Keep none_ Ψ Ψ₁ → All2 (VRel Ψ₁) vs mvs → Z mvs H₁ → R vs s₁) : wpAny W.M A t R (PostX W fs Ψ X) s :=
  wpAny_mono h (fun v s₁ p => by cases p.2 with | mk Ψ₁ H₁ mv S K hv q => exact k Ψ₁ H₁ mv v s₁ p.1 S K hv q) fun _ _ x => x
theorem len_small {α : Type} {vs : List α} {m : Nat} (h : vs.length = m) (hs : m ≤ 1000) : vs.toArray.size ≤ sizeLine := by rw [List.size_toArray, h]; exact Nat.le_trans hs (by decide)
theorem len_big {α β : Type} {R : α → β → Prop} {vs : List α} {ws : List β} {m : Nat} (r : All2 R vs ws) (h : vs.length = m) (hs : m ≤ 1000) : ws.length ≤ bigList := by rw [← r.length_eq, h]; exact Nat.le_trans hs (by decide)
theorem snd_list {es : MEs} {xs : List PySem.Expr} {pos : Pos} (hl : SndL W Δ n nm es xs) (hsz : xs.length ≤ 1000) : SndE W Δ n nm (.list es) (.List xs pos) := by
  intro hd A fs env ρ Ψ H s Q X C R S h
  exact PyProof.Rows.List_ (monoL (hl C R S h) fun Ψ₁ H₁ mvs vs s₁ hlen S₁ K₁ va h₁ => lift K₁ (wpAny_newObj_type (.newList S₁ va (len_big va hlen hsz) h₁) (len_small hlen hsz)))
theorem newTuple_post {A : Around} {fs : List Env} {Ψ : Psi} {H : MH} {s : Shared} {Q : MV → MH → Prop} {E : Value → Shared → Prop} {vs : List Value} {mvs : List MV} {m : Nat} (S : St W fs Ψ H s) (va : All2 (VRel Ψ) vs mvs) (h : Q (.tup mvs) H) (hl : vs.length = m) (hsz : m ≤ 1000) :
    wpAny W.M A (newTuple vs) (PostE W fs Ψ Q) E s :=
  wpAny_newObj_type ⟨_, H, .tup mvs, S.push (s' := { s with heap := s.heap.push { cls := .type "tuple", data := .seq vs.toArray } }) (k := .tup mvs) rfl ⟨vs.toArray, 0, rfl, va.mono fun _ _ => VRel.mono (.set_new _ S.none_at), len_big va hl hsz⟩ rfl rfl rfl, S.pushKeep _, .tup (Psi.set_self _ _ _), h⟩ (len_small hl hsz)
theorem snd_tup {es : MEs} {xs : List PySem.Expr} {k : Nat} {pos : Pos} (hl : SndL W Δ n nm es xs) (hsz : xs.length ≤ 1000) : SndE W Δ n nm (.tup es) (.Tuple xs k pos) := by
  intro hd A fs env ρ Ψ H s Q X C R S h
  exact PyProof.Rows.Tuple_ (monoL (hl C R S h) fun Ψ₁ H₁ mvs vs s₁ hlen S₁ K₁ va h₁ => lift K₁ (newTuple_post S₁ va h₁ hlen hsz))
theorem snd_dict {pos : Pos} : SndE W Δ n nm .dict (.Dict [] [] pos) := by
  intro hd A fs env ρ Ψ H s Q X C R S h
  show wpAny W.M A (do standAt pos; newDict) _ _ s
  refine wpAny_bind (wpAny_standAt ?_)
  refine wpAny_newObj_type ?_
  have S' := S.push (s' := { s with heap := s.heap.push { cls := .type "dict", data := .dict #[] } }) (k := .dct []) rfl
    ⟨[], ⟨#[], 0, ⟨rfl, rfl, rfl⟩, rfl, fun _ he => by simp at he, .nil, .nil⟩, .nil⟩ rfl rfl rfl
  exact ⟨_, _, .ref s.heap.objs.size, S'.shown (o := .dct []) (Psi.set_self _ _ _), S.pushKeep _, .ref, h _ S.free_at⟩

noncomputable def notSlice : PySem.Expr → Bool
  | .Slice .. => false
  | _ => true
theorem notSlice_sub {y : PySem.Expr} (h : notSlice y = true) : ∀ o i, subscripted y false o i = operate [o, i] (getItem o i) := fun o i => by cases y <;> first | rfl | exact absurd h Bool.noConfusion
/-- a slice's bound: none, or an expression -/
noncomputable def SndO (W : Amb) (Δ : CallT) (n : Nat) (nm : Names) (e : ME) (x : Option PySem.Expr) : Prop := match x with
  | none => e = .none
  | some x => SndE W Δ n nm e x
theorem valueOrNone_ {e : ME} {x : Option PySem.Expr} (h : SndO W Δ n nm e x) {hd : Bool} {A : Around} {fs : List Env} {env : Env} {ρ : Sto} {Ψ : Psi} {H : MH} {s : Shared} {Q : MV → MH → Prop} {X : String → MH → Prop}
    (C : Cx n hd A fs env nm) (R : EnvRel Ψ env ρ) (S : St W fs Ψ H s) (z : wE Δ hd e ρ H Q X) : wpAny W.M A (valueOrNone (evalOpt x env)) (PostE W fs Ψ Q) (PostX W fs Ψ X) s := by
  cases x with
  | none => obtain rfl : e = .none := h; exact wpAny_pure (.now S .none z)
  | some x => exact h C R S z
theorem snd_slice {e lo hi : ME} {x : PySem.Expr} {l u : Option PySem.Expr} {pos pos' : Pos} (he : SndE W Δ n nm e x) (hl : SndO W Δ n nm lo l) (hu : SndO W Δ n nm hi u) : SndE W Δ n nm (.slice e lo hi) (.Subscript x (.Slice l u none pos') pos) := by
  intro hd A fs env ρ Ψ H s Q X C R S h
  refine PyProof.Rows.Subscript_ (monoE (he C R S h) fun Ψ₁ H₁ ma a s₁ S₁ K₁ va h₁ => ?_)
  refine wpAny_bind (wpAny_mono (monoE (valueOrNone_ hl C (R.keep K₁) S₁ h₁) fun Ψ₂ H₂ mb b s₂ S₂ K₂ vb h₂ => ?_) (fun _ _ x => x) fun _ _ x => x.from K₁)
  have K12 := K₁.trans K₂
  refine wpAny_bind (wpAny_holding (wpAny_mono (monoE (valueOrNone_ hu C (R.keep K12) S₂ h₂) fun Ψ₃ H₃ mc c s₃ S₃ K₃ vc h₃ => ?_) (fun _ _ x => x) fun _ _ x => x.from K12))
  refine wpAny_bind (wpAny_holding (wpAny_pure ?_))
  refine wpAny_newObj_type ?_
  obtain ⟨vs, hs, q⟩ := h₃
  exact lift (K12.trans K₃) (op_slice S₃ (va.mono (K₂.trans K₃).fix) (vb.mono K₃.fix) vc hs q fun o i => rfl)
theorem snd_sub {e i : ME} {x y : PySem.Expr} {pos : Pos} (hs : notSlice y = true) (he : SndE W Δ n nm e x) (hi : SndE W Δ n nm i y) : SndE W Δ n nm (.sub e i) (.Subscript x y pos) := by
  intro hd A fs env ρ Ψ H s Q X C R S h
  refine PyProof.Rows.Subscript_ (monoE (he C R S h) fun Ψ₁ H₁ ma a s₁ S₁ K₁ va h₁ => ?_)
  refine wpAny_mono (monoE (hi C (R.keep K₁) S₁ h₁) fun Ψ₂ H₂ mb b s₂ S₂ K₂ vb h₂ => ?_) (fun _ _ x => x) fun _ _ x => x.from K₁
  obtain ⟨x, hx, q⟩ := h₂
  exact lift (K₁.trans K₂) (op_sub S₂ (va.mono K₂.fix) vb hx q (notSlice_sub hs))
end
end Mine
end
section
set_option autoImplicit false
set_option linter.unusedVariables false
namespace Mine
open PySem

section
variable {W : Amb} {K : PySem.W.Frag} {Δ : CallT} {n : Nat} {nm : Names}

/-- the text's own objects stay -/
theorem Facts.at {fs : List Env} {Ψ : Psi} {H : MH} {s : Shared} (F : Facts W K) (S : St W fs Ψ H s) : K.In s.heap := F.inn.keeps S.base

noncomputable def allPlain (xs : List PySem.Expr) : Bool := xs.all notStarred
theorem backTo_plain {xs : List PySem.Expr} {pos : Pos} {env : Env} (h : allPlain xs = true) : (backTo pos (starEach xs env)).any (·.1) = false := by
  induction xs with
  | nil => rfl
  | cons x xs ih =>
    obtain ⟨h1, h2⟩ := and_of h
    rw [starEach_cons h1]
    exact ih h2
theorem evalArgs_of {xs : List PySem.Expr} {pos : Pos} {env : Env} {f : Value} {M : Model} {A : Around} {E : Value → Shared → Prop} {s : Shared} {Q : Args → Shared → Prop} (hp : allPlain xs = true)
    (h : wpAny M A (spliced (backTo pos (starEach xs env))) (fun vs s' => Q ⟨vs, []⟩ s') E s) : wpAny M A (evalArgs f true (backTo pos (starEach xs env)) []) Q E s := by
  cases xs with
  | nil =>
    unfold evalArgs
    show wpAny M A (spliced [] >>= _) Q E s
    refine wpAny_bind (wpAny_mono h (fun vs s' h' => ?_) fun _ _ x => x)
    refine wpAny_bind (wpAny_pure ?_)
    refine wpAny_holding ?_
    exact wpAny_bind (wpAny_pure (wpAny_bind (wpAny_pure (wpAny_pure h'))))
  | cons x xs =>
    rw [starEach_cons (and_of hp).1] at h ⊢
    exact Calls.evalArgs_plain h

/-- a call's arguments -/
theorem callArgs {hd : Bool} {A : Around} {fs : List Env} {env : Env} {ρ : Sto} {Ψ : Psi} {H : MH} {s : Shared} {Q : MV → MH → Prop} {X : String → MH → Prop} {es : MEs} {xs : List PySem.Expr} {pos : Pos} {f : Value} {first : List Value} {Z : List MV → MH → Prop}
    (hk : ∀ h, W.h₀.StaysIn h → ∃ k, (k = Keeper.frame ∨ k = Keeper.machine ∨ k = Keeper.boundFrame) ∧ PySem.W.Looks W.M h (keeperOf f) k)
    (hp : allPlain xs = true) (hl : SndL W Δ n nm es xs) (C : Cx n hd A fs env nm) (R : EnvRel Ψ env ρ) (S : St W fs Ψ H s) (h : wEs Δ hd es ρ H Z X)
    (k : ∀ Ψ₁ H₁ s₁ vs mvs, St W fs Ψ₁ H₁ s₁ → Keep none_ Ψ Ψ₁ → All2 (VRel Ψ₁) vs mvs → Z mvs H₁ → wpAny W.M A (call f (first ++ vs)) (PostE W fs Ψ₁ Q) (PostX W fs Ψ₁ X) s₁) :
    wpAny W.M A (callWith pos f first (backTo pos (starEach xs env)) []) (PostE W fs Ψ Q) (PostX W fs Ψ X) s := by
  refine PySem.W.callWith_of (P := fun h => W.h₀.StaysIn h) ?_ hk (evalArgs_of hp (monoL (hl C R S h) fun Ψ₁ H₁ mvs vs s₁ _ S₁ K₁ va h₁ => ⟨S₁.base, lift K₁ (k Ψ₁ H₁ s₁ vs mvs S₁ K₁ va h₁)⟩))
  rw [backTo_plain hp]; rfl

theorem keeps_builtin {h : Heap} {f : Value} (hf : ∀ a, f ≠ .ref a) : ∃ k, (k = Keeper.frame ∨ k = Keeper.machine ∨ k = Keeper.boundFrame) ∧ PySem.W.Looks W.M h (keeperOf f) k :=
  ⟨.machine, .inr (.inl rfl), by cases f <;> first | exact absurd rfl (hf _) | exact PySem.W.Looks.now⟩

noncomputable def biNames : List String := ["len", "range", "min", "max", "all", "list", "sorted"]
noncomputable def biOk (K : PySem.W.Frag) (b : String) : Bool := biNames.contains b && (PySem.W.nsIn K mainGlobals (Str.ofString b) == some none)
theorem bi_all_ok : (biNames.all fun b => (bootBuiltins (Str.ofString b) == some (biVal b)) && !(Str.ofString b == "__name__") && (match biVal b with | .ref _ => false | _ => true)) = true := by kernel_rfl
theorem bi_boot {b : String} (h : biNames.contains b = true) : bootBuiltins (Str.ofString b) = some (biVal b) ∧ Str.ofString b ≠ "__name__" ∧ ∀ a, biVal b ≠ .ref a := by
  obtain ⟨h1, h2⟩ := and_of (List.all_eq_true.mp bi_all_ok b (List.contains_iff_mem.mp h))
  obtain ⟨h1, h3⟩ := and_of h1
  exact ⟨eq_of_beq h1, beq_eq_false_iff_ne.mp (not_of h3), fun a q => by rw [q] at h2; exact Bool.noConfusion h2⟩
theorem snd_bi {b : String} {es : MEs} {xs : List PySem.Expr} {id : Str} {p pos : Pos} (F : Facts W K) (hb : biOk K b = true) (hx : isGlob nm b id = true) (hp : allPlain xs = true) (hl : SndL W Δ n nm es xs) :
    SndE W Δ n nm (.bi b es) (.Call (.Name id p) xs [] pos) := by
  intro hd A fs env ρ Ψ H s Q X C R S h
  obtain ⟨h1, h2, h3⟩ := bi_boot (and_of hb).1
  exact wpAny_bind (loadBlt F C R S hx (eq_of_beq (and_of hb).2) h1 h2 (callArgs (fun h _ => keeps_builtin h3) hp hl C R S h fun Ψ₁ H₁ s₁ vs mvs S₁ K₁ va z => op_bi S₁ va C.hand z))

/-- a global constant -/
noncomputable def constIs : Value → MV → Bool
  | .int i _, .int j => decide (i = j)
  | .str s _, .str t => strEq s t
  | _, _ => false
theorem constIs_rel {Ψ : Psi} {v : Value} {mv : MV} (h : constIs v mv = true) : VRel Ψ v mv := by
  unfold constIs at h; split at h
  · obtain rfl := of_decide_eq_true h; exact .int
  · obtain rfl := strEq_eq h; exact .str
  · exact Bool.noConfusion h
noncomputable def gcOk (K : PySem.W.Frag) (x : String) (mv : MV) : Bool := match PySem.W.nsIn K mainGlobals (Str.ofString x) with
  | some (some v) => constIs v mv
  | _ => false
theorem snd_gconst {x : String} {mv : MV} {id : Str} {pos : Pos} (F : Facts W K) (hg : gcOk K x mv = true) (hx : isGlob nm x id = true) : SndE W Δ n nm (.gconst x mv) (.Name id pos) := by
  intro hd A fs env ρ Ψ H s Q X C R S h
  unfold gcOk at hg
  split at hg
  · rename_i v hv
    exact loadGlob F C R S hx hv (.now S (constIs_rel hg) h)
  · exact Bool.noConfusion hg

/-! attributes of an instance -/
theorem nsFind_list {es : Array DictEntry} {x : Str} : nsFind es x = (es.toList.find? (·.key.isStr x)).map (·.val) := by
  unfold nsFind findBy
  rw [Array.find?_toList]
theorem noRef {es : Array DictEntry} (h : StrKeys es) : es.toList.any (·.refKey) = false := by
  rw [List.any_eq_false]
  intro e he
  obtain ⟨m, t, q⟩ := h e (by simpa using he)
  simp [DictEntry.refKey, q]
theorem look_own {es : Array DictEntry} {k : Nat} {o : Obj} {x : Str} (h : StrKeys es) (hd : o.data = .dict es k) : PySem.W.lookIn x o = some (nsFind es x) := by
  unfold PySem.W.lookIn
  rw [hd, nsFind_list]
  dsimp only
  cases q : List.find? (fun x_1 => x_1.key.isStr x) es.toList with
  | some e => rfl
  | none => simp [noRef h]
inductive InstO (W : Amb) (Ψ : Psi) (h : Heap) (a : Addr) (l : List (String × MV)) : Prop
  | mk (ox : Obj) (d : Addr) (od : Obj) (ents : Array DictEntry) (k : Nat) (h1 : Ψ a = some (.inst d)) (h2 : Ψ d = some (.idict a l)) (I : PySem.W.InstAt h a ox (W.ca "Train") (some od)) (hd : ox.dict = some d) (hod : h.get? d = some od) (he : od.ExactDict) (hk : od.data = .dict ents k) (hs : StrKeys ents) (hsz : ents.size ≤ l.length)
    (hn : ∀ x, fsGet l x = none → nsFind ents (Str.ofString x) = none) (hf : ∀ x mv, fsGet l x = some mv → ∃ v, nsFind ents (Str.ofString x) = some v ∧ VRel Ψ v mv)
theorem St.inst {fs : List Env} {Ψ : Psi} {H : MH} {s : Shared} (S : St W fs Ψ H s) {a : Addr} {l : List (String × MV)} (h : H a = some (.inst l)) : InstO W Ψ s.heap a l := by
  obtain ⟨d, h1, h2⟩ := S.heap a _ h
  obtain ⟨ox, ho, hc, hd, hp⟩ := S.typed _ _ h1
  obtain ⟨od, hod, he, ents, k, hk, hs, hn, hf⟩ := S.typed _ _ h2
  exact ⟨ox, d, od, ents, k, h1, h2, ⟨ho, hc, by unfold PySem.W.notCls; rw [hp], by rw [hd]; exact hod⟩, hd, hod, he, hk, hs.1, hs.2, hn, hf⟩
theorem handed_of {Ψ : Psi} {v : Value} {mv : MV} (h : VRel Ψ v mv) : PySem.W.handedIn v = true := by cases h <;> rfl
noncomputable def attrOk (ca : String → Addr) (K : PySem.W.Frag) (f : Str) : Bool := PySem.W.plainGet K (ca "Train") f && PySem.W.hasDictIn K (ca "Train") && (PySem.W.findIn K (.ref (ca "Train")) f == some none)
theorem op_attr {A : Around} {fs : List Env} {Ψ : Psi} {H : MH} {s : Shared} {Q : MV → MH → Prop} {E : Value → Shared → Prop} {v : Value} {mv x : MV} {f : String} {b : Bool} (F : Facts W K) (ha : attrOk W.ca K (Str.ofString f) = true) (S : St W fs Ψ H s) (hv : VRel Ψ v mv) (h : AttrR H mv f x) (q : Q x H) :
    wpAny W.M A (getAttr v (Str.ofString f) b) (PostE W fs Ψ Q) E s := by
  cases h with
  | mk hl hx =>
    obtain rfl := vref hv
    obtain ⟨ox, d, od, ents, k, h1, h2, I, hd, hod, he, hk, hs, hsz, hn, hf⟩ := S.inst hl
    obtain ⟨w, hw, vw⟩ := hf _ _ hx
    exact PySem.W.get_value (F.at S) I (PySem.W.plainGet_of (and_of (and_of ha).1).1).1 (PySem.W.findObj_own (and_of (and_of ha).1).2 (eq_of_beq (and_of ha).2) rfl ((look_own hs hk).trans (by rw [hw]))) (handed_of vw) (.now (S.toks _) vw q)
noncomputable def notSuper : PySem.Expr → Bool
  | .Call .. => false
  | _ => true
theorem base_of {o : PySem.Expr} {name : Str} {env : Env} {t : Sem Value} (h : notSuper o = true) : attributeBase o name env t = t := by
  cases o <;> first | rfl | exact absurd h Bool.noConfusion
theorem snd_attr {e : ME} {x : PySem.Expr} {f : String} {nf : Str} {pos : Pos} (F : Facts W K) (hf : strEq nf (Str.ofString f) = true) (ha : attrOk W.ca K (Str.ofString f) = true) (hb : notSuper x = true) (he : SndE W Δ n nm e x) : SndE W Δ n nm (.attr e f) (.Attribute x nf pos) := by
  intro hd A fs env ρ Ψ H s Q X C R S h
  obtain rfl := strEq_eq hf
  refine PyProof.Rows.Attribute_any_ (monoE (he C R S h) fun Ψ₁ H₁ mv v s₁ S₁ K₁ va h₁ => h₁.elim fun x z => lift K₁ (op_attr F ha S₁ va z.1 z.2)) ?_
  rw [arm_eval_Attribute, base_of hb]

/-! calls of a method -/
theorem methCall {o : PySem.Expr} {name : Str} {apos pos : Pos} {args : List PySem.Expr} {env : Env} {M : Model} {A : Around} {E : Value → Shared → Prop} {s : Shared} {Q : Value → Shared → Prop} (hb : notSuper o = true) (hp : allPlain args = true) (hl : args.length < 29) (hpos : (apos.endLine == pos.line) = true)
    (h : wpAny M A (eval o env) (fun ov s₁ => ∀ pl, wpAny M A (getMethod ov name pl) (fun fx s₂ => wpAny M A (callWith pos fx.1 fx.2 (backTo pos (starEach args env)) []) Q E s₂) E s₁) E s) :
    wpAny M A (eval (.Call (.Attribute o name apos) args [] pos) env) Q E s := by
  rw [arm_eval_Call, base_of hb]
  refine wpAny_bind (wpAny_mono h (fun ov s₁ h₁ => wpAny_bind (wpAny_standAt ?_)) fun _ _ x => x)
  have hfew : methodCallForm (args.length + ([] : List Keyword).length) (backTo pos (starEach args env)) (backToKw pos (keywordEach [] env)) = true := by
    unfold methodCallForm
    have e1 : (backTo pos (starEach args env)).all (fun x => !x.1) = true := by
      have := backTo_plain (pos := pos) (env := env) hp
      rw [List.any_eq_false] at this
      rw [List.all_eq_true]
      intro x hx; simpa using this x hx
    rw [e1]
    have : args.length + ([] : List Keyword).length + (if (backToKw pos (keywordEach [] env)).isEmpty then 0 else 1) < 30 := by
      show args.length + 0 + 0 < 30
      omega
    simp only [Bool.true_and, Bool.and_eq_true, decide_eq_true_eq]
    exact ⟨rfl, this⟩
  unfold methodCall
  rw [hfew]
  unfold calleeOf
  rw [if_pos rfl]
  refine wpAny_bind (wpAny_holding (wpAny_mono (h₁ _) (fun fx s₂ h₂ => ?_) fun _ _ x => x))
  unfold methodCallPos
  rw [hpos, Bool.not_true, Bool.false_or, if_pos rfl]
  exact wpAny_bind (wpAny_pure h₂)
end
end Mine
end
section
set_option autoImplicit false
set_option linter.unusedVariables false
namespace Mine
open PySem

section
variable {W : Amb} {K : PySem.W.Frag} {Δ : CallT} {n : Nat} {nm : Names} {fs : List Env} {Ψ : Psi} {H : MH} {s : Shared} {A : Around} {Q : MV → MH → Prop} {E : Value → Shared → Prop} {X : String → MH → Prop}

/-! objects are turned -/
/-- a list or a dict in the law's sight becomes another -/
theorem St.setObj (S : St W fs Ψ H s) {a : Addr} {k₀ k : HK} {o : Obj} {mo : MObj} {tk : Nat} {h' : Heap} (e0 : Ψ a = some k₀) (hd : k₀.data = true) (hi : ∀ b fs, k₀ ≠ .idict b fs) (hk : HRel (Ψ.set a k) a mo) (hr : W.O (Ψ.set a k) o k)
    (hs : Heap.SameBut a s.heap h') (ho : h'.get? a = some o) (hdc : ∀ es, k = .dct es → (a == sysModules) = false) (q : Q .none (H.set a mo)) : PostE W fs Ψ Q .none { s with heap := h', toks := tk } ∧ St W fs (Ψ.set a k) (H.set a mo) { s with heap := h', toks := tk } := by
  have S' : St W fs (Ψ.set a k) (H.set a mo) { s with heap := h', toks := tk } := by
    refine S.turned (s' := { s with heap := h', toks := tk }) e0 (sort_data hd).2 (fun m z => by subst z; exact Bool.noConfusion hd) hr hs ho (fun b x e => ?_) rfl rfl hdc
    by_cases q : b = a
    · subst q; exact Option.some.inj ((MH.set_self _ _ _).symm.trans e) ▸ hk
    · have := S.heap b x ((MH.set_ne _ _ q).symm.trans e)
      cases x with
      | inst l => exact this.imp fun d z => ⟨(Psi.set_ne _ _ q).trans z.1, (Psi.set_ne _ _ (fun w => by subst w; exact hi _ _ (Option.some.inj (e0.symm.trans z.2)))).trans z.2⟩
      | _ => exact (Psi.set_ne _ _ q).trans this
  exact ⟨⟨_, _, .none, S', .set_data _ e0 hd, .none, q⟩, S'⟩
theorem set_list (S : St W fs Ψ H s) {a : Addr} {l l' : List MV} {items : Array Value} {k : Nat} {tk : Nat} {h' : Heap} (h : H a = some (.lst l)) (va : All2 (VRel Ψ) items.toList l') (hb : l'.length ≤ bigList)
    (hs : Heap.SameBut a s.heap h') (ho : h'.get? a = some { cls := .type "list", dict := none, data := .seq items k, slots := #[] }) :
    St W fs (Ψ.set a (.lst l')) (H.set a (.lst l')) { s with heap := h', toks := tk } ∧ Keep none_ Ψ (Ψ.set a (.lst l')) :=
  have e0 : Ψ a = some (.lst l) := S.heap a _ h
  ⟨(S.setObj (Q := fun _ _ => True) (mo := .lst l') e0 rfl (fun _ _ q => HK.noConfusion q) (Psi.set_self _ _ _) ⟨items, k, rfl, va.mono fun _ _ => VRel.mono (.set_turn _ e0 rfl), hb⟩ hs ho (fun _ q => HK.noConfusion q) trivial).2, .set_data _ e0 rfl⟩
theorem set_dict (S : St W fs Ψ H s) {a : Addr} {l l' : List (Int × MV)} {kvs : List (Int × Value)} {tk : Nat} {h' : Heap} (h : H a = some (.dct l)) (va : All2 (ERel Ψ) kvs l')
    (hs : Heap.SameBut a s.heap h') (ho : h'.DictOf (intKind W.prog W.w) a kvs) :
    St W fs (Ψ.set a (.dct l')) (H.set a (.dct l')) { s with heap := h', toks := tk } ∧ Keep none_ Ψ (Ψ.set a (.dct l')) := by
  have e0 : Ψ a = some (.dct l) := S.heap a _ h
  obtain ⟨o, ho, hd⟩ := Heap.dictOf_iff.mp ho
  exact ⟨(S.setObj (Q := fun _ _ => True) (mo := .dct l') e0 rfl (fun _ _ q => HK.noConfusion q) (Psi.set_self _ _ _) ⟨kvs, hd, va.mono fun _ _ x => ⟨x.1, x.2.mono (.set_turn _ e0 rfl)⟩⟩ hs ho (fun _ _ => S.dsys _ _ e0) trivial).2, .set_data _ e0 rfl⟩

/-! methods of lists and dicts -/
theorem op_append {a : Addr} {l : List MV} {v : Value} {x : MV} (S : St W fs Ψ H s) (h : H a = some (.lst l)) (hl : l.length < bigList) (hv : VRel Ψ v x) (hq : Q .none (H.set a (.lst (l ++ [x])))) :
    wpAny W.M A (call (.builtin "list.append") [.ref a, v]) (PostE W fs Ψ Q) E s := by
  obtain ⟨items, k, h1, r, z, b⟩ := S.lst h
  refine call_meets F.slot_list_append ⟨_, h1, rfl⟩ F.entry_list_append (F.args_list_append_2 _ _) (AutoListH.list_append_list_val_0 a items k v (by rw [z]; unfold bigList at hl; unfold sizeLine; omega)) ⟨h1, ?_⟩
  obtain ⟨k', ho⟩ : ∃ k', (s.heap.update a (Obj.mapSeq fun xs => xs.push v)).get? a = some { cls := .type "list", dict := none, data := .seq (items.push v) k', slots := #[] } := ⟨_, (Heap.get?_update_self _ h1 rfl).trans rfl⟩
  obtain ⟨S', K'⟩ := set_list (tk := s.toks) S h (l' := l ++ [x]) (items := items.push v) (by rw [Array.toList_push]; exact r.append (.cons hv .nil)) (by rw [List.length_append]; exact hl) (Heap.SameBut.update ..) ho
  exact ⟨_, _, .none, S', K', .none, hq⟩
theorem All2.erase {α β : Type} {R : α → β → Prop} {l : List α} {r : List β} (h : All2 R l r) : ∀ i : Nat, All2 R (l.eraseIdx i) (r.eraseIdx i) := by
  induction h with
  | nil => intro i; exact .nil
  | cons h t ih => intro i; cases i with
    | zero => exact t
    | succ i => exact .cons h (ih i)
theorem map_eraseIdx {α β : Type} (f : α → β) : ∀ (l : List α) (i : Nat), (l.eraseIdx i).map f = (l.map f).eraseIdx i
  | [], _ => rfl
  | _ :: _, 0 => rfl
  | x :: l, i + 1 => congrArg (f x :: ·) (map_eraseIdx f l i)
theorem erase_idx {x : Int} : ∀ {is : List Int}, x ∈ is → is.idxOf x < is.length ∧ is[is.idxOf x]? = some x ∧ (∀ m, m < is.idxOf x → is[m]? ≠ some x) ∧ (is.erase x).map MV.int = (is.map MV.int).eraseIdx (is.idxOf x) := by
  intro is h
  have h1 : is.idxOf x < is.length := List.idxOf_lt_length_of_mem h
  refine ⟨h1, by rw [List.getElem?_eq_getElem h1, List.getElem_idxOf], fun m hm q => ?_, by rw [List.erase_eq_eraseIdx_of_idxOf rfl]; exact map_eraseIdx _ _ _⟩
  have := List.not_of_lt_findIdx (p := (· == x)) hm
  have hl : m < is.length := Nat.lt_trans hm h1
  rw [List.getElem?_eq_getElem hl] at q
  rw [Option.some.inj q] at this
  simp at this
theorem op_remove {a : Addr} {is : List Int} {i : Int} {t : Tok} (S : St W fs Ψ H s) (h : H a = some (.lst (is.map .int))) (hi : i ∈ is) (hq : Q .none (H.set a (.lst ((is.erase i).map .int)))) :
    wpAny W.M A (call (.builtin "list.remove") [.ref a, .int i t]) (PostE W fs Ψ Q) E s := by
  obtain ⟨items, k, h1, r, z, b⟩ := S.lst h
  obtain ⟨j1, j2, j3, j4⟩ := erase_idx hi
  rw [List.length_map] at z b
  have hI := intsAre_of r
  have at_ : ∀ (m : Nat) (hm : m < items.size) (y : Int), is[m]? = some y → PyProof.Rows.isInt i items[m] = (y == i) := fun m hm y hy => by
    obtain ⟨v, hv, hr⟩ := r.get m (.int y) (by rw [List.getElem?_map, hy]; rfl)
    rw [Array.getElem?_toList, Array.getElem?_eq_getElem hm] at hv
    rw [Option.some.inj hv]
    obtain ⟨t, rfl⟩ := vint hr
    rfl
  refine call_meets F.slot_list_remove ⟨_, h1, rfl⟩ F.entry_list_remove (F.args_list_remove_2 _ _) (MeetsSeq.list_remove a items k (.int i t) (PyProof.Rows.isInt i) (fun y hy => PyProof.Rows.eq_isInt i t hI y (by simpa using hy)) (is.idxOf i) (z ▸ j1)
    ((at_ _ _ _ j2).trans (beq_self_eq_true i)) (fun m hm hlt => ?_) (z ▸ big_le b)) ⟨h1, ?_⟩
  · have hm' : m < is.length := z ▸ hm
    rw [at_ m hm _ (List.getElem?_eq_getElem hm')]
    exact beq_eq_false_iff_ne.mpr fun q => j3 m hlt (by rw [List.getElem?_eq_getElem hm', q])
  · obtain ⟨k', ho⟩ : ∃ k', (s.heap.update a (Obj.mapSeq fun xs => xs.eraseIdxIfInBounds (is.idxOf i))).get? a = some { cls := .type "list", dict := none, data := .seq (items.eraseIdxIfInBounds (is.idxOf i)) k', slots := #[] } := ⟨_, (Heap.get?_update_self _ h1 rfl).trans rfl⟩
    obtain ⟨S', K'⟩ := set_list (tk := s.toks) S h (l' := (is.erase i).map .int) (items := items.eraseIdxIfInBounds (is.idxOf i)) (by rw [j4, Array.eraseIdxIfInBounds, dif_pos (z ▸ j1 : is.idxOf i < items.size), Array.toList_eraseIdx]; exact r.erase _) (by rw [List.length_map]; exact Nat.le_trans List.length_erase_le b) (Heap.SameBut.update ..) ho
    exact ⟨_, _, .none, S', K', .none, hq⟩
theorem All2.map_both {α β γ δ : Type} {R : α → β → Prop} {T : γ → δ → Prop} {f : α → γ} {g : β → δ} {l : List α} {r : List β} (h : All2 R l r) (k : ∀ a b, R a b → T (f a) (g b)) : All2 T (l.map f) (r.map g) := by
  induction h with
  | nil => exact .nil
  | cons h _ ih => exact .cons (k _ _ h) ih
theorem without_rel {kvs : List (Int × Value)} {es : List (Int × MV)} {k : Int} (r : All2 (ERel Ψ) kvs es) : All2 (ERel Ψ) (without kvs k) (dDel es k) := by
  unfold without dDel
  induction r with
  | nil => exact .nil
  | @cons p q l r h _ ih =>
    rw [List.filter_cons, List.filter_cons, h.1]
    split
    · exact .cons h ih
    · exact ih
theorem stored_rel {kvs : List (Int × Value)} {es : List (Int × MV)} {k : Int} {v : Value} {x : MV} (hv : VRel Ψ v x) (r : All2 (ERel Ψ) kvs es) : All2 (ERel Ψ) (stored kvs k v) (dSet es k x) := by
  have e1 : kvs.any (fun kv => decide (kv.1 = k)) = es.any (fun kv => decide (kv.1 = k)) := by
    induction r with
    | nil => rfl
    | cons h _ ih => rw [List.any_cons, List.any_cons, h.1, ih]
  unfold stored dSet
  rw [e1]
  split
  · refine r.map_both fun p q h => ?_
    rw [h.1]
    by_cases z : q.1 = k
    · rw [if_pos z, if_pos z]; exact ⟨rfl, hv⟩
    · rw [if_neg z, if_neg z]; exact h
  · exact r.append (.cons ⟨rfl, hv⟩ .nil)
theorem op_dpop {a : Addr} {es : List (Int × MV)} {k : Int} {t : Tok} {x : MV} (S : St W fs Ψ H s) (h : H a = some (.dct es)) (hl : es.length ≤ bigList) (hx : dGet es k = some x) (hq : Q x (H.set a (.dct (dDel es k)))) :
    wpAny W.M A (call (.builtin "dict.pop") [.ref a, .int k t]) (PostE W fs Ψ Q) E s := by
  obtain ⟨kvs, d, r, _⟩ := S.dct h
  rcases valueAt_dct k r with ⟨_, h2⟩ | ⟨v, mv, h1, h2, hr⟩
  · exact nn h2 hx
  · obtain rfl := Option.some.inj (h2.symm.trans hx)
    refine call_meetsIn F.slot_dict_pop d.typeIs F.entry_dict_pop (F.args_dict_pop_2 _ _) (meets_dict_pop_there (intKind W.prog W.w) a intKey [] (.inl rfl) rfl) ⟨kvs, v, d, by rw [r.length_eq]; exact big_le hl, h1, fun h' hd hs => ?_⟩
    obtain ⟨S', K'⟩ := set_dict (tk := s.toks + 1) S h (without_rel (k := k) r) hs hd
    exact ⟨_, _, mv, S', K', hr.mono K'.fix, hq⟩

theorem op_index {a : Addr} {is : List Int} {i : Int} {t : Tok} (S : St W fs Ψ H s) (h : H a = some (.lst (is.map .int))) (hi : i ∈ is) (hq : Q (.int (is.idxOf i)) H) :
    wpAny W.M A (call (.builtin "list.index") [.ref a, .int i t]) (PostE W fs Ψ Q) E s := by
  obtain ⟨items, k, h1, r, z, b⟩ := S.lst h
  obtain ⟨j1, j2, j3, _⟩ := erase_idx hi
  rw [List.length_map] at z b
  have hI := intsAre_of r
  have at_ : ∀ (m : Nat) (hm : m < items.size) (y : Int), is[m]? = some y → PyProof.Rows.isInt i items[m] = (y == i) := fun m hm y hy => by
    obtain ⟨v, hv, hr⟩ := r.get m (.int y) (by rw [List.getElem?_map, hy]; rfl)
    rw [Array.getElem?_toList, Array.getElem?_eq_getElem hm] at hv
    rw [Option.some.inj hv]
    obtain ⟨t, rfl⟩ := vint hr
    rfl
  refine call_meets F.slot_list_index ⟨_, h1, rfl⟩ F.entry_list_index (F.args_list_index_2 _ _) (SeqAt.list_indexAt a items k none #[] (.int i t) (PyProof.Rows.isInt i) (is.idxOf i) (z ▸ j1) (by unfold bigList at b; omega)
    ((at_ _ _ _ j2).trans (beq_self_eq_true i)) (fun m hm hlt => ?_)) ⟨h1, fun y hy => (PyProof.Rows.eq_isInt i t hI y (by simpa using hy)).at _ _, .int S hq⟩
  have hm' : m < is.length := z ▸ hm
  rw [at_ m hm _ (List.getElem?_eq_getElem hm')]
  exact beq_eq_false_iff_ne.mpr fun q => j3 m hlt (by rw [List.getElem?_eq_getElem hm', q])
theorem op_lpop {a : Addr} {l : List MV} {i : Int} {x : MV} {t : Tok} (S : St W fs Ψ H s) (h : H a = some (.lst l)) (h0 : 0 ≤ i) (hx : l[i.toNat]? = some x) (hq : Q x (H.set a (.lst (l.eraseIdx i.toNat)))) :
    wpAny W.M A (call (.builtin "list.pop") [.ref a, .int i t]) (PostE W fs Ψ Q) E s := by
  obtain ⟨items, k, h1, r, z, b⟩ := S.lst h
  obtain ⟨v, hv, hr⟩ := r.get _ _ hx
  rw [Array.getElem?_toList] at hv
  have hlt : i.toNat < items.size := by
    by_cases q : i.toNat < items.size
    · exact q
    · rw [Array.getElem?_eq_none (Nat.not_lt.mp q)] at hv; cases hv
  unfold bigList at b
  refine call_meets F.slot_list_pop ⟨_, h1, rfl⟩ F.entry_list_pop (F.args_list_pop_2 _ _) (MeetsSeq.list_pop_at a items k i t i.toNat v (by unfold Builtin.List.listFitsIndex; simp; omega) (by unfold seqIndex?; simp; omega) hv (z ▸ big_le (by unfold bigList; exact b))) ⟨h1, ?_⟩
  obtain ⟨k', ho⟩ : ∃ k', (s.heap.update a (Obj.mapSeq fun xs => xs.eraseIdxIfInBounds i.toNat)).get? a = some { cls := .type "list", dict := none, data := .seq (items.eraseIdxIfInBounds i.toNat) k', slots := #[] } := ⟨_, (Heap.get?_update_self _ h1 rfl).trans rfl⟩
  obtain ⟨S', K'⟩ := set_list (tk := s.toks) S h (l' := l.eraseIdx i.toNat) (items := items.eraseIdxIfInBounds i.toNat) (by rw [Array.eraseIdxIfInBounds, dif_pos hlt, Array.toList_eraseIdx]; exact r.erase _) (by unfold bigList; exact Nat.le_trans (List.length_eraseIdx_le _ _) b) (Heap.SameBut.update ..) ho
  exact ⟨_, _, x, S', K', hr.mono K'.fix, hq⟩
/-- a method's own name -/
noncomputable def bmId (k : Bool) (m : String) : String := (if k then "list." else "dict.") ++ m
theorem op_bm {m : String} {v : Value} {vs : List Value} {mv : MV} {mvs : List MV} {k : Bool} (S : St W fs Ψ H s) (hv : VRel Ψ v mv) (hvs : All2 (VRel Ψ) vs mvs) (hk : KindR H mv m k) (h : BmR H Q m mv mvs) : wpAny W.M A (call (.builtin (bmId k m)) (v :: vs)) (PostE W fs Ψ Q) E s := by
  cases h with
  | append h hl q =>
    obtain rfl := vref hv
    obtain ⟨v, rfl, hv⟩ := all2_1 hvs
    cases hk with
    | lst _ _ => exact op_append S h hl hv q
    | dct h' _ => exact absurd (h.symm.trans h') (fun q => MObj.noConfusion (Option.some.inj q))
  | remove h hi q =>
    obtain rfl := vref hv
    obtain ⟨t, rfl⟩ := arg_int hvs
    cases hk with
    | lst _ _ => exact op_remove S h hi q
    | dct h' _ => exact absurd (h.symm.trans h') (fun q => MObj.noConfusion (Option.some.inj q))
  | index h hi q =>
    obtain rfl := vref hv
    obtain ⟨t, rfl⟩ := arg_int hvs
    cases hk with
    | lst _ _ => exact op_index S h hi q
    | dct h' _ => exact absurd (h.symm.trans h') (fun q => MObj.noConfusion (Option.some.inj q))
  | lpop h h0 hx q =>
    obtain rfl := vref hv
    obtain ⟨t, rfl⟩ := arg_int hvs
    cases hk with
    | lst _ _ => exact op_lpop S h h0 hx q
    | dct h' _ => exact absurd (h.symm.trans h') (fun q => MObj.noConfusion (Option.some.inj q))
  | dpop h hl hx q =>
    obtain rfl := vref hv
    obtain ⟨t, rfl⟩ := arg_int hvs
    cases hk with
    | lst h' _ => exact absurd (h.symm.trans h') (fun q => MObj.noConfusion (Option.some.inj q))
    | dct _ _ => exact op_dpop S h hl hx q
/-- the names of the methods, and the methods -/
theorem get_list {m : String} (hm : ["append", "remove", "index", "pop"].contains m = true) {a : Addr} {l : List MV} {pl : Sem Bool} {QQ : Value × List Value → Shared → Prop} (S : St W fs Ψ H s) (h : H a = some (.lst l)) (q : QQ (.builtin (bmId true m), [.ref a]) s) : wpAny W.M A (getMethod (.ref a) (Str.ofString m) pl) QQ E s := by
  obtain ⟨items, k, h1, r, z, b⟩ := S.lst h
  rcases List.mem_cons.mp (List.contains_iff_mem.mp hm) with rfl | hm
  · exact getMethod_builtin ⟨_, h1, rfl⟩ F.plainAttrs_list F.slot_list_append F.type_list_append (fun a' q => Value.ref.inj q ▸ ⟨_, h1, rfl⟩) q
  rcases List.mem_cons.mp hm with rfl | hm
  · exact getMethod_builtin ⟨_, h1, rfl⟩ F.plainAttrs_list F.slot_list_remove F.type_list_remove (fun a' q => Value.ref.inj q ▸ ⟨_, h1, rfl⟩) q
  rcases List.mem_cons.mp hm with rfl | hm
  · exact getMethod_builtin ⟨_, h1, rfl⟩ F.plainAttrs_list F.slot_list_index F.type_list_index (fun a' q => Value.ref.inj q ▸ ⟨_, h1, rfl⟩) q
  · obtain rfl := List.mem_singleton.mp hm
    exact getMethod_builtin ⟨_, h1, rfl⟩ F.plainAttrs_list F.slot_list_pop F.type_list_pop (fun a' q => Value.ref.inj q ▸ ⟨_, h1, rfl⟩) q
theorem get_dict {a : Addr} {l : List (Int × MV)} {pl : Sem Bool} {QQ : Value × List Value → Shared → Prop} (S : St W fs Ψ H s) (h : H a = some (.dct l)) (q : QQ (.builtin (bmId false "pop"), [.ref a]) s) : wpAny W.M A (getMethod (.ref a) (Str.ofString "pop") pl) QQ E s := by
  obtain ⟨kvs, d, r, _⟩ := S.dct h
  obtain ⟨o, ho, hd⟩ := Heap.dictOf_iff.mp d
  exact getMethod_builtin d.typeIs F.plainAttrs_dict F.slot_dict_pop F.type_dict_pop (fun a' q => Value.ref.inj q ▸ ⟨o, ho, by obtain ⟨_, _, x, _⟩ := hd; exact x.2.1⟩) q
theorem get_bm {m : String} {v : Value} {mv : MV} {k : Bool} {pl : Sem Bool} {QQ : Value × List Value → Shared → Prop} (S : St W fs Ψ H s) (hv : VRel Ψ v mv) (hk : KindR H mv m k) (q : QQ (.builtin (bmId k m), [v]) s) : wpAny W.M A (getMethod v (Str.ofString m) pl) QQ E s := by
  cases hk with
  | lst h hm => obtain rfl := vref hv; exact get_list hm S h q
  | dct h hm => subst hm; obtain rfl := vref hv; exact get_dict S h q
theorem snd_bm {e : ME} {es : MEs} {x : PySem.Expr} {xs : List PySem.Expr} {m : String} {nf : Str} {apos pos : Pos} (hf : strEq nf (Str.ofString m) = true) (hb : notSuper x = true) (hp : allPlain xs = true) (hlen : xs.length < 29) (hpos : (apos.endLine == pos.line) = true)
    (he : SndE W Δ n nm e x) (hl : SndL W Δ n nm es xs) : SndE W Δ n nm (.bm e m es) (.Call (.Attribute x nf apos) xs [] pos) := by
  intro hd A fs env ρ Ψ H s Q X C R S h
  obtain rfl := strEq_eq hf
  refine methCall hb hp hlen hpos (monoE (he C R S h) fun Ψ₁ H₁ mv v s₁ S₁ K₁ va h₁ pl => ?_)
  obtain ⟨k, hk, h₁⟩ := h₁
  refine get_bm S₁ va hk ?_
  exact lift K₁ (callArgs (first := [v]) (fun h _ => keeps_builtin (fun a q => Value.noConfusion q)) hp hl C (R.keep K₁) S₁ h₁ fun Ψ₂ H₂ s₂ vs mvs S₂ K₂ va₂ z => op_bm S₂ (va.mono K₂.fix) va₂ z.1 z.2)
end
end Mine
end
section
set_option autoImplicit false
set_option linter.unusedVariables false
namespace Mine
open PySem

section
variable {W : Amb} {K : PySem.W.Frag} {Δ : CallT} {n : Nat} {nm : Names} {fs : List Env} {Ψ : Psi} {H : MH} {s : Shared} {A : Around} {Q : MV → MH → Prop} {E : Value → Shared → Prop} {X : String → MH → Prop}

/-! isinstance -/
noncomputable def ExcLike (h : Heap) (x D : Addr) : Prop := ∃ o, h.get? x = some o ∧ o.cls = .ref D
theorem ExcLike.type {M : Model} {h : Heap} {x D : Addr} (I : ExcLike h x D) : PySem.W.Looks M h (typeOf (.ref x)) (.ref D) := by
  obtain ⟨o, h1, h2⟩ := I
  exact h2 ▸ (PySem.W.Looks.ld h1).andThen .now
open PySem.W Builtin Builtin.ObjectAttr Builtin.Getset_descriptor in
theorem exc_classGet {x D : Addr} {tp : Value} {R : Result → Shared → Prop} {prog : Program} {w : World} (Y : K.In s.heap) (I : ExcLike s.heap x D) (hm : mroIn K D (.type "object") = some true)
    (h : R (.ok (.ret (.ref D))) s) : codeAny (model prog w) A (.call (.builtin "getset_descriptor.__get__") ⟨[.builtin "object.__class__", .ref x, tp], []⟩) R s := by
  obtain ⟨hh, g, dr, t, os⟩ := s
  have L0 := I.type (M := model prog w)
  have L1 := looks_mroIn (M := model prog w) Y hm
  refine codeAny_call_builtin KF.slot_gs.plain KF.entry_gs (KF.slot_gs.check _ _ _ _ _ _ _ _ KF.type_class (KF.args_gs _ _ _) ?_)
  unfold Builtin.«getset_descriptor.__get__» descrGet
  rw [dga_obj]
  refine wpAny_bind (wpAny_pure ?_)
  unfold descrGetter descrCheckInstance descrNameAndClass isInstance
  simp only [KF.owner_class]
  repeat lk
  refine ⟨Code.quiet_builtin _ (by decide +kernel), codeAny_builtin KF.entry_class ?_⟩
  unfold Builtin.«object.__class__» shownTypeOf
  repeat lk
  exact h

open PySem.W PySem.Calls PyProof.Rows Builtin Builtin.ObjectAttr in
theorem exc_find {x D : Addr} {h : Heap} {M : Model} (Y : K.In h) (ha : findIn K (.ref D) "__class__" = some (some (.builtin "object.__class__")))
    (hn : specialIn K (.builtin "object.__class__") "__get__" = some (some (.builtin "getset_descriptor.__get__"))) (htk : takesIn K (.builtin "object.__class__") = some true) :
    Looks M h (find (.ref x) (.ref D) "__class__") (.bind (.builtin "getset_descriptor.__get__") (.builtin "object.__class__")) := by
  refine (looks_findIn Y ha).andThen ((show Looks M h (getOf (some (.builtin "object.__class__"))) _ from looks_specialIn Y hn).andThen ?_)
  exact (show Looks M h (dataDescriptor? (some (.builtin "object.__class__")) (some (.builtin "getset_descriptor.__get__"))) (some (.builtin "getset_descriptor.__get__", .builtin "object.__class__")) from (looks_takesIn Y htk).andThen .now).andThen (Looks.tag .now)
/-- what a class of the text must be for the walk of its instances -/
noncomputable def excOk (K : PySem.W.Frag) (D : Addr) : Bool := (PySem.W.findIn K (.ref D) "__getattribute__" == some (some (.builtin "BaseException.__getattribute__"))) && (PySem.W.findIn K (.ref D) "__getattr__" == some none) && (PySem.W.clsIn K D).isSome && (PySem.W.findIn K (.ref D) "__class__" == some (some (.builtin "object.__class__"))) &&
  (PySem.W.specialIn K (.builtin "object.__class__") "__get__" == some (some (.builtin "getset_descriptor.__get__"))) && (PySem.W.takesIn K (.builtin "object.__class__") == some true) && (PySem.W.mroIn K D (.type "object") == some true) && (PySem.W.mroIn K D (.type "BaseException") == some true)
open PySem.W in
theorem looks_cls {D : Addr} {M : Model} {h : Heap} (Y : K.In h) (hc : (clsIn K D).isSome = true) : Looks M h (isType (.ref D)) true := by
  unfold clsIn at hc
  split at hc
  · rename_i c' d' cd' sl' ho
    intro A' Q' E' s' k q
    unfold isType loadHead
    exact wpAny_bind (wpAny_loadPart (k _ _ (Y _ _ ho)) (wpAny_pure q))
  · exact Bool.noConfusion hc
open PySem.W PySem.Calls PyProof.Rows Builtin Builtin.ObjectAttr in
theorem exc_class {x D : Addr} {prog : Program} {w : World} {Q : Option Value → Shared → Prop} (hok : excOk K D = true) (Y : K.In s.heap) (I : ExcLike s.heap x D) (h : Q (some (.ref D)) { s with toks := s.toks + 1 }) :
    wpAny (model prog w) A (getAttr? (.ref x) "__class__") Q E s := by
  obtain ⟨hok, hb⟩ := and_of hok
  obtain ⟨hok, hm⟩ := and_of hok
  obtain ⟨hok, htk⟩ := and_of hok
  obtain ⟨hok, hn⟩ := and_of hok
  obtain ⟨hok, ha⟩ := and_of hok
  obtain ⟨hok, hc⟩ := and_of hok
  obtain ⟨hga, hk⟩ := and_of hok
  replace hga := eq_of_beq hga
  replace hk := eq_of_beq hk
  replace ha := eq_of_beq ha
  replace hn := eq_of_beq hn
  replace htk := eq_of_beq htk
  replace hm := eq_of_beq hm
  replace hb := eq_of_beq hb
  have L0 := I.type (M := model prog w)
  have L1 := looks_findIn (M := model prog w) Y hga
  have L2 := exc_find (M := model prog w) (x := x) Y ha hn htk
  have L3 := looks_findIn (M := model prog w) Y hk
  have L4 : Looks (model prog w) s.heap (isInstance (.ref x) (.type "BaseException")) true := L0.andThen (looks_mroIn Y hb)
  have f3 := (PySem.F.excAttr_ValueError).ga.bind (.ref x)
  obtain ⟨hh, g, d, t, os⟩ := s
  unfold getAttr? getAttrBy? getAttrBy
  refine wpAny_bind (wpAny_mkText (wpAny_bind (wpAny_attempt (wpAny_holding (wpAny_bind (L0.at (wpAny_bind (L1.at ?_))))))))
  dsimp only
  have hx2 : (Value.builtin "BaseException.__getattribute__" == Value.builtin "object.__getattribute__") = false := by decide +kernel
  rw [hx2, Bool.and_false, if_neg (by decide)]
  unfold getAttrByItsOwn hookBefore
  rw [if_pos (show onTheHeap (Value.ref D) = true from rfl)]
  refine wpAny_bind (L3.at (wpAny_bind (wpAny_attempt (wpAny_holding ?_))))
  unfold callGetattribute
  rw [if_neg (by decide)]
  unfold boundAndCalled
  rw [f3]
  refine wpAny_bind (wpAny_pure (wpAny_call ?_))
  have hk' : builtinKind "BaseException.__getattribute__" = some .slot := by decide +kernel
  have hsplit : splitId "BaseException.__getattribute__" = some ("BaseException", "__getattribute__") := by decide +kernel
  refine codeAny_call_builtin (PySem.F.excAttr_ValueError).ga.plain PySem.F.entry_bexc_ga (@check_slot (model prog w) _ _ ⟨hh, g, d, t + 1, os⟩ "BaseException.__getattribute__" "BaseException" "__getattribute__" (.ref x) [.str "__class__" t] [] _ hk' hsplit L4 (PySem.F.args_bexc_ga (.ref x) (.str "__class__" t)) ?_)
  unfold Builtin.«object.__getattribute__»
  refine wpAny_bind (wpAny_pure (wpAny_bind (wpAny_pure (wpAny_bind (L0.at (wpAny_bind (L2.at ?_)))))))
  show wpAny _ _ (holding [.builtin "object.__class__"] (call (.builtin "getset_descriptor.__get__") [.builtin "object.__class__", .ref x, .ref D]) >>= ret) _ _ _
  refine wpAny_bind (wpAny_holding (wpAny_call (exc_classGet (s := ⟨hh, g, d, t + 1, os⟩) Y I hm ?_)))
  refine wpAny_pure ?_
  dsimp only
  rw [handedOut_of rfl]
  exact wpAny_pure (wpAny_pure h)
open PySem.W PySem.Calls PyProof.Rows Builtin Builtin.ObjectAttr in
theorem exc_nested {x D : Addr} {prog : Program} {w : World} {c : Value} {dep : Int} {tk : Tok} {Q : Fin → Shared → Prop} (hok : excOk K D = true) (Y : K.In s.heap) (I : ExcLike s.heap x D) (hty : Looks (model prog w) s.heap (typeOf c) (.type "type")) (his : Looks (model prog w) s.heap (isType c) true)
    (hne : (Value.ref D == c) = false) (hsub : Looks (model prog w) s.heap (isSubtype (.ref D) c) false) (h : Q (.done (.ret (.bool false))) { s with toks := s.toks + 1 }) :
    wpAny (model prog w) A (Builtin.«isinstance.nested» ⟨[.ref x, c, .int dep tk], []⟩) Q E s := by
  have hisD : Looks (model prog w) s.heap (isType (.ref D)) true := looks_cls Y (and_of (and_of (and_of (and_of (and_of (and_of hok).1).1).1).1).1).2
  have L0 := I.type (M := model prog w)
  have LI : Looks (model prog w) s.heap (isInstance (.ref x) c) false := L0.andThen hsub
  unfold Builtin.«isinstance.nested»
  refine wpAny_bind (L0.here ?_)
  rw [if_neg (fun q => by rw [hne] at q; exact Bool.noConfusion q)]
  refine wpAny_bind (hty.here ?_)
  rw [if_pos (by decide)]
  k_delta "plainIsInstance"
  refine wpAny_bind (wpAny_bind (his.here ?_))
  simp only [Bool.not_true, Bool.false_eq_true, if_false]
  refine wpAny_bind (LI.here ?_)
  simp only [Bool.false_eq_true, if_false]
  refine wpAny_bind (exc_class hok Y I ?_)
  refine wpAny_bind (hisD _ _ _ _ (fun _ _ e => e) ?_)
  simp only [Bool.not_true, Bool.false_eq_true, if_false]
  refine wpAny_bind (wpAny_rule ?_)
  refine hsub _ _ _ _ (fun _ _ e => e) ?_
  first
    | exact wpAny_pure h
    | exact wpAny_pure (wpAny_pure h)
    | exact wpAny_bind (wpAny_pure (wpAny_pure h))
open PySem.W PySem.Calls PyProof.Rows Builtin Builtin.ObjectAttr in
theorem exc_notC {x D C : Addr} {prog : Program} {w : World} {Q : Value → Shared → Prop} (hok : excOk K D = true) (e : kin_not K D C = true) (Y : K.In s.heap) (I : ExcLike s.heap x D) (h : Q (.bool false) { s with toks := s.toks + 1 }) :
    wpAny (model prog w) A (call (.builtin "isinstance") [.ref x, .ref C]) Q E s := by
  unfold kin_not at e
  rw [Bool.and_eq_true, Bool.and_eq_true, Bool.and_eq_true] at e
  obtain ⟨⟨⟨e0, e1⟩, e2⟩, e3⟩ := e
  refine call_isinstance (S := fun _ R s => (K.In s.heap ∧ ExcLike s.heap x D) ∧ R (.ok (.ret (.bool false))) { s with toks := s.toks + 1 })
    (fun prog' w' A' R' s' hs => isinstance_outer (exc_nested hok hs.1.1 hs.1.2 (looks_typeIn hs.1.1 (beq_iff_eq.mp e2)) ?_ ?_ (looks_subIn hs.1.1 (beq_iff_eq.mp e3)) hs.2) (by intro q; cases q)) ⟨⟨Y, I⟩, h⟩
  · exact looks_cls hs.1.1 e1
  · exact Bool.eq_false_iff.mpr fun q => of_decide_eq_true e0 (Value.ref.inj (beq_iff_eq.mp q))

theorem exc_at (S : St W fs Ψ H s) {a : Addr} {c : String} (h : Ψ a = some (.exc c)) : ExcLike s.heap a (W.ca c) ∧ excNames.contains c = true := by
  obtain ⟨o, ho, hn, hc, vs, hd⟩ := S.typed _ _ h
  exact ⟨⟨o, ho, hc⟩, hn⟩
open PySem.W PySem.Calls PyProof.Rows Builtin Builtin.ObjectAttr in
theorem exc_isT {x D : Addr} {prog : Program} {w : World} {T : String} {Q : Value → Shared → Prop} (hty : typeOf (.type T) = pure (.type "type")) (e : subIn K (.ref D) (.type T) = some true) (Y : K.In s.heap) (I : ExcLike s.heap x D) (h : Q (.bool true) s) :
    wpAny (model prog w) A (call (.builtin "isinstance") [.ref x, .type T]) Q E s := by
  refine call_isinstance (S := fun _ R s => (K.In s.heap ∧ ExcLike s.heap x D) ∧ R (.ok (.ret (.bool true))) s) (fun prog' w' A' R' s' hs => isinstance_outer ?_ (by intro q; cases q)) ⟨⟨Y, I⟩, h⟩
  have L0 := hs.1.2.type (M := model prog' w')
  have LI : Looks (model prog' w') s'.heap (isInstance (.ref x) (.type T)) true := L0.andThen (looks_subIn hs.1.1 e)
  unfold Builtin.«isinstance.nested»
  refine wpAny_bind (L0.here ?_)
  rw [if_neg (fun q => by cases beq_iff_eq.mp q)]
  refine wpAny_bind (wpAny_of_eq hty ?_)
  rw [if_pos (by decide)]
  k_delta "plainIsInstance"
  refine wpAny_bind (wpAny_bind (wpAny_pure ?_))
  simp only [Bool.not_true, Bool.false_eq_true, if_false]
  refine wpAny_bind (LI.here ?_)
  simp only [if_true]
  exact wpAny_pure (wpAny_pure hs.2)

noncomputable def tyNames : List String := ["int", "bool", "list", "tuple", "str", "ValueError"]
/-- a class of the text, or a type of the language -/
noncomputable def isiOk (ca : String → Addr) (K : PySem.W.Frag) (t : String) : Bool := (PySem.W.nsIn K mainGlobals (Str.ofString "isinstance") == some none) && (if excNames.contains t
  then (PySem.W.nsIn K mainGlobals (Str.ofString t) == some (some (.ref (ca t)))) && excNames.all fun c => excOk K (ca c) && (if t == c then PySem.W.isIn K (.ref (ca c)) (ca t) else PySem.W.kin_not K (ca c) (ca t))
  else (PySem.W.nsIn K mainGlobals (Str.ofString t) == some none) && tyNames.contains t && excNames.all fun c => PySem.W.subIn K (.ref (ca c)) (.type "ValueError") == some true)
noncomputable def tyVal (W : Amb) (t : String) : Value := if excNames.contains t then .ref (W.ca t) else .type t
theorem ve_type : typeOf (.type "ValueError") = pure (.type "type") := by kernel_rfl
theorem ty_all_ok : (tyNames.all fun b => (bootBuiltins (Str.ofString b) == some (.type b)) && !(Str.ofString b == "__name__")) = true := by kernel_rfl
theorem lst_obj (S : St W fs Ψ H s) {a : Addr} {vs : List MV} (h : LstAt H a vs) : ∃ o, s.heap.get? a = some o ∧ o.cls = .type "list" := by
  obtain ⟨items, ⟨o, ho, hc, _⟩, _⟩ := S.lstAt h
  exact ⟨o, ho, hc⟩
theorem tup_obj (S : St W fs Ψ H s) {v : Value} {vs : List MV} (hv : VRel Ψ v (.tup vs)) : ∃ a o, v = .ref a ∧ s.heap.get? a = some o ∧ o.cls = .type "tuple" := by
  obtain ⟨a, rfl, ha⟩ := vtup hv
  obtain ⟨items, ⟨o, ho, hc, _⟩, _⟩ := tup_at S ha
  exact ⟨a, o, rfl, ho, hc⟩
theorem isi_exc {t c : String} {v : Value} (F : Facts W K) (ht : isiOk W.ca K t = true) (S : St W fs Ψ H s) (hv : VRel Ψ v (.exc c)) (h0 : excNames.contains t = true) (fin : ∀ k, PostE W fs Ψ Q (.bool (t == c)) { s with toks := k }) :
    wpAny W.M A (call (.builtin "isinstance") [v, .ref (W.ca t)]) (PostE W fs Ψ Q) E s := by
  obtain ⟨a, rfl, ha⟩ := vexc hv
  obtain ⟨I, hc⟩ := exc_at S ha
  have h1 := (and_of ht).2
  rw [if_pos h0] at h1
  obtain ⟨h2, h3⟩ := and_of (List.all_eq_true.mp (and_of h1).2 c (List.contains_iff_mem.mp hc))
  cases q : t == c with
  | true =>
    rw [q, if_pos rfl] at h3
    rw [q] at fin
    exact PySem.W.isi_call (F.at S) (fun M => I.type) h3 (fun z => Value.noConfusion z) (fin s.toks)
  | false =>
    rw [q, if_neg Bool.noConfusion] at h3
    rw [q] at fin
    exact exc_notC h2 h3 (F.at S) I (fin _)
theorem op_isinst {t : String} {v : Value} {mv : MV} {b : Bool} (F : Facts W K) (ht : isiOk W.ca K t = true) (S : St W fs Ψ H s) (hv : VRel Ψ v mv) (h : IsiR H mv t b) (hq : Q (.bool b) H) :
    wpAny W.M A (call (.builtin "isinstance") [v, tyVal W t]) (PostE W fs Ψ Q) E s := by
  have fin : ∀ k, PostE W fs Ψ Q (.bool b) { s with toks := k } := fun k => .now (S.toks k) .bool hq
  have fin0 : PostE W fs Ψ Q (.bool b) s := fin s.toks
  cases h with
  | ii => obtain ⟨t, rfl⟩ := vint hv; exact IsiPair.int_int fin0
  | ib => obtain rfl := vbool hv; exact IsiPair.bool_int fin0
  | in_ => obtain rfl := vnone hv; exact IsiPair.NoneType_int (fin _)
  | is_ => obtain ⟨t, rfl⟩ := vstr hv; exact IsiPair.str_int (fin _)
  | it => obtain ⟨a, o, rfl, ho, hc⟩ := tup_obj S hv; exact IsiPair.tuple_int ho hc (fin _)
  | bb => obtain rfl := vbool hv; exact IsiPair.bool_bool fin0
  | bi => obtain ⟨t, rfl⟩ := vint hv; exact IsiPair.int_bool (fin _)
  | ll h => obtain rfl := vref hv; obtain ⟨o, ho, hc⟩ := lst_obj S h; exact IsiPair.list_list ho hc fin0
  | li => obtain ⟨t, rfl⟩ := vint hv; exact IsiPair.int_list (fin _)
  | ln => obtain rfl := vnone hv; exact IsiPair.NoneType_list (fin _)
  | tt => obtain ⟨a, o, rfl, ho, hc⟩ := tup_obj S hv; exact IsiPair.tuple_tuple ho hc fin0
  | ti => obtain ⟨t, rfl⟩ := vint hv; exact IsiPair.int_tuple (fin _)
  | exc h0 => rw [tyVal, if_pos h0]; exact isi_exc F ht S hv h0 fin
  | val =>
    obtain ⟨a, rfl, ha⟩ := vexc hv
    obtain ⟨I, hc⟩ := exc_at S ha
    exact exc_isT ve_type (eq_of_beq (List.all_eq_true.mp (and_of (and_of ht).2).2 _ (List.contains_iff_mem.mp hc))) (F.at S) I fin0
/-- the name of a type or a class -/
theorem load_ty {t : String} {hd : Bool} {A : Around} {env : Env} {ρ : Sto} {it : Str} {pt : Pos} {QQ : Value → Shared → Prop} (F : Facts W K) (C : Cx n hd A fs env nm) (R : EnvRel Ψ env ρ) (S : St W fs Ψ H s) (hg : isGlob nm t it = true) (ht : isiOk W.ca K t = true) (q : QQ (tyVal W t) s) : wpAny W.M A (eval (.Name it pt) env) QQ E s := by
  have h := (and_of ht).2
  unfold tyVal at q
  by_cases h0 : excNames.contains t = true
  · rw [if_pos h0] at h q
    exact loadGlob F C R S hg (eq_of_beq (and_of h).1) q
  · rw [if_neg h0] at h q
    obtain ⟨h1, h2⟩ := and_of (and_of h).1
    obtain ⟨h3, h4⟩ := and_of (List.all_eq_true.mp ty_all_ok t (List.contains_iff_mem.mp h2))
    exact loadBlt F C R S hg (eq_of_beq h1) (eq_of_beq h3) (beq_eq_false_iff_ne.mp (not_of h4)) q
theorem isi_boot : bootBuiltins (Str.ofString "isinstance") = some (.builtin "isinstance") := by kernel_rfl
theorem snd_isinst {e : ME} {x : PySem.Expr} {t : String} {id it : Str} {p pt pos : Pos} (F : Facts W K) (hi : isGlob nm "isinstance" id = true) (hg : isGlob nm t it = true) (ht : isiOk W.ca K t = true) (hx : notStarred x = true) (he : SndE W Δ n nm e x) :
    SndE W Δ n nm (.isinst e t) (.Call (.Name id p) [x, .Name it pt] [] pos) := by
  intro hd A fs env ρ Ψ H s Q X C R S h
  show wpAny W.M A (do callWith pos (← eval (.Name id p) env) [] (backTo pos (starEach [x, .Name it pt] env)) []) _ _ s
  refine wpAny_bind (loadBlt F C R S hi (eq_of_beq (and_of ht).1) isi_boot (by decide) ?_)
  rw [starEach_cons hx]
  refine Calls.callWith_builtin rfl (Calls.evalArgs_plain (Calls.spliced_cons (monoE (he C R S h) fun Ψ₁ H₁ mv v s₁ S₁ K₁ va h₁ => ?_)))
  refine Calls.spliced_cons (load_ty F C (R.keep K₁) S₁ hg ht (Calls.spliced_nil ?_))
  exact h₁.elim fun b z => lift K₁ (op_isinst F ht S₁ va z.1 z.2)
end
end Mine
end
section
set_option autoImplicit false
set_option linter.unusedVariables false
namespace Mine
open PySem

/-! binding the arguments -/
theorem lookup_zip_mem {α β : Type} [BEq α] [LawfulBEq α] : ∀ {ns : List α} {vs : List β}, ns.length = vs.length → ∀ n ∈ ns, ((ns.zip vs).lookup n).isSome = true
  | a :: ns, v :: vs, hl, n, h => by
    simp only [List.zip_cons_cons, List.lookup_cons]
    cases q : n == a with
    | true => rfl
    | false =>
      rcases List.mem_cons.mp h with e | h
      · subst e; simp at q
      · exact lookup_zip_mem (by simpa using hl) n h
theorem filterMap_eq {α β : Type} {f g : α → Option β} : ∀ {l : List α}, (∀ n ∈ l, f n = g n) → l.filterMap f = l.filterMap g
  | [], _ => rfl
  | a :: l, h => by
    simp only [List.filterMap_cons, h a (by simp)]
    rw [filterMap_eq fun n hn => h n (by simp [hn])]
theorem filterMap_zip {α β : Type} [BEq α] [LawfulBEq α] : ∀ {ns : List α} {vs : List β}, ns.length = vs.length → ns.Nodup → ns.filterMap (fun n => ((ns.zip vs).lookup n).map fun x => (n, x)) = ns.zip vs
  | [], [], _, _ => rfl
  | a :: ns, v :: vs, hl, hn => by
    obtain ⟨h1, h2⟩ := List.nodup_cons.mp hn
    simp only [List.zip_cons_cons, List.filterMap_cons, List.lookup_cons, beq_self_eq_true, Option.map_some]
    congr 1
    rw [← filterMap_zip (by simpa using hl) h2]
    refine filterMap_eq fun n hm => ?_
    have : (n == a) = false := by
      rw [beq_eq_false_iff_ne]; rintro rfl; exact h1 hm
    rw [this, filterMap_zip (by simpa using hl) h2]

theorem bind_plain {fd : FuncData} {as : List Arg} {kwd : List (Option PySem.Expr)} {ds : List PySem.Expr} {vals : List Value} (hp : fd.params = ⟨[], as, none, [], kwd, none, ds⟩) (hd : fd.defaults = .none) (hn : (as.map (·.arg)).Nodup) (hl : as.length = vals.length) :
    bindArgs fd ⟨vals, []⟩ = pure ((as.map (·.arg)).zip vals) := by
  have hl' : (as.map (·.arg)).length = vals.length := by rw [List.length_map]; exact hl
  have hm : ((as.map (·.arg)).filter fun n => (((as.map (·.arg)).zip vals).lookup n).isNone) = [] := by
    rw [List.filter_eq_nil_iff]
    intro n h
    have := lookup_zip_mem hl' n h
    rw [Option.isSome_iff_exists] at this
    obtain ⟨x, hx⟩ := this
    rw [hx]; simp
  unfold bindArgs
  simp only [hp, hd, List.map_nil, List.nil_append, List.append_nil]
  have e1 : seqItems? .none = pure none := rfl
  simp only [e1, List.forIn_nil, pure_bind, Option.getD_none]
  generalize as.map (·.arg) = ns at *
  rw [if_neg (by simp [hl'])]
  simp only [List.drop_nil, List.length_nil, Nat.sub_zero, List.take_length, hm, List.isEmpty_nil, Bool.not_true, Bool.false_eq_true, if_false, List.drop_length, List.zip_nil_left, List.forIn_nil, pure_bind]
  rw [filterMap_zip hl' hn]
end Mine
end
section
set_option autoImplicit false
set_option linter.unusedVariables false
namespace Mine
open PySem

noncomputable def argAt : List String → List MV → Str → Option MV
  | x :: xs, v :: vs, n => if n = Str.ofString x then some v else argAt xs vs n
  | _, _, _ => none
theorem sto_args : ∀ (xs : List String) (vs : List MV) (y : String), Sto.ofArgs xs vs y = argAt xs vs (Str.ofString y)
  | [], _, _ => by simp [Sto.ofArgs, argAt]
  | _ :: _, [], _ => by simp [Sto.ofArgs, argAt]
  | x :: xs, v :: vs, y => by
    simp only [Sto.ofArgs, argAt, Sto.set, ofString_eq, sto_args xs vs y]
theorem argAt_mem : ∀ {xs : List String} {vs : List MV} {n : Str} {v : MV}, argAt xs vs n = some v → n ∈ xs.map Str.ofString
  | x :: xs, v :: vs, n, w, h => by
    unfold argAt at h
    split at h
    · rename_i q; simp [q]
    · simp only [List.map_cons, List.mem_cons]; exact .inr (argAt_mem h)
  | [], _, _, _, h => by simp [argAt] at h
  | _ :: _, [], _, _, h => by simp [argAt] at h

theorem bindL_out {kindOf : Str → Option NameKind} {n : Str} : ∀ {b : List (Str × Value)} {m : Str → Option Value}, n ∉ b.map (·.1) → bindL kindOf b m n = m n
  | [], _, _ => rfl
  | (k, v) :: r, m, h => by
    simp only [List.map_cons, List.mem_cons, not_or] at h
    unfold bindL
    rw [bindL_out h.2]
    split
    · exact if_neg h.1
    · rfl
theorem bindC_out {kindOf : Str → Option NameKind} {n : Str} : ∀ {b : List (Str × Value)} {m : Str → Option Value}, n ∉ b.map (·.1) → bindC kindOf b m n = m n
  | [], _, _ => rfl
  | (k, v) :: r, m, h => by
    simp only [List.map_cons, List.mem_cons, not_or] at h
    unfold bindC
    rw [bindC_out h.2]
    split
    · rfl
    · exact if_neg h.1
theorem zip_names {xs : List String} {ws : List Value} : ∀ n, n ∉ xs.map Str.ofString → n ∉ ((xs.map Str.ofString).zip ws).map (·.1) := by
  intro n h q
  obtain ⟨p, hp, rfl⟩ := List.mem_map.mp q
  exact h (List.of_mem_zip hp).1
theorem bind_local {Ψ : Psi} {kindOf : Str → Option NameKind} {n : Str} (hk : kindOf n = some .local) : ∀ {xs : List String} {ws : List Value} {vs : List MV} {v : MV} {m : Str → Option Value}, (xs.map Str.ofString).Nodup → All2 (VRel Ψ) ws vs → argAt xs vs n = some v →
    ∃ w, bindL kindOf ((xs.map Str.ofString).zip ws) m n = some w ∧ VRel Ψ w v
  | x :: xs, w :: ws, v :: vs, v', m, hn, .cons h t, ha => by
    simp only [List.map_cons, List.nodup_cons] at hn
    unfold argAt at ha
    simp only [List.map_cons, List.zip_cons_cons, bindL]
    split at ha
    · rename_i q
      cases ha
      rw [bindL_out (by rw [q]; exact zip_names _ hn.1), ← q, if_pos hk]
      exact ⟨w, if_pos rfl, h⟩
    · exact bind_local hk hn.2 t ha
  | [], _, _, _, _, _, _, h => by simp [argAt] at h
  | _ :: _, [], [], _, _, _, _, h => by simp [argAt] at h
theorem bind_cell {Ψ : Psi} {kindOf : Str → Option NameKind} {n : Str} (hk : kindOf n ≠ some .local) : ∀ {xs : List String} {ws : List Value} {vs : List MV} {v : MV} {m : Str → Option Value}, (xs.map Str.ofString).Nodup → All2 (VRel Ψ) ws vs → argAt xs vs n = some v →
    ∃ w, bindC kindOf ((xs.map Str.ofString).zip ws) m n = some w ∧ VRel Ψ w v
  | x :: xs, w :: ws, v :: vs, v', m, hn, .cons h t, ha => by
    simp only [List.map_cons, List.nodup_cons] at hn
    unfold argAt at ha
    simp only [List.map_cons, List.zip_cons_cons, bindC]
    split at ha
    · rename_i q
      cases ha
      rw [bindC_out (by rw [q]; exact zip_names _ hn.1), ← q, if_neg hk]
      exact ⟨w, if_pos rfl, h⟩
    · exact bind_cell hk hn.2 t ha
  | [], _, _, _, _, _, _, h => by simp [argAt] at h
  | _ :: _, [], [], _, _, _, _, h => by simp [argAt] at h

theorem cells_acc : ∀ {names : List (Str × NameKind)} {k : Nat} {acc : List (Str × Addr)} {p : Str × Addr}, p ∈ acc → p ∈ cellsFrom k names acc
  | [], _, _, _, h => h
  | (n, kd) :: r, k, acc, p, h => by
    unfold cellsFrom
    split
    · exact cells_acc (List.mem_cons_of_mem _ h)
    · exact cells_acc h
theorem cells_in : ∀ {names : List (Str × NameKind)} {k : Nat} {acc : List (Str × Addr)} {n : Str}, (n, NameKind.cell) ∈ names → ∃ c, (n, c) ∈ cellsFrom k names acc
  | (m, kd) :: r, k, acc, n, h => by
    unfold cellsFrom
    rcases List.mem_cons.mp h with e | h
    · cases e
      rw [if_pos (by rfl)]
      exact ⟨k, cells_acc List.mem_cons_self⟩
    · split
      · exact cells_in h
      · exact cells_in h
theorem cells_kind : ∀ {names : List (Str × NameKind)} {k : Nat} {acc : List (Str × Addr)} {p : Str × Addr}, p ∈ cellsFrom k names acc → p ∈ acc ∨ (p.1, NameKind.cell) ∈ names
  | [], _, _, _, h => .inl h
  | (m, kd) :: r, k, acc, p, h => by
    unfold cellsFrom at h
    split at h
    · rename_i q
      obtain rfl : kd = .cell := by cases kd <;> first | rfl | cases q
      rcases cells_kind h with h | h
      · rcases List.mem_cons.mp h with e | h
        · subst e; exact .inr List.mem_cons_self
        · exact .inl h
      · exact .inr (List.mem_cons_of_mem _ h)
    · rcases cells_kind h with h | h
      · exact .inl h
      · exact .inr (List.mem_cons_of_mem _ h)
theorem lookup_nodup {α : Type} : ∀ {l : List (Str × α)} {n : Str} {c : α}, (l.map (·.1)).Nodup → (n, c) ∈ l → l.lookup n = some c
  | (k, v) :: r, n, c, hn, h => by
    simp only [List.map_cons, List.nodup_cons] at hn
    rw [List.lookup_cons]
    rcases List.mem_cons.mp h with e | h'
    · cases e; rw [beq_self_eq_true]
    · have : (n == k) = false := by
        rw [beq_eq_false_iff_ne]; rintro rfl
        exact hn.1 (List.mem_map_of_mem (f := (·.1)) h')
      rw [this]; exact lookup_nodup hn.2 h'
theorem cells_names : ∀ (names : List (Str × NameKind)) (k j : Nat) (a b : List (Str × Addr)), a.map (·.1) = b.map (·.1) → (cellsFrom k names a).map (·.1) = (cellsFrom j names b).map (·.1)
  | [], _, _, _, _, h => h
  | (n, kd) :: r, k, j, a, b, h => by
    unfold cellsFrom
    split
    · exact cells_names r _ _ _ _ (by simp [h])
    · exact cells_names r _ _ _ _ h

noncomputable def Psi.call (Ψ : Psi) (L : Addr) (m : Sto) (cs : List (Str × Addr)) (cv : Str → Option MV) : Psi := fun a => if a = L then some (.ns m) else match cs.find? (fun p => p.2 == a) with
  | some p => some (.cell (cv p.1))
  | none => Ψ a
section
variable {Ψ : Psi} {L : Addr} {m : Sto} {cs : List (Str × Addr)} {cv : Str → Option MV}
theorem Psi.call_L : Ψ.call L m cs cv L = some (.ns m) := if_pos rfl
theorem Psi.call_cell (ha : cs.Pairwise fun x y => x.2 ≠ y.2) (hL : ∀ n c, (n, c) ∈ cs → L < c) {n : Str} {c : Addr} (h : (n, c) ∈ cs) : Ψ.call L m cs cv c = some (.cell (cv n)) := by
  unfold Psi.call
  rw [if_neg (Nat.ne_of_gt (hL n c h))]
  cases q : cs.find? (fun p => p.2 == c) with
  | none =>
    have := List.find?_eq_none.mp q (n, c) h
    simp at this
  | some p =>
    have h1 := List.find?_some q
    have h2 := List.mem_of_find?_eq_some q
    simp only [beq_iff_eq] at h1
    obtain ⟨p1, p2⟩ := p
    dsimp only at h1 ⊢
    subst h1
    rw [name_of_addr ha h h2]
theorem Psi.call_cases {a : Addr} {k : HK} (h : Ψ.call L m cs cv a = some k) : (a = L ∧ k = .ns m) ∨ (∃ n, (n, a) ∈ cs ∧ k = .cell (cv n)) ∨ (Ψ a = some k ∧ a ≠ L ∧ ∀ n, (n, a) ∉ cs) := by
  unfold Psi.call at h
  split at h
  · rename_i q; cases h; exact .inl ⟨q, rfl⟩
  · rename_i q
    split at h
    · rename_i p hp
      have h1 := List.find?_some hp
      simp only [beq_iff_eq] at h1
      cases h
      refine .inr (.inl ⟨p.1, ?_, rfl⟩)
      rw [← h1]; exact List.mem_of_find?_eq_some hp
    · rename_i hp
      refine .inr (.inr ⟨h, q, fun n hm => ?_⟩)
      have := List.find?_eq_none.mp hp (n, a) hm
      simp at this
theorem Psi.call_old {lo : Nat} (hL : lo ≤ L) (hcs : ∀ n c, (n, c) ∈ cs → L < c) {a : Addr} (h : a < lo) : Ψ.call L m cs cv a = Ψ a := by
  unfold Psi.call
  rw [if_neg (Nat.ne_of_lt (Nat.lt_of_lt_of_le h hL))]
  cases q : cs.find? (fun p => p.2 == a) with
  | none => rfl
  | some p =>
    have h1 := List.find?_some q
    have h2 := hcs p.1 p.2 (List.mem_of_find?_eq_some q)
    simp only [beq_iff_eq] at h1
    exact absurd (h1 ▸ h2 : L < a) (Nat.not_lt.mpr (Nat.le_of_lt (Nat.lt_of_lt_of_le h hL)))
end
end Mine
end
section
set_option autoImplicit false
set_option linter.unusedVariables false
namespace Mine
open PySem

/-- what a suite leaves: it goes on, or returns -/
inductive PostN (W : Amb) (fs : List Env) (env : Env) (Ψ : Psi) (N : Sto → MH → Prop) (s' : Shared) : Prop
  | mk (Ψ' : Psi) (H' : MH) (ρ' : Sto) (S : St W fs Ψ' H' s') (K : Keep (ownOf env) Ψ Ψ') (E : EnvRel Ψ' env ρ') (q : N ρ' H')
inductive PostR (W : Amb) (fs : List Env) (env : Env) (Ψ : Psi) (R : MV → MH → Prop) (v : Value) (s' : Shared) : Prop
  | mk (Ψ' : Psi) (H' : MH) (mv : MV) (S : St W fs Ψ' H' s') (K : Keep (ownOf env) Ψ Ψ') (E : ∃ ρ', EnvRel Ψ' env ρ') (hv : VRel Ψ' v mv) (q : R mv H')
noncomputable def PostS (W : Amb) (fs : List Env) (env : Env) (Ψ : Psi) (N : Sto → MH → Prop) (R : MV → MH → Prop) (f : Flow) (s' : Shared) : Prop := match f with
  | .next => PostN W fs env Ψ N s'
  | .ret v => PostR W fs env Ψ R v s'
  | _ => False
inductive PostY (W : Amb) (fs : List Env) (env : Env) (Ψ : Psi) (X : String → Sto → MH → Prop) (e : Value) (s' : Shared) : Prop
  | mk (ea : Addr) (c : String) (Ψ' : Psi) (H' : MH) (ρ' : Sto) (he : e = .ref ea) (F : Fly W fs Ψ' ea c s'.heap) (S : St W fs Ψ' H' s') (K : Keep (ownOf env) Ψ Ψ') (E : EnvRel Ψ' env ρ') (q : X c ρ' H')
theorem PostX.toY {W : Amb} {fs : List Env} {env : Env} {Ψ Ψ₁ : Psi} {ρ : Sto} {X : String → Sto → MH → Prop} {e : Value} {s' : Shared} (R : EnvRel Ψ₁ env ρ) (K : Keep (ownOf env) Ψ Ψ₁) (x : PostX W fs Ψ₁ (fun c H => X c ρ H) e s') : PostY W fs env Ψ X e s' := by
  cases x with | mk ea c Ψ' H' a b d k r => exact ⟨ea, c, Ψ', H', ρ, a, b, d, K.trans k.of_none, R.keep k, r⟩
theorem PostS.from {W : Amb} {fs : List Env} {env : Env} {Ψ Ψ₁ : Psi} {N : Sto → MH → Prop} {R : MV → MH → Prop} {f : Flow} {s' : Shared} (K : Keep (ownOf env) Ψ Ψ₁) (x : PostS W fs env Ψ₁ N R f s') : PostS W fs env Ψ N R f s' := by
  cases f with
  | next => obtain ⟨Ψ', H', ρ', a, b, c, d⟩ := x; exact ⟨Ψ', H', ρ', a, K.trans b, c, d⟩
  | ret v => obtain ⟨Ψ', H', mv, a, b, c, d, e⟩ := x; exact ⟨Ψ', H', mv, a, K.trans b, c, d, e⟩
  | _ => exact x
theorem PostY.from {W : Amb} {fs : List Env} {env : Env} {Ψ Ψ₁ : Psi} {X : String → Sto → MH → Prop} {e : Value} {s' : Shared} (K : Keep (ownOf env) Ψ Ψ₁) (x : PostY W fs env Ψ₁ X e s') : PostY W fs env Ψ X e s' := by
  cases x with | mk ea c Ψ' H' ρ' a b d k i r => exact ⟨ea, c, Ψ', H', ρ', a, b, d, K.trans k, i, r⟩

/-- the meaning of a suite is sound -/
noncomputable def SndSs (W : Amb) (Δ : CallT) (n : Nat) (nm : Names) (ms : MSs) (xs : List Stmt) : Prop :=
  ∀ {hd : Bool} {A : Around} {outer : List Env} {env : Env} {ρ : Sto} {Ψ : Psi} {H : MH} {s : Shared} {N : Sto → MH → Prop} {R : MV → MH → Prop} {X : String → Sto → MH → Prop},
    Cx n hd A (env :: outer) env nm → EnvRel Ψ env ρ → St W (env :: outer) Ψ H s → wSs Δ hd ms ρ H N R X → wpAny W.M A (execs xs env) (PostS W (env :: outer) env Ψ N R) (PostY W (env :: outer) env Ψ X) s
noncomputable def SndS (W : Amb) (Δ : CallT) (n : Nat) (nm : Names) (ms : MS) (x : Stmt) : Prop :=
  ∀ {hd : Bool} {A : Around} {outer : List Env} {env : Env} {ρ : Sto} {Ψ : Psi} {H : MH} {s : Shared} {N : Sto → MH → Prop} {R : MV → MH → Prop} {X : String → Sto → MH → Prop},
    Cx n hd A (env :: outer) env nm → EnvRel Ψ env ρ → St W (env :: outer) Ψ H s → wS Δ hd ms ρ H N R X → wpAny W.M A (exec x env) (PostS W (env :: outer) env Ψ N R) (PostY W (env :: outer) env Ψ X) s

section
variable {W : Amb} {fs : List Env} {Ψ : Psi} {H : MH} {s s' : Shared} {A : Around}

/-- a flight leaves the ledger's things alone -/
theorem St.flown {B : Heap} (S : St W fs Ψ H s) (hB : ∀ a k, Ψ a = some k → (∀ m, k ≠ .ns m) → ∃ o, B.get? a = some o) (h0 : W.h₀.StaysIn B) (hs : B.StaysIn s.heap) (hs' : B.StaysIn s'.heap) (hu : s.heap.UpToSlots s'.heap) (hg : s'.gens = s.gens) (ho : s'.os = s.os) : St W fs Ψ H s' := by
  refine ⟨fun a k e => ?_, S.fresh, S.heap, fun b o e => hs' b o (h0 b o e), S.frames, hg.trans S.gens, ho.trans S.os, S.dsys⟩
  obtain ⟨o, h1, h2⟩ := S.typed a k e
  by_cases hk : ∃ m, k = .ns m
  · obtain ⟨m, rfl⟩ := hk
    obtain ⟨ents, n, hd, hk, hf⟩ := h2
    obtain ⟨sl, h3⟩ := hu a o h1 fun vs q => by rw [hd] at q; cases q
    exact ⟨_, h3, ents, n, hd, hk, hf⟩
  · obtain ⟨o', h3⟩ := hB a k e fun m q => hk ⟨m, q⟩
    have := hs a o' h3
    rw [h1] at this
    cases this
    exact ⟨o, hs' a o h3, h2⟩

theorem FunFrames.tail {h B : Heap} {env : Env} {outer : List Env} (x : h.FunFrames B (env :: outer)) : h.FunFrames B outer := x.2.2

/-- an exception leaves a frame -/
theorem leaves {env : Env} {outer : List Env} {e : Addr} {c : String} {Q : Unit → Shared → Prop} {E : Value → Shared → Prop} (hfr : A.frames = some (env :: outer)) (F : Fly W (env :: outer) Ψ e c s.heap) (S : St W (env :: outer) Ψ H s)
    (h : ∀ s', Fly W outer Ψ e c s'.heap → St W (env :: outer) Ψ H s' → Q () s') : wpAny W.M A (leaving env (.ref e)) Q E s := by
  obtain ⟨hcn, B, h0, hB, hn, hk, hf, hx⟩ := F
  obtain ⟨L, _, hL, _⟩ := hf.2.1
  rcases hx with ⟨a0, hx⟩ | ⟨a0, L', env', outer', q, hL', hx⟩ | ⟨oe, vs, a0, he, hc, hd, h0', h1⟩
  · refine wpAny_leaves_onW hfr hL ⟨hB, hn, hf, hx⟩ fun h' hfl hu => ?_
    exact h _ ⟨hcn, B, h0, hfl.1, hn, hk, hfl.2.2.1, .inl ⟨a0, hfl.2.2.2⟩⟩ (S.flown hk h0 hB hfl.1 hu rfl rfl)
  · cases q
    unfold leaving
    refine wpAny_bind (wpAny_noteFrame_againW hL' hx ?_)
    refine wpAny_landsW (l := env :: outer) (L := L') ⟨hB, hn, hf, hx⟩ fun h' hfl hu => ?_
    exact h _ ⟨hcn, B, h0, hfl.1, hn, hk, hfl.2.2.1.2.2, .inl ⟨a0, hfl.2.2.2⟩⟩ (S.flown hk h0 hB hfl.1 hu rfl rfl)
  · refine wpAny_leaving_firstW hfr hf hL he hB hn hd h1 h0' fun h' hl => ?_
    obtain ⟨k1, k2, k3, k4⟩ := hl
    rw [hc] at k3
    exact h _ ⟨hcn, B, h0, k1, hn, hk, k2.2.2, .inl ⟨a0, k3⟩⟩ (S.flown hk h0 hB k1 k4 rfl rfl)

theorem St.unframe {env : Env} {outer : List Env} (S : St W (env :: outer) Ψ H s) : St W outer Ψ H s :=
  ⟨S.typed, S.fresh, S.heap, S.base, fun e he => S.frames e (List.mem_cons_of_mem _ he), S.gens, S.os, S.dsys⟩
end

/-- what must be known of a def -/
structure FnIs (h₀ : Heap) (a : Addr) (fd : FuncData) (body : List Stmt) (params : List String) : Prop where
  at_ : ∃ o, h₀.get? a = some o ∧ o.data = .func fd
  body : fd.body = .stmts body
  par : ∃ as kwd ds, fd.params = ⟨[], as, none, [], kwd, none, ds⟩ ∧ as.map (·.arg) = params.map Str.ofString
  dflt : fd.defaults = .none
  nodup : (params.map Str.ofString).Nodup
  clo : fd.closure = []
  glob : fd.globals = mainGlobals
  blt : fd.builtins = builtinsNs
  code : h₀.CodeRec fd.code fd.qualname
  kinds : ∀ x ∈ params.map Str.ofString, fd.scope.names.lookup x = some .local ∨ fd.scope.names.lookup x = some .cell
  names : (fd.scope.names.map (·.1)).Nodup
  cells : ((cellsFrom 0 fd.scope.names []).map (·.1)).Nodup
  co : fd.scope.isCoroutine = false
  gen : fd.scope.isGenerator = false
  kind : fd.scope.kind = .function

/-- what a call needs of its place -/
structure CxC (n : Nat) (hd : Bool) (A : Around) (fs : List Env) : Prop where
  frames : A.frames = some fs
  hand : hd = false → A.handled = none
  depth : A.depth + n ≤ 900
  units : A.units + 4 * n ≤ 9000

noncomputable def SndF (W : Amb) (n : Nat) (call1 : Bool → List MV → MH → (MV → MH → Prop) → (String → MH → Prop) → Prop) (f : Value) : Prop :=
  ∀ {hd : Bool} {A : Around} {fs : List Env} {Ψ : Psi} {H : MH} {s : Shared} {vs : List Value} {mvs : List MV} {Q : MV → MH → Prop} {X : String → MH → Prop},
    CxC n hd A fs → St W fs Ψ H s → All2 (VRel Ψ) vs mvs → call1 hd mvs H Q X → codeAny W.M A (.call f ⟨vs, []⟩) (fun r s' => match r with
      | .ok (.ret v) => PostE W fs Ψ Q v s'
      | .ok _ => False
      | .error e => PostX W fs Ψ X e s') s
theorem CxC.le {n m : Nat} {hd : Bool} {A : Around} {fs : List Env} (x : CxC n hd A fs) (h : m ≤ n) : CxC m hd A fs := ⟨x.frames, x.hand, by have := x.depth; omega, by have := x.units; omega⟩
theorem SndF.le {W : Amb} {n m : Nat} {c : Bool → List MV → MH → (MV → MH → Prop) → (String → MH → Prop) → Prop} {f : Value} (x : SndF W m c f) (h : m ≤ n) : SndF W n c f := fun C S v z => x (C.le h) S v z

theorem call_fn {W : Amb} {K : PySem.W.Frag} {Δ : CallT} {n : Nat} {a : Addr} {fd : FuncData} {body : List Stmt} {params : List String} {ms : MSs} (F : Facts W K) (D : FnIs W.h₀ a fd body params) (hb : SndSs W Δ n fd.scope.names ms body) :
    SndF W (n + 1) (fun hd vs H Q X => params.length = vs.length ∧ wSs Δ hd ms (Sto.ofArgs params vs) H (fun _ H' => Q .none H') Q (fun c _ H' => X c H')) (.ref a) := by
  intro hd A fs Ψ H s vs mvs Q X C S hv h
  obtain ⟨hlen, h⟩ := h
  obtain ⟨o, ho, hod⟩ := D.at_
  obtain ⟨as, kwd, ds, hp, has⟩ := D.par
  have e1 : (as.map (·.arg)).length = as.length := List.length_map ..
  have e2 := hv.length_eq
  have hbind := bind_plain (vals := vs) hp D.dflt (by rw [has]; exact D.nodup) (by rw [← e1, has, List.length_map, hlen, e2])
  rw [has] at hbind
  have hroom : A.depth < recursionLimit := by have := C.depth; show A.depth < 1000; omega
  have hcs : ((cellsFrom (s.heap.objs.size + 1) fd.scope.names []).map (·.1)).Nodup := cells_names fd.scope.names 0 (s.heap.objs.size + 1) [] [] rfl ▸ D.cells
  refine codeAny_call_cells hroom (S.base _ _ ho) hod (F.nolim.keeps S.base) (D.code.keeps S.base) D.body hbind D.clo (fun x hx => ?_) (fun s₁ I => ?_) D.co D.gen D.kind
  · have hm : x.1 ∈ params.map Str.ofString := (List.of_mem_zip hx).1
    rcases D.kinds x.1 hm with q | q
    · exact .inl q
    · refine .inr ⟨q, ?_⟩
      obtain ⟨c, hc⟩ := cells_in (k := s.heap.objs.size + 1) (acc := []) (mem_of_lookup q)
      rw [lookup_nodup hcs hc]; rfl
  · generalize hE : callEnvC fd s.heap.objs.size a = env at I ⊢
    have hEs : env.scope = fd.scope := by rw [← hE]; rfl
    have hEL : env.locals = s.heap.objs.size := by rw [← hE]; rfl
    have hEf : env.frame = some env.locals := by rw [← hE]; rfl
    have hEc : env.cells = cellsFrom (s.heap.objs.size + 1) fd.scope.names [] := by rw [← hE]; rfl
    have hEg : env.globals = mainGlobals := by rw [← hE]; exact D.glob
    have hEb : env.builtins = builtinsNs := by rw [← hE]; exact D.blt
    have hEk : ∀ x, env.kindOf x = fd.scope.names.lookup x := by intro x; rw [← hE]; rfl
    obtain ⟨IC, Icell, Iapart, Iabove⟩ := I
    obtain ⟨h₁, tk, hs₁⟩ := IC.same
    -- the ledger of the call
    let m : Sto := fun x => if env.kindOf (Str.ofString x) = some .local then Sto.ofArgs params mvs x else none
    let Ψ₁ : Psi := Ψ.call env.locals m env.cells (argAt params mvs)
    have hold : ∀ b k, Ψ b = some k → Ψ₁ b = some k := fun b k e => by
      obtain ⟨o', ho', _⟩ := S.typed b k e
      exact (Psi.call_old (lo := s.heap.objs.size) (Nat.le_of_eq hEL.symm) Iabove (Heap.lt_size ho')).trans e
    have hfix : Fix Ψ Ψ₁ := fun b k e _ => hold b k e
    have hnew : ∀ b k, Ψ₁ b = some k → Ψ b = none → W.h₀.get? b = none := fun b k e hb => by
      have big : s.heap.objs.size ≤ b := by
        rcases Psi.call_cases e with ⟨q, _⟩ | ⟨n', hm, _⟩ | ⟨q, _⟩
        · rw [q, hEL]; exact Nat.le_refl _
        · exact Nat.le_of_lt (Nat.lt_of_le_of_lt (Nat.le_of_eq hEL.symm) (Iabove n' b hm))
        · rw [hb] at q; cases q
      cases q : W.h₀.get? b with
      | none => rfl
      | some o' => exact absurd (Heap.lt_size (S.base b o' q)) (Nat.not_lt.mpr big)
    have hkeep : Keep none_ Ψ Ψ₁ := ⟨hfix, fun b k e _ _ => hold b k e, fun b k e => ⟨k, hold b _ e⟩, fun b k e => ⟨k, hold b _ e⟩⟩
    have S₁ : St W (env :: fs) Ψ₁ H s₁ := by
      refine ⟨fun b k e => ?_, fun b k e hk => ?_, fun b x e => (S.heap b x e).keepN hold, fun b o' e => IC.keep b o' (S.base b o' e), fun e' he => ?_, ?_, ?_, fun b es e => ?_⟩
      · rcases Psi.call_cases e with ⟨rfl, rfl⟩ | ⟨n', hm, rfl⟩ | ⟨q, _⟩
        · obtain ⟨oL, es, ep, hoL, hdL, hkL, hfL⟩ := IC.ns
          refine ⟨oL, hoL, es, ep, hdL, hkL, fun x v hx => ?_⟩
          have hx' : (if env.kindOf (Str.ofString x) = some .local then Sto.ofArgs params mvs x else none) = some v := hx
          split at hx'
          · rename_i hl
            rw [sto_args] at hx'
            obtain ⟨w, h1, h2⟩ := bind_local (m := fun _ => none) hl D.nodup hv hx'
            exact ⟨w, (hfL _).trans h1, h2.mono hfix⟩
          · cases hx'
        · have hlk : env.cells.lookup n' = some b := by rw [hEc] at hm ⊢; exact lookup_nodup hcs hm
          obtain ⟨oc, hoc, hdc⟩ := Icell n' b hlk
          refine ⟨oc, hoc, ⟨_, hdc⟩, fun mv hmv => ?_⟩
          have hkc : env.kindOf n' = some .cell := by
            rw [hEk]
            refine lookup_nodup D.names ?_
            rcases cells_kind (hEc ▸ hm) with q | q
            · cases q
            · exact q
          obtain ⟨w, h1, h2⟩ := bind_cell (kindOf := env.kindOf) (m := fun _ => none) (by rw [hkc]; decide) D.nodup hv hmv
          exact ⟨w, hdc.trans (by rw [h1]), h2.mono hfix⟩
        · obtain ⟨o', ho', hr⟩ := S.typed b k q
          exact ⟨o', IC.keep b o' ho', hr.mono hfix⟩
      · cases q : Ψ b with
        | none => exact hnew b k e q
        | some k' =>
          have := hold b k' q
          rw [e] at this
          cases this
          exact S.fresh b k q hk
      · rcases List.mem_cons.mp he with rfl | he
        · exact ⟨by rw [hEs, D.kind]; decide, e'.locals, m, hEf, Psi.call_L⟩
        · obtain ⟨p, L, m', q, r⟩ := S.frames e' he
          exact ⟨p, L, m', q, hold _ _ r⟩
      · rw [hs₁]; exact S.gens
      · rw [hs₁]; exact S.os
      · rcases Psi.call_cases e with ⟨_, q⟩ | ⟨_, _, q⟩ | ⟨q, _⟩
        · cases q
        · cases q
        · exact S.dsys b es q
    have R₁ : EnvRel Ψ₁ env (Sto.ofArgs params mvs) := by
      refine ⟨by rw [hEs]; exact D.kind, hEg, hEb, ⟨m, Psi.call_L, fun x v _ hx hv' => ?_⟩, fun x v hx hv' => ?_, fun n' hn' => ?_, Iapart⟩
      · show (if env.kindOf (Str.ofString x) = some .local then Sto.ofArgs params mvs x else none) = some v
        rw [if_pos hx]; exact hv'
      · rw [sto_args] at hv'
        have hc : fd.scope.names.lookup (Str.ofString x) = some .cell := by
          rcases D.kinds _ (argAt_mem hv') with q | q
          · rcases hx with hx | hx <;> (rw [hEk, q] at hx; cases hx)
          · exact q
        obtain ⟨c, hc'⟩ := cells_in (k := s.heap.objs.size + 1) (acc := []) (mem_of_lookup hc)
        refine ⟨c, by rw [hEc]; exact lookup_nodup hcs hc', ?_⟩
        rw [← hv']
        exact Psi.call_cell Iapart Iabove (hEc ▸ hc')
      · rw [hEk] at hn'
        obtain ⟨c, hc'⟩ := cells_in (k := s.heap.objs.size + 1) (acc := []) (mem_of_lookup hn')
        exact ⟨c, _, by rw [hEc]; exact lookup_nodup hcs hc', Psi.call_cell Iapart Iabove (hEc ▸ hc')⟩
    have C₁ : Cx n hd (A.deeper env) (env :: fs) env fd.scope.names :=
      ⟨Around.frames_deeper C.frames, ⟨env, fs, rfl, rfl⟩, by rw [hEs], C.hand, by have := C.depth; show A.depth + 1 + n ≤ 900; omega, by have := C.units; show A.units + 3 + 4 * n ≤ 9000; omega⟩
    have back : ∀ Ψ', Keep (ownOf env) Ψ₁ Ψ' → Keep none_ Ψ Ψ' := fun Ψ' K' => by
      refine (hkeep.of_none.trans K').drop fun b hb => .inl ?_
      cases q : Ψ b with
      | none => rfl
      | some k' =>
        exfalso
        obtain ⟨o', ho', _⟩ := S.typed b k' q
        have lt := Heap.lt_size ho'
        rcases hb with rfl | ⟨n', _, hl⟩
        · rw [hEL] at lt; exact Nat.lt_irrefl _ lt
        · have := Iabove n' b (mem_of_lookup hl)
          rw [hEL] at this
          exact Nat.lt_irrefl _ (Nat.lt_trans lt this)
    refine wpAny_mono (hb C₁ R₁ S₁ h) (fun f s' hf => ?_) fun e s' he => ?_
    · cases f with
      | next =>
        obtain ⟨Ψ', H', ρ', S', K', _, q⟩ := hf
        exact ⟨Ψ', H', .none, S'.unframe, back _ K', .none, q⟩
      | ret v =>
        obtain ⟨Ψ', H', mv, S', K', _, v', q⟩ := hf
        exact ⟨Ψ', H', mv, S'.unframe, back _ K', v', q⟩
      | _ => exact hf.elim
    · obtain ⟨ea, c, Ψ', H', ρ', rfl, hfl, S', K', _, q⟩ := he
      refine leaves C₁.frames hfl S' fun s'' hfl' S'' => ?_
      exact ⟨ea, c, Ψ', H', rfl, hfl', S''.unframe, back _ K', q⟩
end Mine
end
section
set_option autoImplicit false
set_option linter.unusedVariables false
namespace Mine
open PySem

section
variable {W : Amb} {K : PySem.W.Frag} {Δ : CallT} {n : Nat} {nm : Names}

theorem Cx.c {hd : Bool} {A : Around} {fs : List Env} {env : Env} (C : Cx n hd A fs env nm) : CxC n hd A fs := ⟨C.frames, C.hand, C.depth, C.units⟩
theorem keeps_text {f : Value} (F : Facts W K) (hk : PySem.W.keepIn K f = true) : ∀ h, W.h₀.StaysIn h → ∃ k, (k = Keeper.frame ∨ k = Keeper.machine ∨ k = Keeper.boundFrame) ∧ PySem.W.Looks W.M h (keeperOf f) k :=
  fun h hs => PySem.W.keeps_K hk h (F.inn.keeps hs)
noncomputable def defOk (K : PySem.W.Frag) (f : String) (a : Addr) : Bool := (PySem.W.nsIn K mainGlobals (Str.ofString f) == some (some (.ref a))) && PySem.W.keepIn K (.ref a)
theorem snd_call {f : String} {es : MEs} {xs : List PySem.Expr} {id : Str} {p pos : Pos} {a : Addr} (F : Facts W K) (hx : isGlob nm f id = true) (hd : defOk K f a = true) (hp : allPlain xs = true) (hl : SndL W Δ n nm es xs) (hf : SndF W n (fun hd => Δ hd f) (.ref a)) :
    SndE W Δ n nm (.call f es) (.Call (.Name id p) xs [] pos) := by
  intro hd' A fs env ρ Ψ H s Q X C R S h
  exact wpAny_bind (loadGlob F C R S hx (eq_of_beq (and_of hd).1) (callArgs (keeps_text F (and_of hd).2) hp hl C R S h fun Ψ₁ H₁ s₁ vs mvs S₁ K₁ va z => wpAny_call (hf C.c S₁ va z)))

noncomputable def methOk (ca : String → Addr) (K : PySem.W.Frag) (m : Str) (a : Addr) : Bool := PySem.W.plainGet K (ca "Train") m && (PySem.W.findIn K (.ref (ca "Train")) m == some (some (.ref a))) && (PySem.W.typeIn K (.ref a) == some (.type "function")) && PySem.W.keepIn K (.ref a)
theorem snd_meth {e : ME} {m : String} {es : MEs} {x : PySem.Expr} {xs : List PySem.Expr} {nf : Str} {apos pos : Pos} {a : Addr} (F : Facts W K) (hf : strEq nf (Str.ofString m) = true) (hm : methOk W.ca K (Str.ofString m) a = true) (hb : notSuper x = true) (hp : allPlain xs = true) (hlen : xs.length < 29)
    (hpos : (apos.endLine == pos.line) = true) (he : SndE W Δ n nm e x) (hl : SndL W Δ n nm es xs) (hc : SndF W n (fun hd => Δ hd m) (.ref a)) : SndE W Δ n nm (.meth e m es) (.Call (.Attribute x nf apos) xs [] pos) := by
  intro hd A fs env ρ Ψ H s Q X C R S h
  obtain rfl := strEq_eq hf
  refine methCall hb hp hlen hpos (monoE (he C R S h) fun Ψ₁ H₁ mv v s₁ S₁ K₁ va h₁ pl => ?_)
  obtain ⟨b, l, rfl, hl', hno, h₁⟩ := h₁
  obtain rfl := vref va
  obtain ⟨hm, m4⟩ := and_of hm
  obtain ⟨hm, m3⟩ := and_of hm
  obtain ⟨m1, m2⟩ := and_of hm
  obtain ⟨ox, d, od, ents, k, e1, e2, I, hdx, hod, hex, hk, hs, hsz, hn, _⟩ := S₁.inst hl'
  refine PySem.W.method_fn (F.at S₁) I (PySem.W.plainGet_of m1).1 (PySem.W.plainGet_of m1).2 (eq_of_beq m2) (eq_of_beq m3) ?_ ?_
  · show (PySem.W.lookIn (Str.ofString m) od).map _ = _
    rw [look_own hs hk, hn _ hno]; rfl
  · exact lift K₁ (callArgs (first := [.ref b]) (keeps_text F m4) hp hl C (R.keep K₁) S₁ h₁ fun Ψ₂ H₂ s₂ vs mvs S₂ K₂ va₂ z => wpAny_call (hc C.c S₂ (vs := .ref b :: vs) (.cons .ref va₂) z))

/-- a new instance, before its `__init__` -/
theorem St.newInst {fs : List Env} {Ψ : Psi} {H : MH} {s : Shared} (S : St W fs Ψ H s) :
    ∃ Ψ', St W fs Ψ' (H.set (s.heap.objs.size + 1) (.inst [])) { s with heap := (s.heap.push PySem.W.emptyDict).push (PySem.W.instObj (W.ca "Train") s.heap.objs.size) } ∧ Keep none_ Ψ Ψ' ∧ H (s.heap.objs.size + 1) = none := by
  have S1 := S.push (s' := { s with heap := s.heap.push PySem.W.emptyDict }) (k := .idict (s.heap.objs.size + 1) []) (o := PySem.W.emptyDict) rfl
    ⟨⟨rfl, rfl, rfl⟩, #[], 0, rfl, ⟨fun _ he => by simp at he, Nat.le_refl _⟩, fun x _ => rfl, fun x mv h => Option.noConfusion rfl (heq_of_eq h)⟩ rfl rfl rfl
  have e : ({ s with heap := s.heap.push PySem.W.emptyDict } : Shared).heap.objs.size = s.heap.objs.size + 1 := Heap.size_push ..
  have S2 := S1.push (s' := { s with heap := (s.heap.push PySem.W.emptyDict).push (PySem.W.instObj (W.ca "Train") s.heap.objs.size) }) (k := .inst s.heap.objs.size) (o := PySem.W.instObj (W.ca "Train") s.heap.objs.size) rfl
    ⟨rfl, rfl, rfl⟩ rfl rfl rfl
  rw [e] at S2
  have hn := S1.free_at
  rw [e] at hn
  have K2 := S1.pushKeep (.inst s.heap.objs.size)
  rw [e] at K2
  refine ⟨_, S2.shown ⟨s.heap.objs.size, Psi.set_self _ _ _, ?_⟩, (S.pushKeep _).trans K2, hn⟩
  rw [Psi.set_ne _ _ (Nat.ne_of_lt (Nat.lt_succ_self _)), Psi.set_self]

noncomputable def mkOk (ca : String → Addr) (K : PySem.W.Frag) (a : Addr) : Bool := (PySem.W.nsIn K mainGlobals (Str.ofString "Train") == some (some (.ref (ca "Train")))) && PySem.W.keepIn K (.ref (ca "Train")) && PySem.W.makesIn K (ca "Train") &&
  (PySem.W.findIn K (.ref (ca "Train")) "__init__" == some (some (.ref a))) && (PySem.W.typeIn K (.ref a) == some (.type "function"))
theorem snd_mk {es : MEs} {xs : List PySem.Expr} {id : Str} {p pos : Pos} {a : Addr} (F : Facts W K) (hx : isGlob nm "Train" id = true) (hm : mkOk W.ca K a = true) (hp : allPlain xs = true) (hl : SndL W Δ (n + 1) nm es xs) (hf : SndF W n (fun hd => Δ hd "__init__") (.ref a)) :
    SndE W Δ (n + 1) nm (.mk es) (.Call (.Name id p) xs [] pos) := by
  intro hd' A fs env ρ Ψ H s Q X C R S h
  obtain ⟨hm, m5⟩ := and_of hm
  obtain ⟨hm, m4⟩ := and_of hm
  obtain ⟨hm, m3⟩ := and_of hm
  obtain ⟨m1, m2⟩ := and_of hm
  refine wpAny_bind (loadGlob F C R S hx (eq_of_beq m1) (callArgs (keeps_text F m2) hp hl C R S h fun Ψ₁ H₁ s₁ vs mvs S₁ K₁ va z => ?_))
  obtain ⟨Ψ₂, S₂, K₂, hn⟩ := S₁.newInst
  have hY := F.at S₁
  obtain ⟨h1, g1, d1, t1, os1⟩ := s₁
  refine wpAny_call (PySem.W.make_core (PySem.W.makes_of hY m3) (PySem.W.looks_findIn hY (eq_of_beq m4)) (fun self => PySem.W.bind_fn hY self (eq_of_beq m5)) (.inl rfl) ?_)
  have CC : CxC n hd' (A.under (.builtin "type.__call__" ⟨.ref (W.ca "Train") :: vs, []⟩)) fs :=
    ⟨C.frames, C.hand, by have := C.depth; show A.depth + 1 + n ≤ 900; omega, by have := C.units; show A.units + 1 + 4 * n ≤ 9000; omega⟩
  refine codeAny_mono (hf CC S₂ (vs := .ref (h1.objs.size + 1) :: vs) (.cons .ref (va.mono fun _ _ => VRel.mono K₂.fix)) (z _ hn)) fun r s' q => ?_
  cases r with
  | error e => exact PostX.from K₂ q
  | ok f =>
    cases f with
    | ret v =>
      obtain ⟨Ψ', H', mv, S', K', v', rfl, q⟩ := q
      obtain rfl := vnone v'
      exact ⟨rfl, Ψ', H', .ref (h1.objs.size + 1), S', K₂.trans K', .ref, q⟩
    | _ => exact q.elim
end
end Mine
end
section
set_option autoImplicit false
set_option linter.unusedVariables false
namespace Mine
open PySem

section
variable {W : Amb} {K : PySem.W.Frag} {Δ : CallT} {n : Nat} {nm : Names} {fs : List Env} {Ψ : Psi} {H : MH} {s : Shared} {A : Around} {E : Value → Shared → Prop}

noncomputable def slotLike : HK → Bool
  | .ns _ | .cell _ | .raw _ | .hid _ => true
  | _ => false
theorem slot_sort {k k' : HK} (h : slotLike k = true) (h' : k'.sort = 0 ∨ k'.sort = 5) : k.sort ≠ k'.sort := by
  have : k.sort ≠ 0 ∧ k.sort ≠ 5 := by cases k <;> first | exact absurd h Bool.noConfusion | exact ⟨Nat.succ_ne_zero _, fun q => by cases q⟩
  rcases h' with h' | h' <;> rw [h']
  · exact this.1
  · exact this.2
/-- turning a slot leaves what is seen -/
theorem heap_slot (S : St W fs Ψ H s) {a : Addr} {k₀ k : HK} (e : Ψ a = some k₀) (hs : slotLike k₀ = true) : ∀ b x, H b = some x → HRel (Ψ.set a k) b x :=
  fun b x hb => (S.heap b x hb).keepS fun c k' e' q => Psi.set_sort e e' (slot_sort hs q)

noncomputable def storeKind : Option NameKind → Bool
  | some .local | some .cell => true
  | _ => false
noncomputable def isTarget (nm : Names) (x : String) (id : Str) : Bool := strEq id (Str.ofString x) && storeKind (nm.lookup id)

/-- the slot of a name -/
noncomputable def slotOf (env : Env) (id : Str) (a : Addr) : Prop := (env.kindOf id = some .local ∧ a = env.locals) ∨ (env.kindOf id = some .cell ∧ env.cells.lookup id = some a)
theorem slot_own {env : Env} {id : Str} {a : Addr} (h : slotOf env id a) : ownOf env a := by
  rcases h with ⟨_, h⟩ | ⟨h1, h2⟩
  · exact .inl h
  · exact .inr ⟨id, h1, h2⟩
theorem storeVar {env : Env} {ρ : Sto} {x : String} {id : Str} {v : Value} {mv : MV} {QQ : Unit → Shared → Prop} (hnm : env.scope.names = nm) (R : EnvRel Ψ env ρ) (S : St W fs Ψ H s) (hx : isTarget nm x id = true) (hv : VRel Ψ v mv)
    (h : ∀ Ψ' s', St W fs Ψ' H s' → Keep (slotOf env id) Ψ Ψ' → EnvRel Ψ' env (ρ.set x mv) → QQ () s') : wpAny W.M A (storeName env id v) QQ E s := by
  simp only [isTarget, Bool.and_eq_true] at hx
  obtain ⟨h1, h2⟩ := hx
  obtain rfl := strEq_eq h1
  rw [← hnm] at h2
  obtain ⟨m, hL, hm⟩ := R.loc
  unfold storeKind at h2
  split at h2
  · rename_i hk
    have hk : env.kindOf (Str.ofString x) = some .local := hk
    obtain ⟨o, ho, ents, k, hd, hs, hf⟩ := S.typed _ _ hL
    refine wpAny_storeName_local hk (m := nsFind ents) ⟨o, ents, k, ho, hd, hs, fun _ => rfl⟩ (fun h' hn hsb => ?_) (by rw [R.kind]; rfl)
    obtain ⟨o', ents', k', ho', hd', hs', hf'⟩ := hn
    have F : Fix Ψ (Ψ.set env.locals (.ns (m.set x mv))) := .set_turn _ hL rfl
    refine h (Ψ.set env.locals (.ns (m.set x mv))) _ (S.turned (s' := { s with heap := h', toks := s.toks + 1 }) (k := .ns (m.set x mv)) hL rfl (fun m' q => ⟨_, rfl⟩) ⟨ents', k', hd', hs', fun y w hy => ?_⟩ hsb ho' (heap_slot S hL rfl) rfl rfl)
      (Keep.set_own hL rfl (.inl ⟨hk, rfl⟩) (fun _ _ => ⟨_, rfl⟩) (fun _ q => by cases q)) ?_
    · unfold Sto.set at hy
      split at hy
      · rename_i q; subst q; cases hy
        exact ⟨v, (hf' _).trans (if_pos rfl), hv.mono F⟩
      · rename_i q
        obtain ⟨w', e1, e2⟩ := hf y w hy
        exact ⟨w', (hf' _).trans ((if_neg fun z => q (ofString_inj z)).trans e1), e2.mono F⟩
    · refine ⟨R.kind, R.glob, R.blt, ⟨m.set x mv, Psi.set_self _ _ _, fun y w h0 hy hw => ?_⟩, fun y w hy hw => ?_, fun n' hn' => ?_, R.apart⟩
      · unfold Sto.set at hw ⊢
        split at hw
        · rename_i q; rw [if_pos q]; exact hw
        · rename_i q; rw [if_neg q]; exact hm y w h0 hy hw
      · unfold Sto.set at hw
        split at hw
        · rename_i q; subst q; rcases hy with hy | hy <;> (rw [hk] at hy; cases hy)
        · obtain ⟨c, e1, e2⟩ := R.val y w hy hw
          exact ⟨c, e1, (Psi.set_ne _ _ fun q => by subst q; rw [hL] at e2; cases e2).trans e2⟩
      · obtain ⟨c, w, e1, e2⟩ := R.cel n' hn'
        exact ⟨c, w, e1, (Psi.set_ne _ _ fun q => by subst q; rw [hL] at e2; cases e2).trans e2⟩
  · rename_i hk
    have hk : env.kindOf (Str.ofString x) = some .cell := hk
    obtain ⟨c, w, hc, hcw⟩ := R.cel _ hk
    obtain ⟨o, ho, ⟨v0, hd⟩, _⟩ := S.typed _ _ hcw
    refine wpAny_storeName_cell R.kind hk hc ⟨o, ho, hd⟩ fun h' hn hsb => ?_
    obtain ⟨o', ho', hd'⟩ := hn
    have F : Fix Ψ (Ψ.set c (.cell (some mv))) := .set_turn _ hcw rfl
    refine h (Ψ.set c (.cell (some mv))) _ (S.turned (s' := { s with heap := h' }) (k := .cell (some mv)) hcw rfl (fun m' q => by cases q) ⟨⟨_, hd'⟩, fun mv' q => by cases q; exact ⟨v, hd', hv.mono F⟩⟩ hsb ho' (heap_slot S hcw rfl) rfl rfl)
      (Keep.set_own hcw rfl (.inr ⟨hk, hc⟩) (fun _ q => by cases q) (fun _ _ => ⟨_, rfl⟩)) ?_
    refine ⟨R.kind, R.glob, R.blt, ⟨m, (Psi.set_ne _ _ fun q => by rw [q, hcw] at hL; cases hL).trans hL, fun y w h0 hy hw => ?_⟩, fun y w hy hw => ?_, fun n' hn' => ?_, R.apart⟩
    · unfold Sto.set at hw
      split at hw
      · rename_i q; subst q; rw [hk] at hy; cases hy
      · exact hm y w h0 hy hw
    · unfold Sto.set at hw
      split at hw
      · rename_i q; subst q; cases hw; exact ⟨c, hc, Psi.set_self _ _ _⟩
      · rename_i q
        obtain ⟨c', e1, e2⟩ := R.val y w hy hw
        refine ⟨c', e1, (Psi.set_ne _ _ fun z => ?_).trans e2⟩
        subst z
        exact q (ofString_inj (name_of_addr R.apart (mem_of_lookup e1) (mem_of_lookup hc)))
    · obtain ⟨c', w', e1, e2⟩ := R.cel n' hn'
      by_cases q : c' = c
      · subst q; exact ⟨c', _, e1, Psi.set_self _ _ _⟩
      · exact ⟨c', w', e1, (Psi.set_ne _ _ q).trans e2⟩
  · cases h2

theorem op_iterSelf {sv : Value} {src : MV} {it : Addr} {i : Nat} (S : St W fs Ψ H s) (hi : ItAt Ψ sv src it i) {QQ : Value → Shared → Prop} (h : QQ (.ref it) s) : wpAny W.M A (pyIter (.ref it)) QQ E s := by
  obtain ⟨o, ho, hm⟩ := hi
  obtain ⟨o', hg, hraw⟩ := S.typed _ _ ho
  obtain rfl : o' = o := hraw
  cases src <;> try exact hm.elim
  · exact wpAny_pyIter_listiter ⟨_, hg, hm.1, hm.2⟩ h
  · obtain ⟨a, _, h1, h2⟩ := hm
    exact wpAny_pyIter_tupleiter ⟨_, hg, h1, h2⟩ h
  · have hm' : o' = _ := hm
    subst hm'
    exact wpAny_pyIter_rangeiter hg h

/-! the place of a comprehension -/
/-- what a comprehension takes over from around it -/
noncomputable def clos (cells : List (Str × Addr)) : List (Str × NameKind) → List (Str × Addr) → List (Str × Addr)
  | [], acc => acc
  | (n, k) :: r, acc => if k == .free then clos cells r ((n, (cells.lookup n).getD 0) :: acc) else clos cells r acc
theorem closure_eq {scope : Scope} {env : Env} (h : ∀ n, (n, NameKind.free) ∈ scope.names → (env.cells.lookup n).isSome = true) : closureFor scope env = pure (clos env.cells scope.names []) := by
  unfold closureFor
  suffices ∀ (names : List (Str × NameKind)) (acc : List (Str × Addr)), (∀ n, (n, NameKind.free) ∈ names → (env.cells.lookup n).isSome = true) →
      (forIn names acc fun (x : Str × NameKind) (r : List (Str × Addr)) => if (x.2 == NameKind.free) = true then do let y ← cellOf env x.1; pure (ForInStep.yield ((x.1, y) :: r)) else pure (ForInStep.yield r) : Sem _) = pure (clos env.cells names acc) by
    have := this scope.names [] h
    exact (congrArg (fun (t : Sem (List (Str × Addr))) => t >>= pure) this).trans rfl
  intro names
  induction names with
  | nil => intro acc _; rfl
  | cons x r ih =>
    obtain ⟨n', k⟩ := x
    intro acc hh
    rw [List.forIn_cons]
    unfold clos
    cases q : k == NameKind.free with
    | true =>
      obtain rfl : k = .free := by cases k <;> first | rfl | cases q
      obtain ⟨c, hc⟩ := Option.isSome_iff_exists.mp (hh n' List.mem_cons_self)
      simp only [beq_self_eq_true, if_true]
      unfold cellOf
      rw [hc]
      exact ih _ fun n hn => hh n (List.mem_cons_of_mem _ hn)
    | false =>
      simp only [q, Bool.false_eq_true, if_false]
      exact ih _ fun n hn => hh n (List.mem_cons_of_mem _ hn)
end
end Mine
end
section
set_option autoImplicit false
set_option linter.unusedVariables false
namespace Mine
open PySem

section
variable {W : Amb} {fs : List Env} {Ψ Ψ₁ : Psi} {H : MH} {s s₁ : Shared}
/-- the ledger grows -/
theorem St.grow (S : St W fs Ψ H s) (hold : ∀ b k, Ψ b = some k → Ψ₁ b = some k) (hk : ∀ b o, s.heap.get? b = some o → s₁.heap.get? b = some o)
    (hnew : ∀ b k, Ψ₁ b = some k → Ψ b = none → s.heap.objs.size ≤ b ∧ (∀ es, k ≠ .dct es) ∧ ∃ o, s₁.heap.get? b = some o ∧ W.O Ψ₁ o k) (hg : s₁.gens = s.gens) (ho : s₁.os = s.os) : St W fs Ψ₁ H s₁ ∧ Keep none_ Ψ Ψ₁ := by
  have hfix : Fix Ψ Ψ₁ := fun b k e _ => hold b k e
  refine ⟨⟨fun b k e => ?_, fun b k e hx => ?_, fun b x e => (S.heap b x e).keepN hold, fun b o e => hk b o (S.base b o e), fun e' he => ?_, hg.trans S.gens, ho.trans S.os, fun b es e => ?_⟩, hfix, fun b k e _ _ => hold b k e, fun b k e => ⟨k, hold b _ e⟩, fun b k e => ⟨k, hold b _ e⟩⟩
  · cases q : Ψ b with
    | none => exact (hnew b k e q).2.2
    | some k' =>
      have := hold b k' q
      rw [e] at this; cases this
      obtain ⟨o, h1, h2⟩ := S.typed b k q
      exact ⟨o, hk b o h1, h2.mono hfix⟩
  · cases q : Ψ b with
    | none =>
      have big := (hnew b k e q).1
      cases z : W.h₀.get? b with
      | none => rfl
      | some o' => exact absurd (Heap.lt_size (S.base b o' z)) (Nat.not_lt.mpr big)
    | some k' =>
      have := hold b k' q
      rw [e] at this; cases this
      exact S.fresh b k q hx
  · obtain ⟨p, L, m', q, r⟩ := S.frames e' he
    exact ⟨p, L, m', q, hold _ _ r⟩
  · cases q : Ψ b with
    | none => exact absurd rfl ((hnew b _ e q).2.1 es)
    | some k' =>
      have := hold b k' q
      rw [e] at this; cases this
      exact S.dsys b es q
end

noncomputable def relab (nm : Names) (n : Str) (k : NameKind) : NameKind := if k == .free && nm.lookup n == some .cell then .cell else k
noncomputable def relabN (nm : Names) (names : List (Str × NameKind)) : Names := names.map fun p => (p.1, relab nm p.1 p.2)
theorem lookup_relab (nm : Names) (n : Str) : ∀ names : List (Str × NameKind), (relabN nm names).lookup n = (names.lookup n).map (relab nm n)
  | [] => rfl
  | (m, k) :: r => by
    have ih := lookup_relab nm n r
    unfold relabN at ih ⊢
    simp only [List.map_cons, List.lookup_cons]
    cases q : n == m with
    | true => obtain rfl := beq_iff_eq.mp q; rfl
    | false => exact ih
theorem relabel_names {scope : Scope} {env : Env} (h : env.scope.kind = .function) : (relabel scope env).names = relabN env.scope.names scope.names := by
  unfold relabel relabN
  dsimp only
  refine List.map_congr_left fun p _ => ?_
  obtain ⟨n, k⟩ := p
  unfold relab Env.kindOf
  rw [h]
  simp only [beq_self_eq_true, Bool.and_true]
  split <;> rfl

noncomputable def compOk (nm : Names) (x : String) (scope : Scope) : Bool := (scope.kind == .function) && decide ((scope.names.map (·.1)).Nodup) && storeKind (scope.names.lookup (Str.ofString x)) && !(x == ".0") &&
  scope.names.all fun p => match p.2 with
    | .local => strEq p.1 (Str.ofString x) || strEq p.1 (Str.ofString ".0")
    | .cell => strEq p.1 (Str.ofString x)
    | .free => nm.lookup p.1 == some .cell
    | .globalImplicit => true
    | _ => false

theorem cells_append : ∀ (names : List (Str × NameKind)) (k : Nat) (acc : List (Str × Addr)), cellsFrom k names acc = cellsFrom k names [] ++ acc
  | [], _, _ => rfl
  | (n, kd) :: r, k, acc => by
    unfold cellsFrom
    split
    · rw [cells_append r _ ((n, k) :: acc), cells_append r _ [(n, k)]]; simp
    · exact cells_append r _ acc
theorem lookup_append {α : Type} (n : Str) : ∀ (a b : List (Str × α)), (a ++ b).lookup n = (a.lookup n).or (b.lookup n)
  | [], _ => rfl
  | (m, v) :: a, b => by
    simp only [List.cons_append, List.lookup_cons]
    cases n == m with
    | true => rfl
    | false => exact lookup_append n a b
theorem lookup_none {α : Type} {n : Str} : ∀ {l : List (Str × α)}, (∀ c, (n, c) ∉ l) → l.lookup n = none
  | [], _ => rfl
  | (m, v) :: r, h => by
    rw [List.lookup_cons]
    cases q : n == m with
    | true => obtain rfl := beq_iff_eq.mp q; exact absurd List.mem_cons_self (h v)
    | false => exact lookup_none fun c hc => h c (List.mem_cons_of_mem _ hc)
theorem clos_lookup (cells : List (Str × Addr)) (n : Str) : ∀ (names : List (Str × NameKind)) (acc : List (Str × Addr)), ((n, NameKind.free) ∈ names ∨ acc.lookup n = some ((cells.lookup n).getD 0)) → (clos cells names acc).lookup n = some ((cells.lookup n).getD 0)
  | [], acc, h => by
    rcases h with h | h
    · cases h
    · exact h
  | (m, k) :: r, acc, h => by
    unfold clos
    split
    · rename_i q
      refine clos_lookup cells n r _ ?_
      cases z : n == m with
      | true => obtain rfl := beq_iff_eq.mp z; right; rw [List.lookup_cons, z]
      | false =>
        rcases h with h | h
        · rcases List.mem_cons.mp h with e | h
          · cases e; rw [beq_self_eq_true] at z; cases z
          · exact .inl h
        · right; rw [List.lookup_cons, z]; exact h
    · rename_i q
      refine clos_lookup cells n r _ ?_
      rcases h with h | h
      · rcases List.mem_cons.mp h with e | h
        · cases e; exact absurd rfl q
        · exact .inl h
      · exact .inr h
theorem clos_mem (cells : List (Str × Addr)) : ∀ (names : List (Str × NameKind)) (acc : List (Str × Addr)) (p : Str × Addr), p ∈ clos cells names acc → p ∈ acc ∨ ((p.1, NameKind.free) ∈ names ∧ p.2 = (cells.lookup p.1).getD 0)
  | [], _, _, h => .inl h
  | (m, k) :: r, acc, p, h => by
    unfold clos at h
    split at h
    · rename_i q
      obtain rfl : k = .free := by cases k <;> first | rfl | cases q
      rcases clos_mem cells r _ p h with h | h
      · rcases List.mem_cons.mp h with e | h
        · subst e; exact .inr ⟨List.mem_cons_self, rfl⟩
        · exact .inl h
      · exact .inr ⟨List.mem_cons_of_mem _ h.1, h.2⟩
    · rcases clos_mem cells r _ p h with h | h
      · exact .inl h
      · exact .inr ⟨List.mem_cons_of_mem _ h.1, h.2⟩
theorem clos_nodup (cells : List (Str × Addr)) : ∀ (names : List (Str × NameKind)) (acc : List (Str × Addr)), (names.map (·.1)).Nodup → (acc.map (·.1)).Nodup → (∀ n ∈ names.map (·.1), n ∉ acc.map (·.1)) → ((clos cells names acc).map (·.1)).Nodup
  | [], _, _, h, _ => h
  | (m, k) :: r, acc, hn, ha, hd => by
    simp only [List.map_cons, List.nodup_cons] at hn
    unfold clos
    split
    · refine clos_nodup cells r _ hn.2 ?_ ?_
      · simp only [List.map_cons, List.nodup_cons]; exact ⟨hd m (by simp), ha⟩
      · intro n hm
        simp only [List.map_cons, List.mem_cons, not_or]
        exact ⟨fun q => hn.1 (q ▸ hm), hd n (by simp only [List.map_cons, List.mem_cons]; exact .inr hm)⟩
    · exact clos_nodup cells r _ hn.2 ha fun n hm => hd n (by simp only [List.map_cons, List.mem_cons]; exact .inr hm)

/-- the environment of a comprehension -/
noncomputable def compEnv (scope : Scope) (C : Addr) (env : Env) : Env :=
  { scope := relabel scope env, locals := C, globals := env.globals, cells := cellsFrom (C + 1) scope.names (clos env.cells scope.names []), qual := env.qual, func := none, code := env.code, frame := env.frame, builtins := env.builtins }

theorem newCompEnv {M : Model} {A : Around} {E : Value → Shared → Prop} {s : Shared} {scope : Scope} {cl : List (Str × Addr)} {env : Env} {Q : Env → Shared → Prop}
    (h : Q { scope := scope, locals := s.heap.objs.size, globals := env.globals, cells := cellsFrom (s.heap.objs.size + 1) scope.names cl, qual := env.qual, func := none, code := env.code, frame := env.frame, builtins := env.builtins }
      { s with heap := pushCells (s.heap.push { cls := .type "dict", data := .dict #[] }) scope.names }) :
    wpAny M A (newFunctionEnv scope env.globals cl [] env.qual none .none (some env)) Q E s := by
  simp only [newFunctionEnv, Option.isSome_some, if_true]
  refine wpAny_bind (wpAny_alloc ?_)
  refine wpAny_bind (wpAny_layCells _ (fun name kind cells => by cases kind == NameKind.cell <;> simp) _ _ _ _ ?_)
  rw [show ({ s with heap := s.heap.push { cls := .type "dict", data := .dict #[] } } : Shared).heap.objs.size = s.heap.objs.size + 1 from Heap.size_push ..]
  exact wpAny_bind (wpAny_pure (wpAny_pure h))

theorem sto_del_set (ρ : Sto) (x : String) (v : MV) : (ρ.del x).set x v = ρ.set x v := by
  funext y; unfold Sto.set Sto.del
  by_cases q : y = x <;> simp [q]
theorem sto_set_set (ρ : Sto) (x : String) (u v : MV) : (ρ.set x u).set x v = ρ.set x v := by
  funext y; unfold Sto.set
  by_cases q : y = x <;> simp [q]

theorem compPlace {W : Amb} {fs : List Env} {Ψ : Psi} {H : MH} {s : Shared} {env : Env} {ρ : Sto} {x : String} {scope : Scope} (R : EnvRel Ψ env ρ) (S : St W fs Ψ H s) (hok : compOk env.scope.names x scope = true) :
    (∀ n, (n, NameKind.free) ∈ scope.names → (env.cells.lookup n).isSome = true) ∧
    ∃ Ψ₁, St W fs Ψ₁ H { s with heap := pushCells (s.heap.push { cls := .type "dict", data := .dict #[] }) scope.names } ∧ Keep none_ Ψ Ψ₁ ∧ EnvRel Ψ₁ (compEnv scope s.heap.objs.size env) (ρ.del x) ∧
      (∀ a, slotOf (compEnv scope s.heap.objs.size env) (Str.ofString x) a → Ψ a = none) ∧ Ψ s.heap.objs.size = none := by
  simp only [compOk, Bool.and_eq_true, Bool.not_eq_true', List.all_eq_true, decide_eq_true_eq] at hok
  obtain ⟨⟨⟨⟨hk, hn⟩, hx⟩, hx0⟩, hall⟩ := hok
  have hkf : scope.kind = .function := by
    cases q : scope.kind <;> first | rfl | (rw [q] at hk; exact absurd hk (by decide))
  have kL : ∀ y, (Str.ofString y, NameKind.local) ∈ scope.names → y ≠ ".0" → y = x := fun y hy h0 => by
    have := hall _ hy
    simp only [Bool.or_eq_true] at this
    rcases this with q | q
    · exact ofString_inj (strEq_eq q)
    · exact absurd (ofString_inj (strEq_eq q)) h0
  have kC : ∀ n, (n, NameKind.cell) ∈ scope.names → n = Str.ofString x := fun n hm => strEq_eq (hall _ hm)
  have kF : ∀ n, (n, NameKind.free) ∈ scope.names → env.kindOf n = some .cell := fun n hm => beq_iff_eq.mp (hall _ hm)
  have hsome : ∀ n, (n, NameKind.free) ∈ scope.names → (env.cells.lookup n).isSome = true := fun n hm => by
    obtain ⟨c, w, h1, _⟩ := R.cel n (kF n hm); rw [h1]; rfl
  refine ⟨hsome, ?_⟩
  have ok := cellsFrom_ok scope.names (s.heap.push { cls := .type "dict", data := .dict #[] }) (s.heap.objs.size + 1) [] ⟨fun _ _ hm => (nomatch hm), List.Pairwise.nil⟩ (by rw [Heap.size_push]; exact Nat.le_refl _)
  rw [Heap.size_push] at ok
  obtain ⟨ok1, ok2⟩ := ok
  have above : ∀ n c, (n, c) ∈ cellsFrom (s.heap.objs.size + 1) scope.names [] → s.heap.objs.size < c := fun n c hm => (ok1 n c hm).2
  let Ψ₁ : Psi := Ψ.call s.heap.objs.size (fun _ => none) (cellsFrom (s.heap.objs.size + 1) scope.names []) (fun _ => none)
  have hlt : ∀ b k, Ψ b = some k → b < s.heap.objs.size := fun b k e => by obtain ⟨o', ho', _⟩ := S.typed b k e; exact Heap.lt_size ho'
  have hold : ∀ b k, Ψ b = some k → Ψ₁ b = some k := fun b k e => (Psi.call_old (Nat.le_refl _) above (hlt b k e)).trans e
  have hkeep : ∀ b o, s.heap.get? b = some o → (pushCells (s.heap.push { cls := .type "dict", data := .dict #[] }) scope.names).get? b = some o := fun b o e => pushCells_keeps _ _ b o (Heap.get?_push_of_some _ e)
  obtain ⟨S₁, K₁⟩ := S.grow (s₁ := { s with heap := pushCells (s.heap.push { cls := .type "dict", data := .dict #[] }) scope.names }) hold hkeep (fun b k e hb => by
    rcases Psi.call_cases e with ⟨rfl, rfl⟩ | ⟨n', hm, rfl⟩ | ⟨q, _⟩
    · refine ⟨Nat.le_refl _, fun _ q => (by cases q), _, pushCells_keeps _ _ _ _ (Heap.get?_push_size _ rfl), #[], 0, rfl, fun _ he => by simp at he, fun y v hy => by cases hy⟩
    · obtain ⟨o, ho, hd⟩ := (ok1 n' b hm).1
      exact ⟨Nat.le_of_lt (above n' b hm), fun _ q => (by cases q), o, ho, ⟨_, hd⟩, fun mv q => by cases q⟩
    · rw [hb] at q; cases q) rfl rfl
  have hnm : (compEnv scope s.heap.objs.size env).scope.names = relabN env.scope.names scope.names := relabel_names R.kind
  have hkd : ∀ n, (compEnv scope s.heap.objs.size env).kindOf n = (scope.names.lookup n).map (relab env.scope.names n) := fun n => by
    unfold Env.kindOf; rw [hnm]; exact lookup_relab _ _ _
  have hcells : ∀ n, (compEnv scope s.heap.objs.size env).cells.lookup n = ((cellsFrom (s.heap.objs.size + 1) scope.names []).lookup n).or ((clos env.cells scope.names []).lookup n) := fun n => by
    show (cellsFrom (s.heap.objs.size + 1) scope.names (clos env.cells scope.names [])).lookup n = _
    rw [cells_append]; exact lookup_append _ _ _
  have freeCell : ∀ n c, scope.names.lookup n = some .free → env.cells.lookup n = some c → (compEnv scope s.heap.objs.size env).cells.lookup n = some c := fun n c hl hc => by
    rw [hcells, lookup_none (l := cellsFrom (s.heap.objs.size + 1) scope.names []) (fun c' hm => ?_), clos_lookup env.cells n scope.names [] (.inl (mem_of_lookup hl)), hc]
    · rfl
    · rcases cells_kind hm with q | q
      · cases q
      · have := lookup_nodup hn q; rw [hl] at this; cases this
  have ownCell : ∀ n, scope.names.lookup n = some .cell → ∃ c, (n, c) ∈ cellsFrom (s.heap.objs.size + 1) scope.names [] ∧ (compEnv scope s.heap.objs.size env).cells.lookup n = some c := fun n hl => by
    obtain ⟨c, hc⟩ := cells_in (k := s.heap.objs.size + 1) (acc := []) (mem_of_lookup hl)
    cases q : (cellsFrom (s.heap.objs.size + 1) scope.names []).lookup n with
    | none =>
      exfalso
      have : ∀ (l : List (Str × Addr)), (n, c) ∈ l → l.lookup n ≠ none := by
        intro l
        induction l with
        | nil => intro h; cases h
        | cons p r ih =>
          intro h
          obtain ⟨m, v⟩ := p
          rw [List.lookup_cons]
          cases z : n == m with
          | true => simp
          | false =>
            rcases List.mem_cons.mp h with e | h
            · cases e; rw [beq_self_eq_true] at z; cases z
            · exact ih h
      exact this _ hc q
    | some c' => exact ⟨c', mem_of_lookup q, by rw [hcells, q]; rfl⟩
  have kindCases : ∀ n, (compEnv scope s.heap.objs.size env).kindOf n = some .cell ∨ (compEnv scope s.heap.objs.size env).kindOf n = some .free → scope.names.lookup n = some .cell ∨ scope.names.lookup n = some .free := fun n h => by
    rw [hkd] at h
    cases q : scope.names.lookup n with
    | none => rw [q] at h; rcases h with h | h <;> cases h
    | some k =>
      rw [q] at h
      cases k with
      | cell => exact .inl rfl
      | free => exact .inr rfl
      | _ => rcases h with h | h <;> exact absurd h (by simp [relab])
  refine ⟨Ψ₁, S₁, K₁, ⟨hkf, R.glob, R.blt, ⟨fun _ => none, Psi.call_L, fun y v h0 hy hv => ?_⟩, fun y v hy hv => ?_, fun n hy => ?_, ?_⟩, fun a ha => ?_, S.none_at⟩
  · exfalso
    rw [hkd] at hy
    cases q : scope.names.lookup (Str.ofString y) with
    | none => rw [q] at hy; cases hy
    | some k =>
      rw [q] at hy
      obtain rfl : k = .local := by
        cases k with
        | «local» => rfl
        | free => simp only [Option.map_some, Option.some.injEq] at hy; unfold relab at hy; split at hy <;> cases hy
        | _ => exact absurd hy (by simp [relab])
      obtain rfl := kL y (mem_of_lookup q) h0
      unfold Sto.del at hv; rw [if_pos rfl] at hv; cases hv
  · have hyx : y ≠ x := by rintro rfl; unfold Sto.del at hv; rw [if_pos rfl] at hv; cases hv
    have hv' : ρ y = some v := by unfold Sto.del at hv; rw [if_neg hyx] at hv; exact hv
    rcases kindCases _ hy with q | q
    · exact absurd (ofString_inj (kC _ (mem_of_lookup q))) hyx
    · obtain ⟨c, h1, h2⟩ := R.val y v (.inl (kF _ (mem_of_lookup q))) hv'
      exact ⟨c, freeCell _ c q h1, hold _ _ h2⟩
  · rcases kindCases n (.inl hy) with q | q
    · obtain ⟨c, h1, h2⟩ := ownCell n q
      exact ⟨c, _, h2, Psi.call_cell ok2 above h1⟩
    · obtain ⟨c, w, h1, h2⟩ := R.cel n (kF n (mem_of_lookup q))
      exact ⟨c, w, freeCell n c q h1, hold _ _ h2⟩
  · show (cellsFrom (s.heap.objs.size + 1) scope.names (clos env.cells scope.names [])).Pairwise _
    rw [cells_append, List.pairwise_append]
    have closIn : ∀ p ∈ clos env.cells scope.names [], p ∈ env.cells := fun p hp => by
      rcases clos_mem _ _ _ _ hp with q | ⟨q1, q2⟩
      · cases q
      · obtain ⟨c, hc⟩ := Option.isSome_iff_exists.mp (hsome _ q1)
        rw [hc] at q2
        obtain ⟨p1, p2⟩ := p
        dsimp only at q2 hc
        rw [show p2 = c from q2]
        exact mem_of_lookup hc
    refine ⟨ok2, ?_, fun p hp q hq e => ?_⟩
    · have nd := clos_nodup env.cells scope.names [] hn (by simp) (by simp)
      rw [List.nodup_iff_pairwise_ne, List.pairwise_map] at nd
      refine nd.imp_of_mem fun {p q} hp hq hne e => hne ?_
      obtain ⟨p1, p2⟩ := p; obtain ⟨q1, q2⟩ := q
      dsimp only at e ⊢
      subst e
      exact name_of_addr R.apart (closIn _ hp) (closIn _ hq)
    · rcases clos_mem _ _ _ _ hq with z | ⟨z1, z2⟩
      · cases z
      · obtain ⟨c, w, h1, h2⟩ := R.cel q.1 (kF _ z1)
        have lt := hlt c _ h2
        rw [h1] at z2
        have : q.2 = c := z2
        have ab := above p.1 p.2 hp
        rw [e, this] at ab
        exact Nat.lt_irrefl _ (Nat.lt_trans lt ab)
  · cases q : Ψ a with
    | none => rfl
    | some k =>
      exfalso
      have lt := hlt a k q
      rcases ha with ⟨_, ha⟩ | ⟨h1, h2⟩
      · rw [ha] at lt; exact Nat.lt_irrefl _ lt
      · have hxk : scope.names.lookup (Str.ofString x) = some .cell := by
          rcases kindCases _ (.inl h1) with z | z
          · exact z
          · rw [z] at hx; cases hx
        obtain ⟨c, e1, e2⟩ := ownCell _ hxk
        rw [h2] at e2
        cases e2
        exact Nat.lt_irrefl _ (Nat.lt_trans lt (above _ _ e1))
end Mine
end
section
set_option autoImplicit false
set_option linter.unusedVariables false
namespace Mine
open PySem

section
variable {W : Amb} {K : PySem.W.Frag} {Δ : CallT} {n : Nat} {nm : Names} {fs : List Env} {Ψ Ψ₀ : Psi} {H : MH} {s s' : Shared} {A : Around} {E : Value → Shared → Prop}

theorem Keep.delNew (x : Keep none_ Ψ₀ Ψ) {a : Addr} (h : Ψ₀ a = none) : Keep none_ Ψ₀ (Ψ.del a) :=
  ⟨fun b k e f => (Psi.del_ne _ (ne_of_none h e)).trans (x.fix b k e f), fun b k e f g => (Psi.del_ne _ (ne_of_none h e)).trans (x.slot b k e f g),
    fun b m e => (x.ns b m e).imp fun _ q => (Psi.del_ne _ (ne_of_none h e)).trans q, fun b m e => (x.cell b m e).imp fun _ q => (Psi.del_ne _ (ne_of_none h e)).trans q⟩
theorem Keep.setNew (x : Keep none_ Ψ₀ Ψ) {a : Addr} (k' : HK) (h : Ψ₀ a = none) : Keep none_ Ψ₀ (Ψ.set a k') :=
  ⟨fun b k e f => (Psi.set_ne _ _ (ne_of_none h e)).trans (x.fix b k e f), fun b k e f g => (Psi.set_ne _ _ (ne_of_none h e)).trans (x.slot b k e f g),
    fun b m e => (x.ns b m e).imp fun _ q => (Psi.set_ne _ _ (ne_of_none h e)).trans q, fun b m e => (x.cell b m e).imp fun _ q => (Psi.set_ne _ _ (ne_of_none h e)).trans q⟩
theorem Keep.newOwn {own : Addr → Prop} {Ψ' : Psi} (x : Keep none_ Ψ₀ Ψ) (y : Keep own Ψ Ψ') (h : ∀ a, own a → Ψ₀ a = none) : Keep none_ Ψ₀ Ψ' :=
  (x.of_none.trans y).drop fun a ha => .inl (h a ha)

theorem slotLike_fixed {k : HK} (h : slotLike k = true) : k.fixed = false := by cases k <;> first | rfl | exact absurd h Bool.noConfusion
/-- a slot is forgotten -/
theorem St.forget (S : St W fs Ψ H s) {a : Addr} {k₀ : HK} (e₀ : Ψ a = some k₀) (hs : slotLike k₀ = true) (hf : ∀ e ∈ fs, e.frame ≠ some a) (hk : Heap.ExtBut a s.heap s'.heap) (hg : s'.gens = s.gens) (ho : s'.os = s.os) : St W fs (Ψ.del a) H s' := by
  have h0 := S.fresh a _ e₀ fun _ q => by subst q; exact Bool.noConfusion hs
  have fx : Fix Ψ (Ψ.del a) := fun b k e f => Psi.del_sort e₀ e (slot_sort hs (.inr (fixed_sort f)))
  refine ⟨fun b k e => ?_, fun b k e hx => S.fresh b k (Psi.of_del e).2 hx, fun b x e => (S.heap b x e).keepS fun c k e q => Psi.del_sort e₀ e (slot_sort hs q), fun b o e => hk b o (ne_none (f := W.h₀.get?) h0 e) (S.base b o e), fun e he => ?_, hg.trans S.gens, ho.trans S.os, fun b es e => S.dsys b es (Psi.of_del e).2⟩
  · exact (S.typed b k (Psi.of_del e).2).imp fun o z => ⟨hk b o (Psi.of_del e).1 z.1, z.2.mono fx⟩
  · obtain ⟨p, L, m, q, r⟩ := S.frames e he
    exact ⟨p, L, m, q, (Psi.del_ne _ fun (z : L = a) => hf e he (z ▸ q)).trans r⟩

/-- a hidden list grows -/
theorem hidAppend {D : Addr} {acc : List MV} {v : Value} {x : MV} {QQ : Value → Shared → Prop} (S : St W fs Ψ H s) (hD : Ψ D = some (.hid acc)) (hl : acc.length < bigList) (hv : VRel Ψ v x)
    (h : ∀ s', St W fs (Ψ.set D (.hid (acc ++ [x]))) H s' → QQ .none s') : wpAny W.M A (call (.builtin "list.append") [.ref D, v]) QQ E s := by
  obtain ⟨o, h1, items, k, rfl, r, b⟩ := S.typed _ _ hD
  refine call_meets F.slot_list_append ⟨_, h1, rfl⟩ F.entry_list_append (F.args_list_append_2 _ _) (AutoListH.list_append_list_val_0 D items k v (by rw [all2_size r]; unfold bigList at hl; unfold sizeLine; omega)) ⟨h1, ?_⟩
  obtain ⟨k', ho⟩ : ∃ k', (s.heap.update D (Obj.mapSeq fun x_1 => x_1.push v)).get? D = some { cls := .type "list", dict := none, data := .seq (items.push v) k', slots := #[] } :=
    ⟨_, (Heap.get?_update_self _ h1 rfl).trans rfl⟩
  exact h _ (S.turned (s' := { s with heap := s.heap.update D (Obj.mapSeq fun x_1 => x_1.push v) }) (k := .hid (acc ++ [x])) hD rfl (fun m q => HK.noConfusion q)
    ⟨items.push v, k', rfl, by rw [Array.toList_push]; exact (r.append (.cons hv .nil)).mono fun _ _ => VRel.mono (.set_turn _ hD rfl), by rw [List.length_append]; exact hl⟩ (Heap.SameBut.update ..) ho (heap_slot S hD rfl) rfl rfl (fun _ q => HK.noConfusion q))

/-- a hidden list is shown -/
theorem St.hidShown {D : Addr} {acc : List MV} (S : St W fs Ψ H s) (hD : Ψ D = some (.hid acc)) : St W fs (Ψ.set D (.lst acc)) (H.set D (.lst acc)) s := by
  obtain ⟨o, h1, h2⟩ := S.typed _ _ hD
  exact (S.turned (s' := s) (k := .lst acc) (H' := H) hD rfl (fun m q => HK.noConfusion q) (SeqO.mono (.set_turn _ hD rfl) h2) (.refl ..) h1 (heap_slot S hD rfl) rfl rfl (fun _ q => HK.noConfusion q)).shown (Psi.set_self _ _ _)
theorem HRel.sorted {a : Addr} {o : MObj} (h : HRel Ψ a o) : ∃ k, Ψ a = Option.some k ∧ (k.sort = 0 ∨ k.sort = 5) := by
  cases o with
  | inst fs => exact h.elim fun d z => ⟨_, z.1, .inl rfl⟩
  | ro vs => exact ⟨_, h, .inr rfl⟩
  | _ => exact ⟨_, h, .inl rfl⟩
theorem St.hidNone {D : Addr} {acc : List MV} (S : St W fs Ψ H s) (hD : Ψ D = some (.hid acc)) : H D = none := by
  cases q : H D with
  | none => rfl
  | some o =>
    obtain ⟨k, e, z⟩ := (S.heap D o q).sorted
    obtain rfl := Option.some.inj (hD.symm.trans e)
    rcases z with z | z <;> exact absurd z (fun w => by cases w)
/-- an iterator stands through a step that is not its own -/
theorem ItAt.keep {own : Addr → Prop} {Ψ' : Psi} {sv : Value} {src : MV} {it : Addr} {i : Nat} (hi : ItAt Ψ sv src it i) (K : Keep own Ψ Ψ') (h : ¬ own it) : ItAt Ψ' sv src it i := hi.imp fun o z => ⟨K.slot _ _ z.1 rfl h, z.2⟩
/-- a place stands through a step that turns no name of its own -/
theorem EnvRel.keepW {own : Addr → Prop} {Ψ' : Psi} {env : Env} {ρ : Sto} (R : EnvRel Ψ env ρ) (K : Keep own Ψ Ψ') (h : ∀ a k, Ψ a = some k → (k.sort = 1 ∨ k.sort = 2) → ¬ own a) : EnvRel Ψ' env ρ :=
  ⟨R.kind, R.glob, R.blt, R.loc.imp fun _ x => ⟨K.slot _ _ x.1 rfl (h _ _ x.1 (.inl rfl)), x.2⟩, fun x v hk hv => (R.val x v hk hv).imp fun _ y => ⟨y.1, K.slot _ _ y.2 rfl (h _ _ y.2 (.inr rfl))⟩,
    fun n hn => (R.cel n hn).imp fun _ y => y.imp fun _ z => ⟨z.1, K.slot _ _ z.2 rfl (h _ _ z.2 (.inr rfl))⟩, R.apart⟩
/-- two places of different sorts -/
theorem sort_apart {a b : Addr} {k₀ k : HK} (h : Ψ a = some k₀) (e : Ψ b = some k) (n : k₀.sort ≠ k.sort) : ¬ b = a := ne_of_sort h e n
theorem not12 {k : HK} {m : Nat} (h : k.sort = 1 ∨ k.sort = 2) (h1 : m ≠ 1) (h2 : m ≠ 2) : m ≠ k.sort := by rcases h with h | h <;> rw [h] <;> assumption

theorem slot_kind {env : Env} {ρ : Sto} {id : Str} {a : Addr} (R : EnvRel Ψ env ρ) (h : slotOf env id a) : ∃ k, Ψ a = some k ∧ (k.sort = 1 ∨ k.sort = 2) := by
  rcases h with ⟨_, rfl⟩ | ⟨h1, h2⟩
  · exact R.loc.elim fun m h => ⟨_, h.1, .inl rfl⟩
  · obtain ⟨c, w, e1, e2⟩ := R.cel _ h1
    obtain rfl := Option.some.inj (h2.symm.trans e1); exact ⟨_, e2, .inr rfl⟩
theorem not_slot {env : Env} {ρ : Sto} {id : Str} {a : Addr} {k : HK} (R : EnvRel Ψ env ρ) (e : Ψ a = some k) (h1 : k.sort ≠ 1) (h2 : k.sort ≠ 2) : ¬ slotOf env id a := fun q => by
  obtain ⟨k', e', z⟩ := slot_kind R q
  obtain rfl := Option.some.inj (e.symm.trans e')
  exact z.elim h1 h2

/-- the tests of a comprehension -/
noncomputable def SndIfs (W : Amb) (Δ : CallT) (n : Nat) (nm : Names) (cond : ME) (ifs : List PySem.Expr) : Prop := match ifs with
  | [] => cond = .bool true
  | [c] => SndT W Δ n nm cond c
  | _ => False
theorem ifs_run {cond : ME} {ifs : List PySem.Expr} (h : SndIfs W Δ n nm cond ifs) {hd : Bool} {env : Env} {ρ : Sto} {k : Bool → MH → Prop} {X : String → MH → Prop} (C : Cx n hd A fs env nm) (R : EnvRel Ψ env ρ) (S : St W fs Ψ H s) (z : wE Δ hd cond ρ H (asTruth k) X) :
    wpAny W.M A (forIn ifs true fun c r => if r = true then do let ok ← isTrue c env (eval c env); pure (ForInStep.yield ok) else pure (ForInStep.yield r)) (PostB W fs Ψ k) (PostX W fs Ψ X) s := by
  unfold SndIfs at h
  split at h
  · subst h
    exact wpAny_tests_nil ⟨Ψ, H, S, .refl _ _, z⟩
  · exact wpAny_tests_one (h C R S z)
  · exact h.elim

theorem ne34 : (3 : Nat) ≠ 4 := by decide
theorem ne14 : (1 : Nat) ≠ 4 := by decide
theorem ne41 : (4 : Nat) ≠ 1 := by decide
theorem ne42 : (4 : Nat) ≠ 2 := by decide
theorem ne43 : (4 : Nat) ≠ 3 := by decide
/-- where a comprehension stands -/
inductive CompI (W : Amb) (fs : List Env) (Ψ₀ : Psi) (cenv : Env) (ρ : Sto) (x : String) (sv : Value) (src : MV) (vs : List MV) (it D : Addr) (Z : List MV → List MV → MH → Prop) (m : Nat) (s : Shared) : Prop
  | mk (Ψ : Psi) (H : MH) (acc : List MV) (i : Nat) (ρ₁ : Sto) (hm : m + i = vs.length) (hρ : ∀ v, ρ₁.set x v = ρ.set x v) (S : St W fs Ψ H s) (K₀ : Keep none_ Ψ₀ Ψ) (hv : VRel Ψ sv src) (hel : Elems H src vs) (hi : ItAt Ψ sv src it i) (hacc : Ψ D = some (.hid acc)) (R : EnvRel Ψ cenv ρ₁) (h : Z (vs.drop i) acc H)
theorem comp_loop {elt cond : ME} {x : String} {e' iter : PySem.Expr} {id : Str} {px : Pos} {ifs : List PySem.Expr} {scope : Scope} {pos : Pos} {cenv : Env} {ρ ρ₁ : Sto} {sv : Value} {src : MV} {vs : List MV} {it D : Addr} {RR : Result → Shared → Prop} {Q : MV → MH → Prop}
    (hh : A.handled = none) (hc : SndIfs W Δ n nm cond ifs) (he : SndE W Δ n nm elt e') (C : Cx n false A fs cenv nm) (hx : isTarget nm x id = true)
    (hslot : ∀ a, slotOf cenv id a → Ψ₀ a = none) (hit : Ψ₀ it = none) (hD : Ψ₀ D = none)
    (hρ : ∀ v, ρ₁.set x v = ρ.set x v)
    (hRR : ∀ Ψ' H' s', St W fs Ψ' H' s' → Keep none_ Ψ₀ Ψ' → (∃ m, Ψ' cenv.locals = some (.ns m)) → D ≠ cenv.locals → Q (.ref D) H' → RR (.ok .next) s')
    (S : St W fs Ψ H s) (K₀ : Keep none_ Ψ₀ Ψ) (hv : VRel Ψ sv src) (hel : Elems H src vs) (hi : ItAt Ψ sv src it 0) (hacc : Ψ D = some (.hid [])) (R : EnvRel Ψ cenv ρ₁)
    (h : compW src vs (fun v H k => wE Δ false cond (ρ.set x v) H (asTruth k) (fun _ _ => False)) (fun v H k => wE Δ false elt (ρ.set x v) H k (fun _ _ => False)) Q vs [] H) :
    codeAny W.M A (.compLoop (.ListComp e' [⟨.Name id px, iter, ifs, 0⟩] scope pos) 0 (.ref it) (.ref D) cenv) RR s := by
  refine codeAny_compLoop_tests (I := CompI W fs Ψ₀ cenv ρ x sv src vs it D (compW src vs (fun v H k => wE Δ false cond (ρ.set x v) H (asTruth k) (fun _ _ => False)) (fun v H k => wE Δ false elt (ρ.set x v) H k (fun _ _ => False)) Q)) (fun m s hI => ?_) vs.length ⟨Ψ, H, [], 0, ρ₁, rfl, hρ, S, K₀, hv, hel, hi, hacc, R, h⟩
  clear S K₀ hv hel hi hacc R h hρ
  obtain ⟨Ψ, H, acc, i, ρ₁, hm, hρ, S, K₀, hv, hel, hi, hacc, R, h⟩ := hI
  have hi0 := hi
  obtain ⟨oi, hraw, _⟩ := hi0
  have notIt : ∀ {a : Addr} {k : HK}, Ψ a = some k → 3 ≠ k.sort → ¬ a = it := fun e n => sort_apart hraw e n
  cases hx' : vs[i]? with
  | none =>
    rw [List.drop_eq_nil_of_le (List.getElem?_eq_none_iff.mp hx')] at h
    refine op_done hh S hv hel hi hx' fun Ψ' s' S' K' => ?_
    have kD : Ψ' D = some (.hid acc) := K'.slot D _ hacc rfl (notIt hacc ne34)
    obtain ⟨m', hC, _⟩ := R.loc
    have kC : Ψ' cenv.locals = some (.ns m') := K'.slot _ _ hC rfl (notIt hC ne31)
    have hne : D ≠ cenv.locals := ne_of_sort kC kD ne14
    exact hRR _ _ _ (S'.hidShown kD) ((K₀.newOwn K' fun a q => q ▸ hit).setNew _ hD) ⟨m', (Psi.set_ne _ _ hne.symm).trans kC⟩ hne (h D (S'.hidNone kD))
  | some v =>
    have hlt := (List.getElem?_eq_some_iff.mp hx').1
    rw [List.drop_eq_getElem_cons hlt, (List.getElem?_eq_some_iff.mp hx').2] at h
    obtain ⟨hsz, h⟩ := h
    refine op_next S hv hel hi hx' fun w Ψ' s' S' K' vw hi' => ?_
    have kD : Ψ' D = some (.hid acc) := K'.slot D _ hacc rfl (notIt hacc ne34)
    have R' : EnvRel Ψ' cenv ρ₁ := R.keepW K' fun a k e q => notIt e (not12 q ne31 ne32)
    refine wpAny_assign_Name (storeVar C.names R' S' hx vw fun Ψ₂ s₂ S₂ K₂ R₂ => ?_)
    rw [hρ] at R₂
    have kD₂ : Ψ₂ D = some (.hid acc) := K₂.slot D _ kD rfl (not_slot R' kD ne41 ne42)
    have hi₂ : ItAt Ψ₂ sv src it (i + 1) := hi'.keep K₂ (hi'.elim fun o z => not_slot R' z.1 ne31 ne32)
    have K2 : Keep none_ Ψ₀ Ψ₂ := (K₀.newOwn K' fun a q => q ▸ hit).newOwn K₂ hslot
    have hlen : vs.length - (i + 1) + (i + 1) = vs.length := Nat.sub_add_cancel hlt
    have hdec : vs.length - (i + 1) < m := by omega
    have F2 := K'.fix.trans K₂.fix
    refine wpAny_mono (monoB (ifs_run hc C R₂ S₂ h) fun Ψ₃ H₃ b s₃ S₃ K₃ h₃ => ?_) (fun _ _ x => x) fun e s₃ hx => by cases hx with | mk _ _ _ _ _ _ _ _ q => exact q.elim
    cases b with
    | false =>
      exact ⟨vs.length - (i + 1), hdec, Ψ₃, H₃, acc, i + 1, ρ.set x v, hlen, fun u => sto_set_set _ _ _ _, S₃, K2.trans K₃, hv.mono (F2.trans K₃.fix), h₃.1, hi₂.keep K₃ (fun q => q), K₃.slot _ _ kD₂ rfl (fun q => q), R₂.keep K₃, h₃.2⟩
    | true =>
      refine wpAny_mono (monoE (he C (R₂.keep K₃) S₃ h₃) fun Ψ₄ H₄ my y s₄ S₄ K₄ vy h₄ => ?_) (fun _ _ x => x) fun e s₃ hx => by cases hx with | mk _ _ _ _ _ _ _ _ q => exact q.elim
      have kD₄ : Ψ₄ D = some (.hid acc) := K₄.slot _ _ (K₃.slot _ _ kD₂ rfl (fun q => q)) rfl fun q => q
      refine hidAppend S₄ kD₄ hsz vy fun s₅ S₅ => ?_
      have K₅ : Keep (· = D) Ψ₄ (Ψ₄.set D (.hid (acc ++ [my]))) := .set_own kD₄ rfl rfl (fun _ q => HK.noConfusion q) (fun _ q => HK.noConfusion q)
      have hi₄ := (hi₂.keep K₃ (fun q => q)).keep K₄ (fun q => q)
      exact ⟨vs.length - (i + 1), hdec, _, H₄, acc ++ [my], i + 1, ρ.set x v, hlen, fun u => sto_set_set _ _ _ _, S₅, ((K2.trans K₃).trans K₄).setNew _ hD, hv.mono (((F2.trans K₃.fix).trans K₄.fix).trans K₅.fix), h₄.1,
        hi₄.keep K₅ (hi₄.elim fun o z => sort_apart kD₄ z.1 ne43), Psi.set_self _ _ _, ((R₂.keep K₃).keep K₄).keepW K₅ fun a k e q => sort_apart kD₄ e (not12 q ne41 ne42), h₄.2⟩

theorem notSet_folded {iter : PySem.Expr} {env : Env} (h : notSet iter = true) (x : Value) : foldedSetIterable iter env x = pure x := by
  cases iter <;> first | rfl | exact absurd h Bool.noConfusion
theorem comp_names {scope : Scope} {x : String} (hok : compOk nm x scope = true) : scope.kind = .function ∧ (∀ y ∈ scope.names, y.2 = .local → scope.names.lookup y.1 = some .local) ∧ isTarget (relabN nm scope.names) x (Str.ofString x) = true := by
  obtain ⟨hok, hall⟩ := and_of hok
  obtain ⟨hok, hx0⟩ := and_of hok
  obtain ⟨hok, hx⟩ := and_of hok
  obtain ⟨hk, hn⟩ := and_of hok
  replace hn := of_decide_eq_true hn
  refine ⟨?_, fun y hy hl => lookup_nodup hn (by rw [← hl]; exact hy), ?_⟩
  · cases q : scope.kind <;> first | rfl | (rw [q] at hk; exact absurd hk (by decide))
  · unfold isTarget
    rw [lookup_relab, Bool.and_eq_true]
    refine ⟨?_, ?_⟩
    · have : ∀ l, strEqL l l = true := by
        intro l; induction l with
        | nil => rfl
        | cons a l ih => simp [strEqL, ih]
      exact this _
    · unfold storeKind at hx ⊢
      split at hx
      · rename_i q; rw [q]; rfl
      · rename_i q; rw [q]; rfl
      · cases hx

/-- a comprehension, up to what becomes of its list -/
theorem comp_body {elt cond : ME} {x : String} {e' iter : PySem.Expr} {id : Str} {px : Pos} {ifs : List PySem.Expr} {scope : Scope} {pos : Pos} {env : Env} {ρ : Sto} {sv : Value} {src : MV} {vs : List MV} {RR : Value → Addr → Result → Shared → Prop} {Q : MV → MH → Prop}
    (hid : strEq id (Str.ofString x) = true) (hok : compOk nm x scope = true) (hc : SndIfs W Δ n (relabN nm scope.names) cond ifs) (he : SndE W Δ n (relabN nm scope.names) elt e') (C : Cx n false A fs env nm) (R : EnvRel Ψ env ρ) (S : St W fs Ψ H s) (hv : VRel Ψ sv src) (hel : Elems H src vs)
    (h : compW src vs (fun v H k => wE Δ false cond (ρ.set x v) H (asTruth k) (fun _ _ => False)) (fun v H k => wE Δ false elt (ρ.set x v) H k (fun _ _ => False)) Q vs [] H)
    (hRR : ∀ D C' Ψ' H' s', St W fs Ψ' H' s' → Keep none_ Ψ Ψ' → Ψ C' = none → (∃ m, Ψ' C' = some (.ns m)) → D ≠ C' → Q (.ref D) H' → RR (.ref D) C' (.ok .next) s') :
    wpAny W.M A (pyIter sv) (fun it s₂ => wpAny W.M A (newList []) (fun acc s₃ => wpAny W.M A (newFunctionEnv scope env.globals (clos env.cells scope.names []) [] env.qual none .none (some env)) (fun cenv s₄ =>
      codeAny W.M A (.compStart (.ListComp e' [⟨.Name id px, iter, ifs, 0⟩] scope pos) 0 it acc { cenv with scope := relabel scope env }) (RR acc cenv.locals) s₄) E s₃) E s₂) E s := by
  obtain rfl := strEq_eq hid
  obtain rfl := C.names
  refine op_iter S hv hel fun it Ψ₁ s₁ S₁ K₁ hit up₁ hi => ?_
  refine wpAny_newObj_type ?_
  have S₂ := S₁.push (s' := { s₁ with heap := s₁.heap.push { cls := .type "list", data := .seq ([] : List Value).toArray } }) (k := .hid []) (o := { cls := .type "list", data := .seq ([] : List Value).toArray }) rfl ⟨_, 0, rfl, .nil, Nat.zero_le _⟩ rfl rfl rfl
  have up₂ : ∀ b k, Ψ₁ b = some k → Ψ₁.set s₁.heap.objs.size (.hid []) b = some k := fun b k e => Psi.set_up S₁.none_at e
  have K₂ := K₁.trans (S₁.pushKeep (.hid []))
  have hD0 : Ψ s₁.heap.objs.size = none := by
    cases q : Ψ s₁.heap.objs.size with
    | none => rfl
    | some k => exact nn S₁.none_at (up₁ _ _ q)
  have back : ∀ a, Ψ₁.set s₁.heap.objs.size (.hid []) a = none → Ψ a = none := fun a ha => by
    cases q : Ψ a with
    | none => rfl
    | some k => exact nn ha (up₂ _ _ (up₁ _ _ q))
  obtain ⟨_, Ψ₃, S₃, K₃, R₃, hslot, hC⟩ := compPlace (R.keep K₂) S₂ hok
  obtain ⟨hkind, _, hT⟩ := comp_names hok
  refine newCompEnv ?_
  have C₃ : Cx n false A fs (compEnv scope ({ s₁ with heap := s₁.heap.push { cls := .type "list", data := .seq ([] : List Value).toArray } } : Shared).heap.objs.size env) (relabN env.scope.names scope.names) :=
    ⟨C.frames, C.top, relabel_names R.kind, C.hand, C.depth, C.units⟩
  have hi₃ : ItAt Ψ₃ sv src it 0 := hi.imp fun o z => ⟨K₃.slot _ _ (up₂ _ _ z.1) rfl id, z.2⟩
  have loop := comp_loop (Q := Q) (x := x) (px := px) (iter := iter) (scope := scope) (pos := pos) (RR := RR (.ref s₁.heap.objs.size) ({ s₁ with heap := s₁.heap.push { cls := .type "list", data := .seq ([] : List Value).toArray } } : Shared).heap.objs.size)
    (C.hand rfl) hc he C₃ hT (fun a ha => back a (hslot a ha)) hit hD0 (sto_del_set ρ x)
    (fun Ψ' H' s' S' K' hm hne q => hRR _ _ Ψ' H' s' S' K' (back _ hC) hm hne q) S₃ (K₂.trans K₃) (hv.mono (K₂.trans K₃).fix) hel hi₃ (K₃.slot _ _ (Psi.set_self _ _ _) rfl id) R₃ h
  exact codeAny_compStart_list loop (op_iterSelf S₃ hi₃ loop)

theorem frames_ne (S : St W fs Ψ H s) {a : Addr} (h : Ψ a = none) : ∀ e ∈ fs, e.frame ≠ some a := fun e he q => by
  obtain ⟨_, L, m, h1, h2⟩ := S.frames e he
  rw [q] at h1; cases h1; rw [h] at h2; cases h2

theorem snd_comp {elt cond it : ME} {x : String} {e' iter : PySem.Expr} {id : Str} {px : Pos} {ifs : List PySem.Expr} {scope : Scope} {pos : Pos} (hid : strEq id (Str.ofString x) = true) (hok : compOk nm x scope = true) (hset : notSet iter = true)
    (hit : SndE W Δ n nm it iter) (hc : SndIfs W Δ n (relabN nm scope.names) cond ifs) (he : SndE W Δ n (relabN nm scope.names) elt e') : SndE W Δ n nm (.comp elt x it cond) (.ListComp e' [⟨.Name id px, iter, ifs, 0⟩] scope pos) := by
  intro hd A fs env ρ Ψ H s Q X C R S h
  obtain ⟨rfl, h⟩ := h
  rw [eval_ListComp]
  obtain ⟨hkind, hnames, _⟩ := comp_names hok
  have hcl : closureFor scope env = pure (clos env.cells scope.names []) := by
    have hok' := hok
    rw [← C.names] at hok'
    exact closure_eq (compPlace R S hok').1
  refine wpAny_comprehension_free (use := none) rfl (fun v => notSet_folded hset v) hcl hkind hnames ?_
  refine monoE (hit C R S h) fun Ψ₁ H₁ src sv s₁ S₁ K₁ va h₁ => ?_
  obtain ⟨vs, hvs, h₁⟩ := h₁
  refine comp_body (RR := fun acc C' => compPost W.M A (PostX W fs Ψ X) none (PostE W fs Ψ Q) acc C') hid hok hc he C (R.keep K₁) S₁ va hvs h₁ fun D C' Ψ' H' s' S' K' hC hm hne q => ?_
  obtain ⟨m, hm⟩ := hm
  obtain ⟨o, ho, ents, k, hd, hs, hf⟩ := S'.typed _ _ hm
  refine ⟨nsFind ents, ⟨o, ents, k, ho, hd, hs, fun _ => rfl⟩, fun h' hsb => ?_⟩
  have S'' := S'.forget (s' := { s' with heap := h' }) hm rfl (frames_ne S₁ hC) hsb.extBut rfl rfl
  exact ⟨_, H', .ref D, S'', K₁.trans (K'.delNew hC), .ref, q⟩
end
end Mine
end
section
set_option autoImplicit false
set_option linter.unusedVariables false
namespace Mine
open PySem

section
variable {W : Amb} {K : PySem.W.Frag} {Δ : CallT} {n : Nat} {nm : Names} {fs : List Env} {Ψ Ψ₀ : Psi} {H : MH} {s s' : Shared} {A : Around} {E : Value → Shared → Prop} {env : Env} {outer : List Env}

/-- an exception noted at a frame: its traceback's head stands there -/
noncomputable def Held (W : Amb) (env : Env) (outer : List Env) (Ψ : Psi) (e : Addr) (c : String) (h : Heap) : Prop :=
  excNames.contains c = true ∧ ∃ B : Heap, W.h₀.StaysIn B ∧ B.StaysIn h ∧ B.get? e = none ∧ (∀ a k, Ψ a = some k → (∀ m, k ≠ .ns m) → ∃ o, B.get? a = some o) ∧ h.FunFrames B (env :: outer) ∧ ∃ a0 L, env.frame = some L ∧ h.TracedAtW B e (.ref (W.ca c)) a0 (rawInt L)
theorem noted {e : Addr} {c : String} {Q : Unit → Shared → Prop} (hfr : A.frames = some (env :: outer)) (F : Fly W (env :: outer) Ψ e c s.heap) (S : St W (env :: outer) Ψ H s)
    (h : ∀ s', Held W env outer Ψ e c s'.heap → St W (env :: outer) Ψ H s' → Q () s') : wpAny W.M A (noteFrame (.ref e) env) Q E s := by
  obtain ⟨hcn, B, h0, hB, hn, hk, hf, hx⟩ := F
  obtain ⟨L, _, hL, _⟩ := hf.2.1
  rcases hx with ⟨a0, hx⟩ | ⟨a0, L', env', outer', q, hL', hx⟩ | ⟨oe, vs, a0, he, hc, hd, h0', h1⟩
  · refine wpAny_looks_onW hfr hL ⟨hB, hn, hf, hx⟩ fun h' hh hu => ?_
    exact h _ ⟨hcn, B, h0, hh.1, hn, hk, hh.2.2.1, a0, L, hL, hh.2.2.2⟩ (S.flown hk h0 hB hh.1 hu rfl rfl)
  · cases q
    exact wpAny_noteFrame_againW hL' hx (h _ ⟨hcn, B, h0, hB, hn, hk, hf, a0, L', hL', hx⟩ S)
  · unfold noteFrame
    simp only [hL]
    refine wpAny_bind (wpAny_field he hd h1 ?_)
    rw [if_neg (by decide)]
    refine wpAny_entryW hfr hf hL he hB hn hd (Array.getElem?_eq_some_iff.mp h1).1 h0' fun h' hN => ?_
    obtain ⟨k1, k2, k3, k4⟩ := hN
    rw [hc] at k3
    exact h _ ⟨hcn, B, h0, k1, hn, hk, k2, a0, L, hL, k3⟩ (S.flown hk h0 hB k1 k4 rfl rfl)

theorem landed {e : Addr} {c : String} {Q : Unit → Shared → Prop} (F : Held W env outer Ψ e c s.heap) (S : St W (env :: outer) Ψ H s)
    (h : ∀ s', Fly W (env :: outer) Ψ e c s'.heap → (∃ B a0, W.h₀.StaysIn B ∧ B.StaysIn s'.heap ∧ B.get? e = none ∧ (∀ a k, Ψ a = some k → (∀ m, k ≠ .ns m) → ∃ o, B.get? a = some o) ∧ s'.heap.FunFrames B (env :: outer) ∧ s'.heap.TracedAtW B e (.ref (W.ca c)) a0 .none) → St W (env :: outer) Ψ H s' → Q () s') : wpAny W.M A (setFlight (.ref e) none) Q E s := by
  obtain ⟨hcn, B, h0, hB, hn, hk, hf, a0, L, hL, hx⟩ := F
  refine wpAny_landsW ⟨hB, hn, hf, hx⟩ fun h' hfl hu => ?_
  obtain ⟨k1, k2, k3, k4⟩ := hfl
  exact h _ ⟨hcn, B, h0, k1, hn, hk, k3, .inl ⟨a0, k4⟩⟩ ⟨B, a0, h0, k1, hn, hk, k3, k4⟩ (S.flown hk h0 hB k1 hu rfl rfl)

theorem cameBack {e : Addr} {c : String} {Q : Value → Shared → Prop} (F : Held W env outer Ψ e c s.heap) (S : St W (env :: outer) Ψ H s)
    (h : ∀ s', Fly W (env :: outer) Ψ e c s'.heap → St W (env :: outer) Ψ H s' → Q (.ref e) s') : cameBackBy W.M A env Q (.ref e) s := by
  obtain ⟨hcn, B, h0, hB, hn, hk, hf, a0, L, hL, hx⟩ := F
  obtain ⟨oe, vs, T, oT, ts, he, ⟨hcls, h0'⟩, hd, h1, hnT, hTe, hT, hdT, h3⟩ := hx
  unfold cameBackBy
  refine wpAny_bind (wpAny_field he hd h1 ?_)
  rw [if_neg (show ¬ ((Value.ref T == Value.none) = true) from by simp)]
  unfold setFlight
  refine wpAny_bind (wpAny_field he hd h1 ?_)
  rw [if_pos (show (Value.ref T != Value.none) = true from by simp), hL]
  have hsz3 : 3 < ts.size := (Array.getElem?_eq_some_iff.mp h3).1
  have other : ∀ b, b ≠ T → (s.heap.update T (Obj.mapFields (·.setIfInBounds 3 (rawInt L)))).get? b = s.heap.get? b := fun b hb => Heap.get?_update_other _ _ (Ne.symm hb)
  have noRecord : ∀ b o, s.heap.get? b = some o → (∀ vs, o.data ≠ .fields vs) → b ≠ T := fun b o hb hnf q => by
    rw [q, hT] at hb; injection hb with hb; subst hb; exact hnf ts hdT
  have hdT' := Obj.data_mapFields hdT (·.setIfInBounds 3 (rawInt L))
  have hT' := Heap.get?_update_self (Obj.mapFields (·.setIfInBounds 3 (rawInt L))) hT (Obj.isFreed_of_fields hdT')
  have kb : B.StaysIn (s.heap.update T (Obj.mapFields (·.setIfInBounds 3 (rawInt L)))) := fun b o hbo => (other b fun q => by rw [q, hnT] at hbo; cases hbo).trans (hB b o hbo)
  have up : s.heap.UpToSlots (s.heap.update T (Obj.mapFields (·.setIfInBounds 3 (rawInt L)))) := fun b o hb hnf => ⟨o.slots, (other b (noRecord b o hb hnf)).trans hb⟩
  refine wpAny_setField hT hdT hsz3 (h { s with heap := s.heap.update T (Obj.mapFields (·.setIfInBounds 3 (rawInt L))) } ⟨hcn, B, h0, kb, hn, hk, hf.of_keeps fun b o hb hnf => ⟨o, (other b (noRecord b o hb hnf)).trans hb, rfl⟩, .inr (.inl ⟨a0, L, env, outer, rfl, hL, ?_⟩)⟩ (S.flown hk h0 hB kb up rfl rfl))
  exact ⟨oe, vs, T, _, _, (other e (Ne.symm hTe)).trans he, ⟨hcls, h0'⟩, hd, h1, hnT, hTe, hT', hdT', by simp [hsz3]⟩

/-- what a raise within a loop leaves -/
theorem noted_loop {X : String → Sto → MH → Prop} {e : Value} (hfr : A.frames = some (env :: outer)) (h : PostY W (env :: outer) env Ψ X e s) :
    notedBy W.M A env (fun e s' => cameBackBy W.M A env (PostY W (env :: outer) env Ψ X) e s') e s := by
  obtain ⟨ea, c, Ψ', H', ρ', rfl, F, S, K', R, x⟩ := h
  refine noted hfr F S fun s₁ hh S₁ => ?_
  exact cameBack hh S₁ fun s₂ F₂ S₂ => ⟨ea, c, Ψ', H', ρ', rfl, F₂, S₂, K', R, x⟩

/-! suites -/
theorem sndSs_nil : SndSs W Δ n nm .nil [] := by
  intro hd A outer env ρ Ψ H s N R X C Rl S h
  exact wpAny_execs_nil ⟨Ψ, H, ρ, S, .refl _ _, Rl, h⟩
theorem sndSs_cons {m : MS} {ms : MSs} {x : Stmt} {xs : List Stmt} (h1 : SndS W Δ n nm m x) (h2 : SndSs W Δ n nm ms xs) : SndSs W Δ n nm (.cons m ms) (x :: xs) := by
  intro hd A outer env ρ Ψ H s N R X C Rl S h
  refine wpAny_execs_cons (wpAny_mono (h1 C Rl S h) (fun f s₁ h₁ => ?_) fun _ _ x => x)
  cases f with
  | next =>
    obtain ⟨Ψ₁, H₁, ρ₁, S₁, K₁, R₁, h₁⟩ := h₁
    exact wpAny_mono (h2 C R₁ S₁ h₁) (fun _ _ x => x.from K₁) fun _ _ x => x.from K₁
  | ret v => exact h₁
  | _ => exact h₁.elim

noncomputable def notComp : PySem.Expr → Bool
  | .ListComp .. | .SetComp .. | .DictComp .. => false
  | _ => true
theorem swaps_not {value : PySem.Expr} {t : Option PySem.Expr} {l : Nat} {env : Env} (h : notComp value = true) : swapsWith value t l env = pure false := by
  cases value <;> first | rfl | exact absurd h Bool.noConfusion
theorem interactive_off {env : Env} (h : env.scope.kind = .function) : interactive env = false := by
  unfold interactive; rw [h]; rfl

theorem snd_expr {e : ME} {x : PySem.Expr} {pos : Pos} (hn : notComp x = true) (he : SndE W Δ n nm e x) : SndS W Δ n nm (.expr e) (.Expr x pos) := by
  intro hd A outer env ρ Ψ H s N R X C Rl S h
  refine wpAny_Expr_any (wpAny_mono (monoE (he C Rl S h) fun Ψ₁ H₁ mv v s₁ S₁ K₁ va h₁ => ?_) (fun _ _ x => x) fun _ _ x => x.toY Rl (.refl _ _)) (interactive_off Rl.kind) (swaps_not hn)
  exact ⟨Ψ₁, H₁, ρ, S₁, K₁.of_none, Rl.keep K₁, h₁⟩
/-- a value to a name -/
theorem assign_any {e : ME} {y : String} {x : PySem.Expr} {id : Str} {p pos : Pos} (hs : ∀ env : Env, env.scope.kind = .function → env.scope.names = nm → swapsWith x (some (.Name id p)) pos.line env = pure false) (ht : isTarget nm y id = true) (he : SndE W Δ n nm e x) : SndS W Δ n nm (.assign y e) (.Assign [.Name id p] x pos) := by
  intro hd A outer env ρ Ψ H s N R X C Rl S h
  refine wpAny_Assign_Name (wpAny_mono (monoE (he C Rl S h) fun Ψ₁ H₁ mv v s₁ S₁ K₁ va h₁ => ?_) (fun _ _ x => x) fun _ _ x => x.toY Rl (.refl _ _)) (hs env Rl.kind C.names)
  refine storeVar C.names (Rl.keep K₁) S₁ ht va fun Ψ₂ s₂ S₂ K₂ R₂ => ?_
  exact ⟨Ψ₂, H₁, _, S₂, K₁.of_none.trans (K₂.weaken fun a ha => slot_own ha), R₂, h₁⟩
theorem snd_assign {e : ME} {y : String} {x : PySem.Expr} {id : Str} {p pos : Pos} (hn : notComp x = true) (ht : isTarget nm y id = true) (he : SndE W Δ n nm e x) : SndS W Δ n nm (.assign y e) (.Assign [.Name id p] x pos) :=
  assign_any (fun _ _ _ => swaps_not hn) ht he
theorem snd_ret {e : ME} {x : PySem.Expr} {pos : Pos} (he : SndE W Δ n nm e x) : SndS W Δ n nm (.ret e) (.Return (some x) pos) := by
  intro hd A outer env ρ Ψ H s N R X C Rl S h
  refine wpAny_Return_some (wpAny_mono (monoE (he C Rl S h) fun Ψ₁ H₁ mv v s₁ S₁ K₁ va h₁ => ?_) (fun _ _ x => x) fun _ _ x => x.toY Rl (.refl _ _))
  exact ⟨Ψ₁, H₁, mv, S₁, K₁.of_none, ⟨ρ, Rl.keep K₁⟩, va, h₁⟩
theorem snd_ite {t : ME} {a b : MSs} {x : PySem.Expr} {xs ys : List Stmt} {pos : Pos} (ht : SndT W Δ n nm t x) (ha : SndSs W Δ n nm a xs) (hb : SndSs W Δ n nm b ys) : SndS W Δ n nm (.ite t a b) (.If x xs ys pos) := by
  intro hd A outer env ρ Ψ H s N R X C Rl S h
  refine wpAny_If (wpAny_mono (monoB (ht C Rl S h) fun Ψ₁ H₁ c s₁ S₁ K₁ h₁ => ?_) (fun _ _ x => x) fun _ _ x => x.toY Rl (.refl _ _))
  cases c with
  | true =>
    exact wpAny_mono (ha C (Rl.keep K₁) S₁ h₁) (fun _ _ x => x.from K₁.of_none) fun _ _ x => x.from K₁.of_none
  | false =>
    exact wpAny_mono (hb C (Rl.keep K₁) S₁ h₁) (fun _ _ x => x.from K₁.of_none) fun _ _ x => x.from K₁.of_none

theorem snd_while {t : ME} {b : MSs} {x : PySem.Expr} {xs : List Stmt} {pos : Pos} (ht : SndT W Δ n nm t x) (hb : SndSs W Δ n nm b xs) : SndS W Δ n nm (.whil t b) (.While x xs [] pos) := by
  intro hd A outer env ρ Ψ H s N R X C Rl S h
  obtain ⟨k, h⟩ := h
  refine wpAny_While (codeAny_whileLoop (I := fun k s => PostN W (env :: outer) env Ψ (whileW (fun ρ H k => wE Δ hd t ρ H (asTruth k) (fun c H₁ => X c ρ H₁)) (fun ρ H k => wSs Δ hd b ρ H k R X) N k) s) (fun k s hI => ?_) k ⟨Ψ, H, ρ, S, .refl _ _, Rl, h⟩)
  clear S Rl h
  obtain ⟨Ψ', H', ρ', S, K', Rl, h⟩ := hI
  cases k with
  | zero => exact h.elim
  | succ k =>
    refine wpAny_mono (monoB (ht C Rl S h) fun Ψ₁ H₁ c s₁ S₁ K₁ h₁ => ?_) (fun _ _ x => x) fun _ _ x => noted_loop C.frames (x.toY Rl K')
    have K1 := K'.trans K₁.of_none
    cases c with
    | true =>
      refine wpAny_mono (hb C (Rl.keep K₁) S₁ h₁) (fun f s₂ h₂ => ?_) fun _ _ x => noted_loop C.frames (x.from K1)
      cases f with
      | next =>
        obtain ⟨Ψ₂, H₂, ρ₂, S₂, K₂, R₂, h₂⟩ := h₂
        exact ⟨k, Nat.lt_succ_self k, Ψ₂, H₂, ρ₂, S₂, K1.trans K₂, R₂, h₂⟩
      | ret v => exact PostS.from (f := .ret v) K1 h₂
      | _ => exact h₂.elim
    | false =>
      exact wpAny_execs_nil ⟨Ψ₁, H₁, ρ', S₁, K1, Rl.keep K₁, h₁⟩
end
end Mine
end
section
set_option autoImplicit false
set_option linter.unusedVariables false
namespace Mine
open PySem

section
variable {W : Amb} {K : PySem.W.Frag} {Δ : CallT} {n : Nat} {nm : Names} {fs : List Env} {Ψ Ψ₀ Ψ' : Psi} {H : MH} {s s' : Shared} {A : Around} {E : Value → Shared → Prop} {env : Env} {outer : List Env}

theorem Keep.newOwn' {own own' : Addr → Prop} (x : Keep own Ψ₀ Ψ) (y : Keep own' Ψ Ψ') (h : ∀ a, own' a → Ψ₀ a = none ∨ own a) : Keep own Ψ₀ Ψ' :=
  ((x.weaken (own' := fun a => own a ∨ own' a) fun _ q => .inl q).trans (y.weaken fun _ q => .inr q)).drop fun a ha => ha.elim .inr (h a)
theorem own_kind {ρ : Sto} {a : Addr} (R : EnvRel Ψ env ρ) (h : ownOf env a) : ∃ k, Ψ a = some k ∧ (k.sort = 1 ∨ k.sort = 2) := by
  rcases h with rfl | ⟨id, h1, h2⟩
  · exact R.loc.elim fun m h => ⟨_, h.1, .inl rfl⟩
  · exact slot_kind R (.inr ⟨h1, h2⟩)
theorem raw_not_own {ρ : Sto} {a : Addr} {o : Obj} (R : EnvRel Ψ env ρ) (h : Ψ a = some (.raw o)) : ¬ ownOf env a := fun q => by
  obtain ⟨k, e, z⟩ := own_kind R q
  obtain rfl := Option.some.inj (h.symm.trans e)
  exact z.elim ne31 ne32

noncomputable def plainIt (c : String) : Bool := c == "list_iterator" || c == "tuple_iterator" || c == "range_iterator"
theorem it_plain {sv : Value} {src : MV} {ia : Addr} {i : Nat} (S : St W fs Ψ H s) (h : ItAt Ψ sv src ia i) : ∃ ia' o c dv, Value.ref ia = .ref ia' ∧ s.heap.get? ia' = some o ∧ o.cls = .type c ∧ o.data = .fields dv ∧ plainIt c = true := by
  obtain ⟨o, ho, hm⟩ := h
  obtain ⟨o', ho', rfl⟩ := S.typed _ _ ho
  cases src with
  | ref a => exact ⟨ia, _, _, _, rfl, ho', hm.1, hm.2, rfl⟩
  | tup vs => exact hm.elim fun a z => ⟨ia, _, _, _, rfl, ho', z.2.1, z.2.2, rfl⟩
  | rng a b c => subst hm; exact ⟨ia, _, _, _, rfl, ho', rfl, rfl, rfl⟩
  | _ => exact hm.elim
/-- binding a loop's target -/
noncomputable def SndTgt (W : Amb) (nm : Names) (f : MV → Sto → Sto → Prop) (t : PySem.Expr) : Prop :=
  ∀ {A : Around} {fs : List Env} {env : Env} {ρ ρ' : Sto} {Ψ : Psi} {H : MH} {s : Shared} {v : Value} {mv : MV} {it : Value} {E : Value → Shared → Prop} {QQ : Unit → Shared → Prop}, A.handled = none → env.scope.names = nm → EnvRel Ψ env ρ → St W fs Ψ H s → VRel Ψ v mv → f mv ρ ρ' →
    (∃ ia o c dv, it = .ref ia ∧ s.heap.get? ia = some o ∧ o.cls = .type c ∧ o.data = .fields dv ∧ plainIt c = true) →
    (∀ Ψ' s', St W fs Ψ' H s' → Keep (ownOf env) Ψ Ψ' → EnvRel Ψ' env ρ' → QQ () s') → wpAny W.M A (letOwnedTupleGo t it v) (fun _ s₁ => wpAny W.M A (assign t env v) QQ E s₁) E s
theorem tgt_name {x : String} {id : Str} {p : Pos} (ht : isTarget nm x id = true) : SndTgt W nm (fun v ρ ρ' => ρ' = ρ.set x v) (.Name id p) := by
  intro A fs env ρ ρ' Ψ H s v mv it E QQ hh hn R S hv hf _ h
  subst hf
  exact wpAny_pure (wpAny_assign_Name (storeVar hn R S ht hv fun Ψ' s' S' K' R' => h Ψ' s' S' (K'.weaken fun a ha => slot_own ha) R'))

/-- where a loop stands -/
inductive ForI (W : Amb) (fs : List Env) (env : Env) (Ψ₁ : Psi) (sv : Value) (src : MV) (vs : List MV) (ia : Addr) (Z : List MV → Sto → MH → Prop) (m : Nat) (s : Shared) : Prop
  | mk (Ψ' : Psi) (H' : MH) (ρ' : Sto) (i : Nat) (hm : m + i = vs.length) (S : St W fs Ψ' H' s) (K : Keep (ownOf env) Ψ₁ Ψ') (R : EnvRel Ψ' env ρ') (va : VRel Ψ' sv src) (hvs : Elems H' src vs) (hi : ItAt Ψ' sv src ia i) (h : Z (vs.drop i) ρ' H')
theorem for_core {f : MV → Sto → Sto → Prop} {t it : PySem.Expr} {itm : ME} {b : MSs} {xs : List Stmt} {pos : Pos} {ρ : Sto} {N : Sto → MH → Prop} {R : MV → MH → Prop} {X : String → Sto → MH → Prop} {body : MV → Sto → MH → (Sto → MH → Prop) → Prop}
    (hset : notSet it = true) (hti : SndTgt W nm f t) (hit : SndE W Δ n nm itm it) (hb : SndSs W Δ n nm b xs) (hbody : ∀ v ρ H k, body v ρ H k → ∃ ρ', f v ρ ρ' ∧ wSs Δ false b ρ' H k R X)
    (C : Cx n false A (env :: outer) env nm) (Rl : EnvRel Ψ env ρ) (S : St W (env :: outer) Ψ H s)
    (h : wE Δ false itm ρ H (fun src H₁ => ∃ vs, Elems H₁ src vs ∧ forW src vs body N vs ρ H₁) (fun c H₁ => X c ρ H₁)) :
    wpAny W.M A (exec (.For t it xs [] pos) env) (PostS W (env :: outer) env Ψ N R) (PostY W (env :: outer) env Ψ X) s := by
  refine wpAny_For (wpAny_mono (monoE (hit C Rl S h) fun Ψ₁ H₁ src sv s₁ S₁ K₁ va h₁ => ?_) (fun _ _ x => x) fun _ _ x => x.toY Rl (.refl _ _)) (fun v => notSet_folded hset v)
  obtain ⟨vs, hvs, h₁⟩ := h₁
  refine op_iter S₁ va hvs fun ia Ψ₂ s₂ S₂ K₂ hia up hi => ?_
  have hia0 : ∀ a, a = ia → Ψ₁ a = none ∨ ownOf env a := fun a q => .inl (q ▸ hia)
  refine codeAny_forLoop_any (I := ForI W (env :: outer) env Ψ₁ sv src vs ia (forW src vs body N)) (fun m s hI => ?_) vs.length
    ⟨Ψ₂, H₁, ρ, 0, rfl, S₂, K₂.of_none, Rl.keep (K₁.trans K₂), va.mono K₂.fix, hvs, hi, h₁⟩
  clear S S₁ S₂ h₁ hi K₂ up Rl va hvs
  obtain ⟨Ψ', H', ρ', i, hm, S', K', R', va, hvs, hi, h₁⟩ := hI
  have hi0 := hi
  obtain ⟨oi, hraw, _⟩ := hi0
  have noI : ∀ a k, Ψ' a = some k → (k.sort = 1 ∨ k.sort = 2) → ¬ a = ia := fun a k e q => sort_apart hraw e (not12 q ne31 ne32)
  cases hx' : vs[i]? with
  | none =>
    rw [List.drop_eq_nil_of_le (List.getElem?_eq_none_iff.mp hx')] at h₁
    exact op_done (C.hand rfl) S' va hvs hi hx' fun Ψ₃ s₃ S₃ K₃ => wpAny_execs_nil ⟨Ψ₃, H', ρ', S₃, K₁.of_none.trans (K'.newOwn' K₃ hia0), R'.keepW K₃ noI, h₁⟩
  | some v =>
    have hlt := (List.getElem?_eq_some_iff.mp hx').1
    rw [List.drop_eq_getElem_cons hlt, (List.getElem?_eq_some_iff.mp hx').2] at h₁
    refine op_next S' va hvs hi hx' fun w Ψ₃ s₃ S₃ K₃ vw hi₃ => ?_
    have R₃ := R'.keepW K₃ noI
    have K13 := K'.newOwn' K₃ hia0
    obtain ⟨ρ'', hf, h₁⟩ := hbody _ _ _ _ h₁
    refine hti (C.hand rfl) C.names R₃ S₃ vw hf (it_plain S₃ hi₃) fun Ψ₄ s₄ S₄ K₄ R₄ => ?_
    have hi₄ := hi₃.keep K₄ (hi₃.elim fun o z => raw_not_own R₃ z.1)
    have K14 := K₁.of_none.trans (K13.trans K₄)
    refine wpAny_mono (hb C R₄ S₄ h₁) (fun fl s₅ h₅ => ?_) fun _ _ x => noted_loop C.frames (x.from K14)
    cases fl with
    | next =>
      obtain ⟨Ψ₅, H₅, ρ₅, S₅, K₅, R₅, hel, h₅⟩ := h₅
      exact ⟨vs.length - (i + 1), by omega, Ψ₅, H₅, ρ₅, i + 1, Nat.sub_add_cancel hlt, S₅, (K13.trans K₄).trans K₅, R₅, va.mono (K₃.fix.trans (K₄.fix.trans K₅.fix)), hel, hi₄.keep K₅ (hi₄.elim fun o z => raw_not_own R₄ z.1), h₅⟩
    | ret v => exact PostS.from (f := .ret v) K14 h₅
    | _ => exact h₅.elim
end
end Mine
end
section
set_option autoImplicit false
set_option linter.unusedVariables false
namespace Mine
open PySem

section
variable {W : Amb} {K : PySem.W.Frag} {Δ : CallT} {n : Nat} {nm : Names} {fs : List Env} {Ψ Ψ₀ Ψ' : Psi} {H : MH} {s s' : Shared} {A : Around} {E : Value → Shared → Prop} {env : Env} {outer : List Env}

theorem snd_for {x : String} {it : ME} {b : MSs} {id : Str} {p : Pos} {t : PySem.Expr} {xs : List Stmt} {pos : Pos} (ht : isTarget nm x id = true) (hset : notSet t = true) (hit : SndE W Δ n nm it t) (hb : SndSs W Δ n nm b xs) : SndS W Δ n nm (.for_ x it b) (.For (.Name id p) t xs [] pos) := by
  intro hd A outer env ρ Ψ H s N R X C Rl S h
  obtain ⟨rfl, h⟩ := h
  exact for_core (f := fun v ρ ρ' => ρ' = ρ.set x v) hset (tgt_name ht) hit hb (fun v ρ H k z => ⟨_, rfl, z⟩) C Rl S h

/-! attributes are set -/
theorem putL_find {name y : Str} {hsh : Int} {t : Tok} {v : Value} : ∀ {es : List DictEntry}, (∀ e ∈ es, ∃ m t, e.key = .str m t) →
    ((PySem.W.putL name hsh (.str name t) v es).find? (·.key.isStr y)).map (·.val) = if y = name then some v else (es.find? (·.key.isStr y)).map (·.val)
  | [], _ => by
    simp only [PySem.W.putL, List.find?_cons, List.find?_nil]
    by_cases q : y = name
    · subst q; simp [Value.isStr]
    · have : Value.isStr (.str name t) y = false := by simp only [Value.isStr]; exact beq_eq_false_iff_ne.mpr fun z => q z.symm
      rw [this, if_neg q]
  | e :: es, h => by
    obtain ⟨m, u, hm⟩ := h e (by simp)
    have ih := putL_find (name := name) (y := y) (hsh := hsh) (t := t) (v := v) (es := es) fun e he => h e (by simp [he])
    unfold PySem.W.putL
    have ks : ∀ z, e.key.isStr z = (m == z) := fun z => by rw [hm]; rfl
    cases q : e.key.isStr name with
    | true =>
      rw [ks] at q
      obtain rfl := beq_iff_eq.mp q
      simp only [if_true, List.find?_cons, ks]
      by_cases z : y = m
      · subst z; simp
      · have : (m == y) = false := beq_eq_false_iff_ne.mpr fun w => z w.symm
        rw [this, if_neg z]
    | false =>
      simp only [Bool.false_eq_true, if_false, List.find?_cons, ks]
      cases z : m == y with
      | true =>
        obtain rfl := beq_iff_eq.mp z
        rw [ks] at q
        rw [if_neg (beq_eq_false_iff_ne.mp q)]
      | false => exact ih
theorem putL_keys {name : Str} {hsh : Int} {t : Tok} {v : Value} : ∀ {es : List DictEntry}, (∀ e ∈ es, ∃ m t, e.key = .str m t) → ∀ e ∈ PySem.W.putL name hsh (.str name t) v es, ∃ m t, e.key = .str m t
  | [], _, e, he => by simp only [PySem.W.putL, List.mem_singleton] at he; subst he; exact ⟨_, _, rfl⟩
  | a :: es, h, e, he => by
    unfold PySem.W.putL at he
    split at he
    · rcases List.mem_cons.mp he with q | q
      · subst q; exact h a (by simp)
      · exact h e (by simp [q])
    · rcases List.mem_cons.mp he with q | q
      · subst q; exact h e (by simp)
      · exact putL_keys (fun e he => h e (by simp [he])) e q
theorem putL_length {name : Str} {hsh : Int} {key v : Value} : ∀ {es : List DictEntry}, (PySem.W.putL name hsh key v es).length = if es.any (·.key.isStr name) then es.length else es.length + 1
  | [] => rfl
  | a :: es => by
    have ih := putL_length (name := name) (hsh := hsh) (key := key) (v := v) (es := es)
    unfold PySem.W.putL
    cases q : a.key.isStr name with
    | true => simp [q]
    | false =>
      simp only [Bool.false_eq_true, if_false, List.length_cons, List.any_cons, q, Bool.false_or, ih]
      split <;> rfl
theorem fsSet_length {f : String} {x : MV} : ∀ {l : List (String × MV)}, (fsSet l f x).length = if (fsGet l f).isSome then l.length else l.length + 1
  | [] => rfl
  | (y, u) :: r => by
    have ih := fsSet_length (f := f) (x := x) (l := r)
    unfold fsSet fsGet
    by_cases q : f = y
    · simp [q]
    · simp only [q, if_false, List.length_cons, ih]; split <;> rfl
theorem fsGet_set {f g : String} {x : MV} : ∀ {l : List (String × MV)}, fsGet (fsSet l f x) g = if g = f then some x else fsGet l g
  | [] => by unfold fsSet fsGet fsGet; rfl
  | (y, u) :: r => by
    have ih := fsGet_set (f := f) (g := g) (x := x) (l := r)
    unfold fsSet
    by_cases q : f = y
    · subst q
      simp only [if_true, fsGet]
      by_cases z : g = f <;> simp [z]
    · simp only [q, if_false, fsGet, ih]
      by_cases z : g = y
      · subst z; simp [Ne.symm q]
      · simp [z]

noncomputable def setOk (ca : String → Addr) (K : PySem.W.Frag) (f : Str) : Bool := (PySem.W.findIn K (.ref (ca "Train")) "__setattr__" == some (some (.builtin "object.__setattr__"))) && PySem.W.plainOver K (ca "Train") && (PySem.W.takerIn K (ca "Train") f == some none) && PySem.W.hasDictIn K (ca "Train")

/-- a name among the entries -/
theorem any_of_find {ents : Array DictEntry} {x : Str} : ents.toList.any (·.key.isStr x) = (nsFind ents x).isSome := by
  rw [nsFind_list, Option.isSome_map, Bool.eq_iff_iff, List.find?_isSome, List.any_eq_true]
theorem put_ledger {Ψ : Psi} {o : Obj} {ents : Array DictEntry} {l : List (String × MV)} {f : String} {a : Addr} {v : Value} {mx : MV} {hsh : Int} {t : Tok} {k : Nat} (hs : StrKeys ents) (hsz : ents.size ≤ l.length) (hn : ∀ x, fsGet l x = none → nsFind ents (Str.ofString x) = none)
    (hf : ∀ x mv, fsGet l x = some mv → ∃ v, nsFind ents (Str.ofString x) = some v ∧ VRel Ψ v mv) (hx : VRel Ψ v mx) (he : o.ExactDict) (hd : o.data = .dict (PySem.W.putL (Str.ofString f) hsh (.str (Str.ofString f) t) v ents.toList).toArray k) : W.O Ψ o (.idict a (fsSet l f mx)) := by
  have hkeys : ∀ e ∈ ents.toList, ∃ m t, e.key = .str m t := fun e he' => hs e (by simpa using he')
  have fnd : ∀ y, nsFind (PySem.W.putL (Str.ofString f) hsh (.str (Str.ofString f) t) v ents.toList).toArray (Str.ofString y) = if y = f then some v else nsFind ents (Str.ofString y) := fun y => by
    rw [nsFind_list, nsFind_list]
    refine (putL_find hkeys).trans ?_
    by_cases z : y = f
    · rw [if_pos z, if_pos (z ▸ rfl)]
    · rw [if_neg z, if_neg fun w => z (ofString_inj w)]
  refine ⟨he, _, _, hd, ⟨fun e he' => putL_keys hkeys e (by simpa using he'), ?_⟩, fun y hy => ?_, fun y mv hy => ?_⟩
  · rw [List.size_toArray, putL_length, fsSet_length, any_of_find, Array.length_toList]
    cases q : fsGet l f with
    | some mv => obtain ⟨w, hw, _⟩ := hf f mv q; rw [hw]; exact hsz
    | none => rw [hn f q]; exact Nat.succ_le_succ hsz
  · rw [fsGet_set] at hy
    rw [fnd]
    by_cases z : y = f
    · rw [if_pos z] at hy; exact nn hy rfl
    · rw [if_neg z] at hy ⊢; exact hn y hy
  · rw [fsGet_set] at hy
    rw [fnd]
    by_cases z : y = f
    · rw [if_pos z] at hy ⊢; exact ⟨v, rfl, Option.some.inj hy ▸ hx⟩
    · rw [if_neg z] at hy ⊢; exact hf y mv hy
open PySem.W in
theorem op_setattr {f : String} {o v : Value} {mo mx : MV} {Q : MH → Prop} {QQ : Unit → Shared → Prop} (F : Facts W K) (hok : setOk W.ca K (Str.ofString f) = true) (S : St W fs Ψ H s) (ho : VRel Ψ o mo) (hx : VRel Ψ v mx) (h : SetAttrR H Q mo f mx)
    (hq : ∀ Ψ' H' s', St W fs Ψ' H' s' → Keep none_ Ψ Ψ' → Q H' → QQ () s') : wpAny W.M A (setAttr o (Str.ofString f) v) QQ E s := by
  cases h with
  | @mk a l _ _ hl hlen h =>
    obtain rfl := vref ho
    obtain ⟨ox, d, od, ents, k, h1, h2, I, hdx, hod, he, hk, hs, hsz, hn, hf⟩ := S.inst hl
    obtain ⟨hok, k4⟩ := and_of hok
    obtain ⟨hok, k3⟩ := and_of hok
    obtain ⟨k1, k2⟩ := and_of hok
    refine set_plain (F.at S) I (eq_of_beq k1) (osa_open (s := { s with toks := s.toks + 1 }) (F.at (S.toks (s.toks + 1))) I k2 (eq_of_beq k3) fun b => ?_)
    obtain ⟨cd, hc, hd'⟩ := any_some k4
    obtain ⟨hxa, hcl, hn', -⟩ := I
    obtain ⟨oc, odi, oda, osl⟩ := ox
    dsimp only at hcl hdx
    subst hcl hdx
    have hodd : od = dictOf ents.toList k := by
      obtain ⟨e1, e2, e3⟩ := he
      obtain ⟨oc', odi', oda', osl'⟩ := od
      dsimp only at e1 e2 e3 hk
      subst e1 e2 e3 hk
      simp [dictOf]
    refine wpAny_bind (wpAny_pure (wpAny_bind (wpAny_bind (wpAny_loadPart hxa (wpAny_bind ((looks_clsIn (F.at (S.toks (s.toks + 1))) hc).here ?_))))))
    rw [hd']
    refine wpAny_pure (a := some d) (wpAny_bind (wpAny_pure (wpAny_bind ?_)))
    unfold nsSet
    refine wpAny_bind (wpAny_bind (wpAny_askSetting (wpAny_pure (wpAny_bind (wpAny_mkText (wpAny_bind (wpAny_loadPart hod ?_)))))))
    rw [hk]
    dsimp only
    have cc : (!ents.any (·.key.isStr (Str.ofString f)) && ents.any (·.refKey)) = false := by
      have := noRef hs
      rw [Array.any_toList] at this
      rw [this, Bool.and_false]
    rw [aRefKeyMayBeTheName_at, cc]
    have hput := putName_dict (Str.ofString f) (PyData.keyHash W.w.params (Str.ofString f)) (.str (Str.ofString f) (s.toks + 1)) v ents.toList k
    have hL := putL_length (name := Str.ofString f) (hsh := PyData.keyHash W.w.params (Str.ofString f)) (key := .str (Str.ofString f) (s.toks + 1)) (v := v) (es := ents.toList)
    refine wpAny_updatePart hod ?_
    have hnew : (s.heap.update d (Obj.putName (Str.ofString f) (PyData.keyHash W.w.params (Str.ofString f)) (.str (Str.ofString f) (s.toks + 1)) v)).get? d = some (dictOf (putL (Str.ofString f) (PyData.keyHash W.w.params (Str.ofString f)) (.str (Str.ofString f) (s.toks + 1)) v ents.toList) (putN (Str.ofString f) ents.toList k)) := by
      rw [Heap.get?_update_self _ hod (by rw [hodd, hput]; rfl), hodd, hput]
    have hsize : (putL (Str.ofString f) (PyData.keyHash W.w.params (Str.ofString f)) (.str (Str.ofString f) (s.toks + 1)) v ents.toList).length ≤ 101 := by
      rw [hL, Array.length_toList]; split <;> omega
    refine wpAny_bind (wpAny_lookBehind hnew (pastItsLine_dict (by rw [List.size_toArray, sizeLine_eq]; omega)) ?_)
    refine wpAny_pure ?_
    -- the ledger
    have F1 : Fix Ψ (Ψ.set d (.idict a (fsSet l f mx))) := .set_turn _ h2 rfl
    refine hq (Ψ.set d (.idict a (fsSet l f mx))) (H.set a (.inst (fsSet l f mx))) _ (S.turned (s' := { s with heap := s.heap.update d (Obj.putName (Str.ofString f) (PyData.keyHash W.w.params (Str.ofString f)) (.str (Str.ofString f) (s.toks + 1)) v), toks := _ }) (k := .idict a (fsSet l f mx)) h2 rfl (fun m q => HK.noConfusion q)
      (put_ledger hs hsz hn (fun x mv h => (hf x mv h).imp fun _ z => ⟨z.1, z.2.mono F1⟩) (hx.mono F1) ⟨rfl, rfl, rfl⟩ rfl) (Heap.SameBut.update ..) hnew (fun b x e => ?_) rfl rfl (fun _ q => HK.noConfusion q)) (.set_data _ h2 rfl) h
    have ne : ∀ c k', Ψ c = some k' → (∀ l', k' ≠ .idict a l') → Ψ.set d (.idict a (fsSet l f mx)) c = some k' := fun c k' e' hr => (Psi.set_ne _ _ fun (z : c = d) => hr l (Option.some.inj ((z ▸ e').symm.trans h2))).trans e'
    by_cases q : b = a
    · subst q; exact Option.some.inj ((MH.set_self _ _ _).symm.trans e) ▸ ⟨d, ne _ _ h1 (fun _ z => HK.noConfusion z), Psi.set_self _ _ _⟩
    · have := S.heap b x ((MH.set_ne _ _ q).symm.trans e)
      cases x with
      | inst l' => exact this.imp fun d' z => ⟨ne _ _ z.1 (fun _ z => HK.noConfusion z), ne _ _ z.2 (fun _ z => q (HK.noConfusion z fun w _ => w))⟩
      | _ => exact ne _ _ this (fun _ z => HK.noConfusion z)
end
end Mine
end
section
set_option autoImplicit false
set_option linter.unusedVariables false
namespace Mine
open PySem

section
variable {W : Amb} {K : PySem.W.Frag} {Δ : CallT} {n : Nat} {nm : Names} {fs : List Env} {Ψ Ψ₀ Ψ' : Psi} {H : MH} {s s' : Shared} {A : Around} {E : Value → Shared → Prop} {env : Env} {outer : List Env}

theorem swaps_attr {value o : PySem.Expr} {a : Str} {p : Pos} {l : Nat} {env : Env} : swapsWith value (some (.Attribute o a p)) l env = pure false := by cases value <;> rfl
theorem snd_setAttr {e v : ME} {f : String} {x y : PySem.Expr} {nf : Str} {p pos : Pos} (F : Facts W K) (hf : strEq nf (Str.ofString f) = true) (hok : setOk W.ca K (Str.ofString f) = true) (he : SndE W Δ n nm e x) (hv : SndE W Δ n nm v y) : SndS W Δ n nm (.setAttr e f v) (.Assign [.Attribute x nf p] y pos) := by
  intro hd A outer env ρ Ψ H s N R X C Rl S h
  obtain rfl := strEq_eq hf
  refine plainObj_wpAny_Assign_Attribute (wpAny_mono (monoE (hv C Rl S h) fun Ψ₁ H₁ mv w s₁ S₁ K₁ va h₁ => ?_) (fun _ _ x => x) fun _ _ x => x.toY Rl (.refl _ _)) swaps_attr
  refine wpAny_mono (monoE (he C (Rl.keep K₁) S₁ h₁) fun Ψ₂ H₂ mo o s₂ S₂ K₂ vo h₂ => ?_) (fun _ _ x => x) fun _ _ x => x.toY (Rl.keep K₁) K₁.of_none
  refine op_setattr F hok S₂ vo (va.mono K₂.fix) h₂ fun Ψ₃ H₃ s₃ S₃ K₃ h₃ => ?_
  have K13 := (K₁.trans K₂).trans K₃
  exact ⟨Ψ₃, H₃, ρ, S₃, K13.of_none, Rl.keep K13, h₃⟩

theorem ne12 : (1 : Nat) ≠ 2 := by decide
/-- a comprehension to a name on its own line -/
noncomputable def compLine (nm : Names) (id : Str) (p : Pos) (value : PySem.Expr) : Bool := match value with
  | .ListComp _ _ scope pos => (nm.lookup id == some .local) && p.line == pos.line && !(scope.names.any fun (n, k) => n == id && (k == .local || k == .cell))
  | _ => false
theorem swaps_of {id : Str} {p : Pos} {elt : PySem.Expr} {gens : List Comprehension} {scope : Scope} {pos : Pos} {l : Nat} {env : Env} (hk : env.scope.kind = .function) (hn : env.scope.names = nm) :
    swapsWith (.ListComp elt gens scope pos) (some (.Name id p)) l env = pure (compLine nm id p (.ListComp elt gens scope pos)) := by
  unfold swapsWith compLine
  show (pure (env.blockKind == .function && env.kindOf id == some .local && p.line == pos.line && _) : Sem Bool) = _
  have : env.blockKind = .function := by unfold Env.blockKind; rw [hk]; rfl
  rw [this, ← hn]
  rfl
theorem snd_assignComp {elt cond it : ME} {x y : String} {e' iter : PySem.Expr} {id idy : Str} {px py : Pos} {ifs : List PySem.Expr} {scope : Scope} {pos spos : Pos} (hy : isTarget nm y idy = true) (hid : strEq id (Str.ofString x) = true) (hok : compOk nm x scope = true) (hset : notSet iter = true)
    (hit : SndE W Δ n nm it iter) (hc : SndIfs W Δ n (relabN nm scope.names) cond ifs) (he : SndE W Δ n (relabN nm scope.names) elt e') : SndS W Δ n nm (.assign y (.comp elt x it cond)) (.Assign [.Name idy py] (.ListComp e' [⟨.Name id px, iter, ifs, 0⟩] scope pos) spos) := by
  cases hl : compLine nm idy py (.ListComp e' [⟨.Name id px, iter, ifs, 0⟩] scope pos) with
  | false => exact assign_any (fun env h1 h2 => (swaps_of h1 h2).trans (by rw [hl])) hy (snd_comp hid hok hset hit hc he)
  | true =>
    intro hd A outer env ρ Ψ H s N R X C Rl S h
    obtain ⟨rfl, h⟩ := h
    rw [exec_Assign_Name_used _ _ _ _ ((swaps_of Rl.kind C.names).trans (by rw [hl]))]
    refine wpAny_bind (wpAny_standAt (wpAny_bind ?_))
    show wpAny _ A (do let _ ← comprehension (.ListComp e' [⟨.Name id px, iter, ifs, 0⟩] scope pos) scope env _ (newList []) false (eval iter env) (some (assign (.Name idy py) env))) _ _ s
    obtain ⟨hkind, hnames, _⟩ := comp_names hok
    have hcl : closureFor scope env = pure (clos env.cells scope.names []) := by
      have hok' := hok
      rw [← C.names] at hok'
      exact closure_eq (compPlace Rl S hok').1
    refine wpAny_bind (wpAny_mono (wpAny_comprehension_free (use := some (assign (.Name idy py) env)) (Q := fun _ s' => PostS W (env :: outer) env Ψ N R .next s') rfl (fun v => notSet_folded hset v) hcl hkind hnames ?_) (fun _ s' hq => wpAny_pure (wpAny_pure hq)) fun _ _ e => e)
    refine wpAny_mono (monoE (hit C Rl S h) fun Ψ₁ H₁ src sv s₁ S₁ K₁ va h₁ => ?_) (fun _ _ x => x) fun _ _ x => x.toY Rl (.refl _ _)
    obtain ⟨vs, hvs, h₁⟩ := h₁
    refine comp_body (RR := fun acc C' => compPost W.M A (PostY W (env :: outer) env Ψ X) (some (assign (.Name idy py) env)) (fun _ s' => PostS W (env :: outer) env Ψ N R .next s') acc C') hid hok hc he C (Rl.keep K₁) S₁ va hvs h₁ fun D C' Ψ' H' s' S' K' hC hm hne q => ?_
    obtain ⟨m, hm⟩ := hm
    have R₁ := Rl.keep K₁
    refine wpAny_assign_Name (storeVar C.names (R₁.keep K') S' hy .ref fun Ψ₂ s₂ S₂ K₂ R₂ => ?_)
    have hm₂ : Ψ₂ C' = some (.ns m) := K₂.slot _ _ hm rfl fun z => (slot_kind R₁ z).elim fun k e => nn hC e.1
    obtain ⟨o, ho, ents, k, hd, hs, hf⟩ := S₂.typed _ _ hm₂
    refine ⟨nsFind ents, ⟨o, ents, k, ho, hd, hs, fun _ => rfl⟩, fun h' hsb => ?_⟩
    have S₃ := S₂.forget (s' := { s₂ with heap := h' }) hm₂ rfl (frames_ne S₁ hC) hsb.extBut rfl rfl
    have K12 : Keep (ownOf env) Ψ₁ Ψ₂ := K'.of_none.trans (K₂.weaken fun a ha => slot_own ha)
    have K13 : Keep (ownOf env) Ψ₁ (Ψ₂.del C') := ⟨fun b k e f => (Psi.del_ne _ (ne_of_none hC e)).trans (K12.fix b k e f), fun b k e f g => (Psi.del_ne _ (ne_of_none hC e)).trans (K12.slot b k e f g),
      fun b m e => (K12.ns b m e).imp fun _ q => (Psi.del_ne _ (ne_of_none hC e)).trans q, fun b m e => (K12.cell b m e).imp fun _ q => (Psi.del_ne _ (ne_of_none hC e)).trans q⟩
    have ownNe : ∀ a, ownOf env a → a ≠ C' := fun a ha z => (own_kind R₁ ha).elim fun k e => nn hC (z ▸ e.1)
    refine ⟨Ψ₂.del C', H', _, S₃, K₁.of_none.trans K13, ?_, q⟩
    exact ⟨R₂.kind, R₂.glob, R₂.blt, R₂.loc.imp fun m' z => ⟨(Psi.del_ne _ (ownNe _ (.inl rfl))).trans z.1, z.2⟩, fun y u hy hu => (R₂.val y u hy hu).imp fun c z => ⟨z.1, Psi.del_sort hm₂ z.2 ne12⟩, fun y hy => (R₂.cel y hy).imp fun c z => z.imp fun w z => ⟨z.1, Psi.del_sort hm₂ z.2 ne12⟩, R₂.apart⟩

/-! raising -/
noncomputable def veBm : List Value := [.type "ValueError", .type "Exception", .type "BaseException", .type "object"]
noncomputable def raiseOk (ca : String → Addr) (K : PySem.W.Frag) (c : String) : Bool := excNames.contains c && (PySem.W.nsIn K mainGlobals (Str.ofString c) == some (some (.ref (ca c)))) && PySem.W.excIn K (ca c) veBm "ValueError.__new__"

theorem Fly.new {fs : List Env} {e : Addr} {c : String} {h' : Heap} {args : List Value} (S : St W fs Ψ H s) (hc : excNames.contains c = true) (hm : Heap.MadeExcOf s.heap h' e (.ref (W.ca c)) args) : Fly W fs Ψ e c h' := by
  let ls := fs.filterMap (·.frame)
  have hls : ∀ a ∈ ls, ∃ m, Ψ a = some (.ns m) := fun a ha => by
    obtain ⟨e', he', hf⟩ := List.mem_filterMap.mp ha
    obtain ⟨_, L, m, h1, h2⟩ := S.frames e' he'
    rw [hf] at h1; cases h1; exact ⟨m, h2⟩
  have hB : (PySem.W.hideAll s.heap ls).StaysIn h' := fun b o e => hm.keeps b o (PySem.W.of_hideAll _ e)
  refine ⟨hc, PySem.W.hideAll s.heap ls, fun b o e => PySem.W.hideAll_get _ (S.base b o e) fun q => ?_, hB, ?_, fun a k e hk => ?_, ?_, .inr (.inr ?_)⟩
  · obtain ⟨m, hm'⟩ := hls b q
    have := S.fresh b _ hm' fun vs z => by cases z
    rw [this] at e; cases e
  · cases q : (PySem.W.hideAll s.heap ls).get? e with
    | none => rfl
    | some o => have := PySem.W.of_hideAll _ q; rw [hm.new] at this; cases this
  · obtain ⟨o, ho, _⟩ := S.typed a k e
    exact ⟨o, PySem.W.hideAll_get _ ho fun q => by obtain ⟨m, hm'⟩ := hls a q; rw [e] at hm'; cases hm'; exact hk _ rfl⟩
  · suffices ∀ l : List Env, (∀ e ∈ l, e ∈ fs) → h'.FunFrames (PySem.W.hideAll s.heap ls) l from this fs fun _ h => h
    intro l
    induction l with
    | nil => intro _; trivial
    | cons a l ih =>
      intro hl
      have ha := hl a (by simp)
      obtain ⟨p, L, m, h1, h2⟩ := S.frames a ha
      obtain ⟨o, ho, ents, k, hd, _⟩ := S.typed _ _ h2
      exact ⟨p, ⟨L, o, h1, PySem.W.hideAll_none _ (List.mem_filterMap.mpr ⟨a, ha, h1⟩), hm.keeps _ _ ho, fun vs q => by rw [hd] at q; cases q⟩, ih fun e he => hl e (by simp [he])⟩
  · obtain ⟨t, h1, _⟩ := hm.there
    exact ⟨_, _, .ref t, h1, rfl, rfl, rfl, rfl⟩

theorem snd_raise {c msg : String} {id m : Str} {k : Nat} {np p cpos pos : Pos} (F : Facts W K) (hx : isGlob nm c id = true) (hok : raiseOk W.ca K c = true) :
    SndS W Δ n nm (.raise c msg) (.Raise (some (.Call (.Name id np) [.Constant (.str m) k p] [] cpos)) none pos) := by
  intro hd A outer env ρ Ψ H s N R X C Rl S h
  obtain ⟨rfl, h⟩ := h
  obtain ⟨hok, r3⟩ := and_of hok
  obtain ⟨r1, r2⟩ := and_of hok
  replace r2 := eq_of_beq r2
  obtain ⟨pp, loose, mg, mb, T⟩ := F.top
  obtain ⟨bm, N', nm', qn, bs, hdct, sn, sub, ab, col, dd, k0, k1, k2, k3, k5, mN, hC, hN, hni, TL⟩ := (PySem.W.own_of_in F.inn T r2 r3).obj
  refine wpAny_Raise_call_subU (nm := nm') (q := qn) (C := W.ca c) (N := N') (bs := bs) (bm := bm) (hdct := hdct) (sn := sn) (sub := sub) (ab := ab) (col := col) (dd := dd) (k0 := k0) (k1 := k1) (k2 := k2) (k3 := k3) (k5 := k5) (mN := mN) PySem.F.excBase_ValueError (bmB := veBm) (by decide) PySem.F.excBase_ValueError (TL.hasType (by decide)) (C.hand rfl) rfl hni ?_
  refine loadGlob F C Rl S hx r2 ⟨rfl, ?_⟩
  refine Calls.evalArgs_plain (Calls.spliced_cons (Calls.Constant_str (k := k) (pos := p) (Calls.spliced_nil ?_)))
  have S' := S.toks (s.toks + 1)
  refine ⟨rfl, by simp [sizeLine], S.base _ _ hC, hN.keeps S.base, TL.keeps S.base, fun h' e hm => ?_⟩
  refine ⟨e, c, Ψ, H, ρ, rfl, Fly.new S' r1 hm, S'.of_all (s' := { s with heap := h', toks := s.toks + 1 }) hm.keeps rfl rfl, .refl _ _, Rl, h⟩
end
end Mine
end
section
set_option autoImplicit false
set_option linter.unusedVariables false
namespace Mine
open PySem
theorem nos {α : Type} {v : α} {P : Prop} (h : none = some v) : P := by cases h
theorem nof {P : Prop} (h : false = true) : P := by cases h
theorem band {a b : Bool} (h : (a && b) = true) : a = true ∧ b = true := Bool.and_eq_true_iff.mp h
theorem bany {α : Type} {o : Option α} {f : α → Bool} (h : o.any f = true) : ∃ a, o = some a ∧ f a = true := by
  cases o with
  | none => cases h
  | some a => exact ⟨a, rfl, h⟩
noncomputable def vName : PySem.Expr → Option (Str × Pos)
  | .Name id p => some (id, p)
  | _ => none
theorem vName_eq {x : PySem.Expr} {v : Str × Pos} (h : vName x = some v) : x = .Name v.1 v.2 := by cases x <;> first | exact nos h | (cases h; rfl)
end Mine
end
section
set_option autoImplicit false
set_option linter.unusedVariables false
namespace Mine
open PySem

section
variable {W : Amb} {K : PySem.W.Frag} {Δ : CallT} {n : Nat} {nm : Names} {fs : List Env} {Ψ Ψ₀ Ψ' : Psi} {H : MH} {s s' : Shared} {A : Around} {E : Value → Shared → Prop} {env : Env} {outer : List Env}

/-! items are set -/
theorem setItem_exact {l : Addr} {items : Array Value} {e : Nat} {k : Int} {t : Tok} {v : Value} {Q : Unit → Shared → Prop} {prog : Program} {w : World} (ho : s.heap.get? l = some { cls := .type "list", dict := none, data := .seq items e, slots := #[] })
    (h0 : 0 ≤ k) (hfit : k < 2 ^ 63) (hn : k < items.size)
    (hQ : ∀ h' e', h'.get? l = some { cls := .type "list", dict := none, data := .seq (items.setIfInBounds k.toNat v) e', slots := #[] } → Heap.SameBut l s.heap h' → Q () { s with heap := h' }) :
    wpAny (model prog w) A (setItem (.ref l) (.int k t) v) Q E s := by
  have hl : s.heap.IsList l items := ⟨_, ho, rfl, e, rfl⟩
  have hd : ({ cls := .type "list", dict := none, data := .seq items e, slots := #[] } : Obj).data = .seq items e := rfl
  unfold setItem
  try with_reducible refine wpAny_holding ?_
  first | refine wpAny_bind (wpAny_pure ?_) | skip
  refine wpAny_bind (wpAny_sequenceKey hl.typeIs (by decide) ?_)
  refine wpAny_bind (wpAny_callSpecial?_slot (name := Str.ofString "__setitem__") hl.typeIs slot_list_setitem (wpAny_call_entry slot_list_setitem hl.typeIs entry_list_setitem ?_ (args_list_setitem _ _ _)))
  show wpAny _ _ (Builtin.List.listSubscript? (.int k t) >>= _) _ _ s
  refine wpAny_bind (wpAny_listSubscript_int (fitsIndex_of h0 hfit) ?_)
  obtain ⟨j, rfl⟩ := Int.eq_ofNat_of_zero_le h0
  have hj : j < items.size := by omega
  have hx' : items[j]? = some items[j] := Array.getElem?_eq_getElem hj
  show wpAny _ _ ((seqItemAt l j >>= fun r => pure (r.map (j, ·))) >>= _) _ _ s
  refine wpAny_bind (wpAny_bind (wpAny_seqItemAt ho hd (wpAny_pure ?_)))
  rw [hx']
  show wpAny _ _ (setSeqItemAt l j v >>= _) _ _ s
  have hfin : ∃ e', (s.heap.update l (Obj.mapSeq (·.setIfInBounds j v))).get? l = some { cls := .type "list", dict := none, data := .seq (items.setIfInBounds j v) e', slots := #[] } :=
    ⟨_, by rw [Heap.get?_update_self _ ho rfl]; rfl⟩
  obtain ⟨e', hfin⟩ := hfin
  refine wpAny_bind (wpAny_setSeqItemAt ho hd ?_)
  first
    | exact wpAny_bind (wpAny_pure (wpAny_pure ⟨.none, rfl, wpAny_pure (hQ _ e' hfin (Heap.SameBut.update ..))⟩))
    | exact wpAny_pure ⟨.none, rfl, wpAny_pure (hQ _ e' hfin (Heap.SameBut.update ..))⟩

theorem op_setidx {o i v : Value} {mo mi mx : MV} {Q : MH → Prop} {QQ : Unit → Shared → Prop} (S : St W fs Ψ H s) (ho : VRel Ψ o mo) (hi : VRel Ψ i mi) (hx : VRel Ψ v mx) (h : SetIdxR H Q mo mi mx)
    (hq : ∀ Ψ' H' s', St W fs Ψ' H' s' → Keep none_ Ψ Ψ' → Q H' → QQ () s') : wpAny W.M A (setItem o i v) QQ E s := by
  cases h with
  | @lst a l k x hl h0 h1 q =>
    obtain rfl := vref ho
    obtain ⟨t, rfl⟩ := vint hi
    obtain ⟨items, e, h2, r, z, b⟩ := S.lst hl
    have kb : k < 2 ^ 63 := by unfold bigList at b; omega
    refine setItem_exact h2 h0 kb (by rw [z]; exact h1) fun h' e' ho' hs' => ?_
    obtain ⟨S', K'⟩ := set_list (tk := s.toks) S hl (l' := l.set k.toNat mx) (items := items.setIfInBounds k.toNat v) (by rw [Array.toList_setIfInBounds]; exact r.set _ hx) (by rw [List.length_set]; exact b) hs' ho'
    exact hq _ _ _ S' K' q
  | @dct a es k x he hl q =>
    obtain rfl := vref ho
    obtain ⟨t, rfl⟩ := vint hi
    obtain ⟨kvs, hd, r, _⟩ := S.dct he
    refine wpAny_setItem_pairs (k := k) (knd := intKind W.prog W.w) intKey hd (fun h' hd' hs' => ?_) (by rw [r.length_eq]; unfold bigList at hl; unfold sizeLine; omega)
    obtain ⟨S', K'⟩ := set_dict (tk := s.toks + 1) S he (stored_rel hx r) hs' hd'
    exact hq _ _ _ S' K' q

theorem swaps_subs {value o i : PySem.Expr} {p : Pos} {l : Nat} {env : Env} : swapsWith value (some (.Subscript o i p)) l env = pure false := by cases value <;> rfl
theorem snd_setIdx {e i v : ME} {x y z : PySem.Expr} {p pos : Pos} (he : SndE W Δ n nm e x) (hi : SndE W Δ n nm i y) (hv : SndE W Δ n nm v z) : SndS W Δ n nm (.setIdx e i v) (.Assign [.Subscript x y p] z pos) := by
  intro hd A outer env ρ Ψ H s N R X C Rl S h
  refine wpAny_Assign_Subscript (wpAny_mono (monoE (hv C Rl S h) fun Ψ₁ H₁ mv w s₁ S₁ K₁ va h₁ => ?_) (fun _ _ x => x) fun _ _ x => x.toY Rl (.refl _ _)) swaps_subs
  refine wpAny_mono (monoE (he C (Rl.keep K₁) S₁ h₁) fun Ψ₂ H₂ mo o s₂ S₂ K₂ vo h₂ => ?_) (fun _ _ x => x) fun _ _ x => x.toY (Rl.keep K₁) K₁.of_none
  have K12 := K₁.trans K₂
  refine wpAny_mono (monoE (hi C (Rl.keep K12) S₂ h₂) fun Ψ₃ H₃ mi j s₃ S₃ K₃ vi h₃ => ?_) (fun _ _ x => x) fun _ _ x => x.toY (Rl.keep K12) K12.of_none
  refine op_setidx S₃ (vo.mono K₃.fix) vi (va.mono (K₂.trans K₃).fix) h₃ fun Ψ₄ H₄ s₄ S₄ K₄ h₄ => ?_
  have K14 := (K12.trans K₃).trans K₄
  exact ⟨Ψ₄, H₄, ρ, S₄, K14.of_none, Rl.keep K14, h₄⟩

/-! tuples as targets -/
noncomputable def okTargets (nm : Names) : List String → List PySem.Expr → Bool
  | [], es => es.isEmpty
  | x :: xs, es => match es with
    | [] => false
    | e :: es => (vName e).any (fun i => isTarget nm x i.1) && okTargets nm xs es
theorem targets_len {xs : List String} : ∀ {es : List PySem.Expr}, okTargets nm xs es = true → es.length = xs.length ∧ ∀ env, (assignEach es env).length = xs.length ∧ (assignEach es env).findIdx? (·.1) = none := by
  induction xs with
  | nil => intro es h; cases es with
    | nil => exact ⟨rfl, fun _ => ⟨rfl, rfl⟩⟩
    | cons e es => exact nof h
  | cons x xs ih => intro es h; cases es with
    | nil => exact nof h
    | cons e es =>
      obtain ⟨h1, h2⟩ := and_of h
      obtain ⟨⟨id, p⟩, hv, h1⟩ := bany h1
      obtain rfl := vName_eq hv
      obtain ⟨k1, k2⟩ := ih h2
      refine ⟨by rw [List.length_cons, k1]; rfl, fun env => ⟨?_, ?_⟩⟩
      · show (assignEach es env).length + 1 = _
        rw [(k2 env).1]; rfl
      · show List.findIdx? _ ((false, assign (.Name id p) env) :: assignEach es env) = none
        rw [List.findIdx?_cons, (k2 env).2]; rfl
theorem bind_len {xs : List String} {vs : List MV} {ρ ρ' : Sto} (h : BindR xs vs ρ ρ') : xs.length = vs.length := by
  induction h with
  | nil => rfl
  | cons _ ih => exact congrArg Nat.succ ih
theorem assign_all {xs : List String} {vs : List MV} {ρ ρ' : Sto} (hn : env.scope.names = nm) (hb : BindR xs vs ρ ρ') : ∀ {es : List PySem.Expr} {items : List Value} {Ψ : Psi} {s : Shared} {QQ : Unit → Shared → Prop}, okTargets nm xs es = true → All2 (VRel Ψ) items vs → EnvRel Ψ env ρ → St W fs Ψ H s →
    (∀ Ψ' s', St W fs Ψ' H s' → Keep (ownOf env) Ψ Ψ' → EnvRel Ψ' env ρ' → QQ () s') → wpAny W.M A (assignInOrder ((assignEach es env).map (·.2)) items) QQ E s := by
  induction hb with
  | nil =>
    intro es items Ψ s QQ ho r R S h
    cases es with
    | cons e es => exact nof ho
    | nil => cases r; exact wpAny_pure (h Ψ s S (.refl _ _) R)
  | @cons x xs v vs ρ ρ' _ ih =>
    intro es items Ψ s QQ ho r R S h
    cases es with
    | nil => exact nof ho
    | cons e es =>
      obtain ⟨h1, h2⟩ := and_of ho
      obtain ⟨⟨id, p⟩, hv, h1⟩ := bany h1
      obtain rfl := vName_eq hv
      cases r with
      | @cons v' u vs' us hu r =>
        refine wpAny_bind (wpAny_holding (wpAny_assign_Name (storeVar hn R S h1 hu fun Ψ' s' S' K' R' => ?_)))
        exact ih h2 (r.mono fun _ _ => VRel.mono K'.fix) R' S' fun Ψ'' s'' S'' K'' R'' => h Ψ'' s'' S'' ((K'.weaken fun a ha => slot_own ha).trans K'') R''

noncomputable def plainIts : List String := ["list_iterator", "tuple_iterator", "range_iterator"]
theorem plain_its : (plainIts.all fun c => !(["enumerate", "zip", "dict_itemiterator", "dict_reverseitemiterator", "odict_iterator", "itertools.zip_longest", "itertools.pairwise"].contains c)) = true := by decide
theorem plainIt_mem {c : String} (h : plainIt c = true) : c ∈ plainIts := by
  unfold plainIt at h
  rcases Bool.or_eq_true_iff.mp h with h | h
  · rcases Bool.or_eq_true_iff.mp h with h | h
    · rw [eq_of_beq h]; exact .head _
    · rw [eq_of_beq h]; exact .tail _ (.head _)
  · rw [eq_of_beq h]; exact .tail _ (.tail _ (.head _))
theorem tgt_tuple {xs : List String} {es : List PySem.Expr} {k : Nat} {p : Pos} (ht : okTargets nm xs es = true) : SndTgt W nm (fun v ρ ρ' => ∃ vs, v = .tup vs ∧ BindR xs vs ρ ρ') (.Tuple es k p) := by
  intro A fs env ρ ρ' Ψ H s v mv it E QQ hh hn R S hv hf hit h
  obtain ⟨ia, o, c, dv, rfl, ho, hc, hd, hp⟩ := hit
  obtain ⟨vs, rfl, hf⟩ := hf
  obtain ⟨a, rfl, ha⟩ := vtup hv
  obtain ⟨items, htup, r, z, _⟩ := tup_at S ha
  unfold letOwnedTupleGo
  refine wpAny_bind (wpAny_load ho ?_)
  rw [hc, hd]
  dsimp only
  rw [not_of (List.all_eq_true.mp plain_its c (plainIt_mem hp)), Bool.false_and, if_neg (by decide)]
  refine wpAny_pure ?_
  obtain ⟨l1, l2⟩ := targets_len ht
  refine PyProof.Rows.assign_Tuple_tuple hh htup (by rw [(l2 env).1, bind_len hf, z]) (l2 env).2 fun h' hx => ?_
  exact assign_all hn hf ht r R (S.of_extBut S.none_at S.base_at hx rfl rfl) h
theorem snd_forT {xs : List String} {it : ME} {b : MSs} {es : List PySem.Expr} {k : Nat} {p : Pos} {t : PySem.Expr} {ys : List Stmt} {pos : Pos} (ht : okTargets nm xs es = true) (hset : notSet t = true) (hit : SndE W Δ n nm it t) (hb : SndSs W Δ n nm b ys) : SndS W Δ n nm (.forT xs it b) (.For (.Tuple es k p) t ys [] pos) := by
  intro hd A outer env ρ Ψ H s N R X C Rl S h
  obtain ⟨rfl, h⟩ := h
  exact for_core (f := fun v ρ ρ' => ∃ vs, v = .tup vs ∧ BindR xs vs ρ ρ') hset (tgt_tuple ht) hit hb (fun v ρ H k ⟨vs, ρ', a, b, c⟩ => ⟨ρ', ⟨vs, a, b⟩, c⟩) C Rl S h
end
end Mine
end
section
set_option autoImplicit false
set_option linter.unusedVariables false
namespace Mine
open PySem

section
variable {W : Amb} {K : PySem.W.Frag} {Δ : CallT} {n : Nat} {nm : Names} {fs : List Env} {Ψ Ψ₀ Ψ' : Psi} {H : MH} {s s' : Shared} {A : Around} {E : Value → Shared → Prop} {env : Env} {outer : List Env}

theorem del_of {ρ : Sto} {x y : String} {v : MV} (h : ρ.del x y = some v) : y ≠ x ∧ ρ y = some v := by
  unfold Sto.del at h
  by_cases q : y = x
  · rw [if_pos q] at h; cases h
  · exact ⟨q, (if_neg q).symm.trans h⟩
/-- a name is let go -/
theorem delVar {ρ : Sto} {x : String} {mv : MV} {QQ : Unit → Shared → Prop} (hk : env.kindOf (Str.ofString x) = some .local) (hx0 : x ≠ ".0") (R : EnvRel Ψ env ρ) (S : St W fs Ψ H s) (hv : ρ x = some mv)
    (h : ∀ Ψ' s', St W fs Ψ' H s' → Keep (ownOf env) Ψ Ψ' → EnvRel Ψ' env (ρ.del x) → QQ () s') : wpAny W.M A (unbindName env (Str.ofString x)) QQ E s := by
  obtain ⟨m, hL, hm⟩ := R.loc
  obtain ⟨o, ho, ents, k, hd, hs, hf⟩ := S.typed _ _ hL
  obtain ⟨w, hw, _⟩ := hf x mv (hm x mv hx0 hk hv)
  refine wpAny_unbindName_local hk (m := nsFind ents) ⟨o, ents, k, ho, hd, hs, fun _ => rfl⟩ hw (by rw [R.kind]; rfl) fun h' u hn hsb => ?_
  obtain ⟨o', ents', k', ho', hd', hs', hf'⟩ := hn
  have F : Fix Ψ (Ψ.set env.locals (.ns (m.del x))) := .set_turn _ hL rfl
  refine h (Ψ.set env.locals (.ns (m.del x))) _ (S.turned (s' := { s with heap := h' }) (k := .ns (m.del x)) hL rfl (fun m' q => ⟨_, rfl⟩) ⟨ents', k', hd', hs', fun y z hy => ?_⟩ hsb ho' (heap_slot S hL rfl) rfl rfl)
    (Keep.set_own hL rfl (.inl rfl) (fun _ _ => ⟨_, rfl⟩) (fun _ q => by cases q)) ?_
  · obtain ⟨q, hy⟩ := del_of hy
    exact (hf y z hy).imp fun w' e => ⟨(hf' _).trans ((if_neg fun z => q (ofString_inj z)).trans e.1), e.2.mono F⟩
  · exact ⟨R.kind, R.glob, R.blt, ⟨m.del x, Psi.set_self _ _ _, fun y w h0 hy hw => (if_neg (del_of hw).1).trans (hm y w h0 hy (del_of hw).2)⟩, fun y w hy hw => (R.val y w hy (del_of hw).2).imp fun c e => ⟨e.1, Psi.set_sort hL e.2 ne12⟩, fun n' hn' => (R.cel n' hn').imp fun c e => e.imp fun w e => ⟨e.1, Psi.set_sort hL e.2 ne12⟩, R.apart⟩

/-- a caught exception joins the ledger -/
theorem St.adopt {e : Addr} {c : String} {oe : Obj} {vs : Array Value} (S : St W fs Ψ H s) (hn : Ψ e = none) (h0 : W.h₀.get? e = none) (hc : excNames.contains c = true) (he : s.heap.get? e = some oe) (hcl : oe.cls = .ref (W.ca c)) (hd : oe.data = .fields vs) :
    St W fs (Ψ.set e (.exc c)) H s ∧ Keep none_ Ψ (Ψ.set e (.exc c)) := by
  refine ⟨⟨fun a k q => ?_, fun a k q hx => ?_, fun a x q => (S.heap a x q).keepN fun _ _ => Psi.set_up hn, S.base, fun e' he' => ?_, S.gens, S.os, fun a es q => ?_⟩, .set_new _ hn⟩
  · rcases Psi.set_inv q with ⟨rfl, rfl⟩ | ⟨_, q⟩
    · exact ⟨oe, he, hc, hcl, vs, hd⟩
    · exact (S.typed a k q).imp fun o z => ⟨z.1, z.2.mono (.set_new _ hn)⟩
  · rcases Psi.set_inv q with ⟨rfl, rfl⟩ | ⟨_, q⟩
    · exact h0
    · exact S.fresh a k q hx
  · obtain ⟨a, L, m, b, d⟩ := S.frames e' he'; exact ⟨a, L, m, b, Psi.set_up hn d⟩
  · rcases Psi.set_inv q with ⟨_, z⟩ | ⟨_, q⟩
    · exact HK.noConfusion z
    · exact S.dsys a es q

noncomputable def tryOk (ca : String → Addr) (K : PySem.W.Frag) : Bool := (PySem.W.nsIn K mainGlobals (Str.ofString "SeatError") == some (some (.ref (ca "SeatError")))) && (PySem.W.instIn K (.ref (ca "SeatError")) (.type "tuple") == some false) && (PySem.W.clsIn K (ca "SeatError")).isSome &&
  (PySem.W.mroIn K (ca "SeatError") (.type "BaseException") == some true) && excNames.all fun c => PySem.W.mroIn K (ca c) (.ref (ca "SeatError")) == some true
open PySem.W in
theorem exc_matches {e : Addr} {c : String} {Q : Bool → Shared → Prop} (hok : tryOk W.ca K = true) (hc : excNames.contains c = true) (Y : K.In s.heap) (I : ExcLike s.heap e (W.ca c)) (h : Q true s) : wpAny W.M A (excMatches (.ref e) (.ref (W.ca "SeatError"))) Q E s := by
  obtain ⟨hok, h4⟩ := and_of hok
  obtain ⟨hok, h3⟩ := and_of hok
  obtain ⟨hok, h2⟩ := and_of hok
  obtain ⟨_, h1⟩ := and_of hok
  have L1 := looks_instIn (M := W.M) Y (eq_of_beq h1)
  have L2 := looks_cls (M := W.M) Y h2
  have L3 := looks_mroIn (M := W.M) Y (eq_of_beq h3)
  have L4 := looks_mroIn (M := W.M) Y (eq_of_beq (List.all_eq_true.mp h4 c (List.contains_iff_mem.mp hc)))
  have L5 := I.type (M := W.M)
  unfold excMatches
  refine wpAny_bind (L1.here ?_)
  simp only [Bool.false_eq_true, if_false]
  refine wpAny_bind (wpAny_pure ?_)
  simp only [List.forIn_cons, List.forIn_nil]
  unfold isExcClass
  refine wpAny_bind (wpAny_bind (wpAny_bind (wpAny_bind (L2.here ?_))))
  simp only [if_true]
  refine L3.here ?_
  simp only [Bool.not_true, Bool.false_eq_true, if_false]
  refine wpAny_pure (wpAny_pure (wpAny_bind (L5.here ?_)))
  refine wpAny_bind (wpAny_bind (wpAny_bind (L4.here ?_)))
  simp only [if_true]
  exact wpAny_pure (wpAny_pure (wpAny_pure h))
end
end Mine
end
section
set_option autoImplicit false
set_option linter.unusedVariables false
namespace Mine
open PySem

section
variable {W : Amb} {K : PySem.W.Frag} {Δ : CallT} {n : Nat} {nm : Names} {fs : List Env} {Ψ Ψ₀ Ψ' : Psi} {H : MH} {s s' : Shared} {A : Around} {E : Value → Shared → Prop} {env : Env} {outer : List Env}

noncomputable def isLocal (nm : Names) (x : String) (id : Str) : Bool := strEq id (Str.ofString x) && (nm.lookup id == some .local) && !(x == ".0")
theorem local_target {x : String} {id : Str} (h : isLocal nm x id = true) : isTarget nm x id = true := by
  obtain ⟨h1, h2⟩ := and_of (and_of h).1
  unfold isTarget
  rw [h1, eq_of_beq h2]; rfl

theorem snd_try {b h : MSs} {x : String} {body suite : List Stmt} {st : Stmt} {idE id : Str} {np hpos pos : Pos} (F : Facts W K) (hE : isGlob nm "SeatError" idE = true) (hok : tryOk W.ca K = true) (hx : isLocal nm x id = true)
    (hb : SndSs W Δ n nm b body) (hh : SndSs W Δ n nm h (st :: suite)) : SndS W Δ n nm (.try_ b x h) (.Try body [.ExceptHandler (some (.Name idE np)) (some id) (st :: suite) hpos] [] [] pos) := by
  intro hd A outer env ρ Ψ H s N R X C Rl S z
  obtain ⟨rfl, z⟩ := z
  have hT := local_target hx
  obtain ⟨hx, hx3⟩ := and_of hx
  obtain ⟨hx1, hx2⟩ := and_of hx
  obtain rfl := strEq_eq hx1
  have hloc : env.kindOf (Str.ofString x) = some .local := by unfold Env.kindOf; rw [C.names]; exact eq_of_beq hx2
  have hx0 : x ≠ ".0" := beq_eq_false_iff_ne.mp (not_of hx3)
  refine wpAny_Try_except (wpAny_mono (hb C Rl S z) (fun f s₁ h₁ => ?_) fun e s₁ h₁ => ?_)
  · cases f with
    | next => exact wpAny_execs_nil h₁
    | ret v => exact h₁
    | _ => exact h₁.elim
  · obtain ⟨ea, c, Ψ₁, H₁, ρ₁, rfl, Fl, S₁, K₁, R₁, h₁⟩ := h₁
    refine noted C.frames Fl S₁ fun s₂ Hd S₂ => landed Hd S₂ fun s₃ _ Tr S₃ => ?_
    obtain ⟨B, a0, hB0, hBs, hBe, hBk, hBf, hTr⟩ := Tr
    have hcn := Hd.1
    have hee : ∀ {h : Heap}, h.TracedAtW B ea (.ref (W.ca c)) a0 .none → ∃ oe vs, h.get? ea = some oe ∧ oe.cls = .ref (W.ca c) ∧ oe.data = .fields vs := fun hh => by
      obtain ⟨oe, vs, T, oT, ts, he, ⟨hcls, _⟩, hd, _⟩ := hh
      exact ⟨oe, vs, he, hcls, hd⟩
    have Cm : Cx n true (A.mark (some (.ref ea))) (env :: outer) env nm := ⟨C.frames, C.top, C.names, fun q => (by cases q), C.depth, C.units⟩
    refine wpAny_handleBy_cons (codeAny_handlers_test (loadGlob F Cm R₁ S₃ hE (eq_of_beq (and_of (and_of (and_of (and_of hok).1).1).1).1) ?_)) (by intro q; cases q)
    obtain ⟨oe, vs, he1, he2, he3⟩ := hee hTr
    refine exc_matches hok hcn (F.at S₃) ⟨oe, he1, he2⟩ ?_
    refine codeAny_handlers_suite_as ?_
    refine PyProof.Rows.lands_againW (l := env :: outer) (base := B) ⟨hBs, hBe, hBf, hTr⟩ fun h₄ hfl₄ hu₄ => ?_
    obtain ⟨k1, k2, k3, k4⟩ := hfl₄
    have S₄ : St W (env :: outer) Ψ₁ H₁ { s₃ with heap := h₄ } := S₃.flown hBk hB0 hBs k1 hu₄ rfl rfl
    obtain ⟨oe, vs, he1, he2, he3⟩ := hee k4
    have hn : Ψ₁ ea = none := by
      cases q : Ψ₁ ea with
      | none => rfl
      | some k =>
        exfalso
        by_cases hk : ∃ m, k = .ns m
        · obtain ⟨m, rfl⟩ := hk
          obtain ⟨o, ho, ents, kk, hd, _⟩ := S₄.typed _ _ q
          have ho' : h₄.get? ea = some o := ho
          rw [he1] at ho'; cases ho'; rw [he3] at hd; cases hd
        · obtain ⟨o, ho⟩ := hBk ea k q fun m z => hk ⟨m, z⟩
          rw [hBe] at ho; cases ho
    have h0 : W.h₀.get? ea = none := by
      cases q : W.h₀.get? ea with
      | none => rfl
      | some o => have := hB0 _ _ q; rw [hBe] at this; cases this
    obtain ⟨S₅, K₅⟩ := S₄.adopt hn h0 hcn he1 he2 he3
    refine storeVar C.names (R₁.keep K₅) S₅ hT (.exc (Psi.set_self _ _ _)) fun Ψ₆ s₆ S₆ K₆ R₆ => ?_
    have K16 : Keep (ownOf env) Ψ Ψ₆ := (K₁.trans K₅.of_none).trans (K₆.weaken fun a ha => slot_own ha)
    -- the end of the clause: the name goes
    have fin : ∀ {Ψ₇ : Psi} {H₇ : MH} {ρ₇ : Sto} {s₇ : Shared} {QQ : Unit → Shared → Prop} {E' : Value → Shared → Prop}, St W (env :: outer) Ψ₇ H₇ s₇ → EnvRel Ψ₇ env ρ₇ →
        (∀ Ψ₈ s₈, St W (env :: outer) Ψ₈ H₇ s₈ → Keep (ownOf env) Ψ₇ Ψ₈ → EnvRel Ψ₈ env (ρ₇.del x) → QQ () s₈) → wpAny W.M A (do bindName env (Str.ofString x) .none; unbindBehindTheSuite env (Str.ofString x) hpos) QQ E' s₇ := by
      intro Ψ₇ H₇ ρ₇ s₇ QQ E' S₇ R₇ hq
      refine wpAny_bind (wpAny_bindName (storeVar C.names R₇ S₇ hT VRel.none fun Ψ₈ s₈ S₈ K₈ R₈ => ?_))
      unfold unbindBehindTheSuite
      refine wpAny_onRaise (delVar hloc hx0 R₈ S₈ (mv := .none) (if_pos rfl) fun Ψ₉ s₉ S₉ K₉ R₉ => ?_)
      have e : (ρ₇.set x .none).del x = ρ₇.del x := by
        funext y; unfold Sto.del Sto.set
        by_cases q : y = x <;> simp [q]
      rw [e] at R₉
      exact hq Ψ₉ s₉ S₉ ((K₈.weaken fun a ha => slot_own ha).trans K₉) R₉
    refine wpAny_mono (hh Cm R₆ S₆ h₁) (fun f s₇ h₇ => ?_) fun e s₇ h₇ => ?_
    · cases f with
      | next =>
        obtain ⟨Ψ₇, H₇, ρ₇, S₇, K₇, R₇, h₇⟩ := h₇
        exact fin S₇ R₇ fun Ψ₈ s₈ S₈ K₈ R₈ => ⟨Ψ₈, H₇, _, S₈, (K16.trans K₇).trans K₈, R₈, h₇⟩
      | ret v =>
        obtain ⟨Ψ₇, H₇, mv, S₇, K₇, ⟨ρ₇, R₇⟩, v₇, h₇⟩ := h₇
        exact fin S₇ R₇ fun Ψ₈ s₈ S₈ K₈ R₈ => ⟨Ψ₈, H₇, mv, S₈, (K16.trans K₇).trans K₈, ⟨_, R₈⟩, v₇.mono K₈.fix, h₇⟩
      | _ => exact h₇.elim
    · obtain ⟨_, _, _, _, _, _, _, _, _, _, q⟩ := h₇
      exact q.elim
end
end Mine
end
section
set_option autoImplicit false
set_option linter.unusedVariables false
namespace Mine
open PySem

/-- what a text's names stand for -/
structure Tab where
  fns : List (String × Addr)
  meths : List (String × Addr)
  init : Addr
  bis : List String
  consts : List (String × MV)
  attrs : List String
  sets : List String
  isis : List String
  raises : List String
  tries : Bool
  mks : Bool

noncomputable def inS (x : String) : List String → Bool
  | [] => false
  | y :: r => x == y || inS x r
noncomputable def lookS {α : Type} (x : String) : List (String × α) → Option α
  | [] => none
  | (y, a) :: r => if x == y then some a else lookS x r
noncomputable def mvIs : MV → MV → Bool
  | .int i, .int j => decide (i = j)
  | .str s, .str t => strEq s t
  | _, _ => false
theorem mvIs_eq {a b : MV} (h : mvIs a b = true) : a = b := by
  cases a <;> cases b <;> first | exact nof h | skip
  · rw [of_decide_eq_true h]
  · rw [strEq_eq h]

noncomputable def opIs : BOp → Operator → Bool
  | .add, .Add | .sub, .Sub | .mul, .Mult | .fdiv, .FloorDiv | .mod, .Mod | .pow, .Pow => true
  | _, _ => false
theorem opIs_eq {a : BOp} {b : Operator} (h : opIs a b = true) : b = opOf a := by
  cases a <;> cases b <;> first | rfl | exact nof h
noncomputable def copIs : COp → CmpOp → Bool
  | .eq, .Eq | .ne, .NotEq | .lt, .Lt | .le, .LtE | .gt, .Gt | .ge, .GtE | .isin, .In | .notin, .NotIn | .is_, .Is | .isnot, .IsNot => true
  | _, _ => false
theorem copIs_eq {a : COp} {b : CmpOp} (h : copIs a b = true) : b = copOf a := by
  cases a <;> cases b <;> first | rfl | exact nof h

noncomputable def plainTest : PySem.Expr → Bool
  | .Name .. | .Call .. | .Constant .. | .Attribute .. | .Subscript .. => true
  | _ => false
theorem plainTest_is {x : PySem.Expr} (h : plainTest x = true) : ∀ env whole, isTrue x env whole = (do let v ← whole; standAt x.pos; holding [v] (truthy v)) := by
  intro env whole
  cases x <;> first | rfl | exact nof h

/-! what an expression is, as data -/
noncomputable def vConst : PySem.Expr → Option (Const × Nat × Pos)
  | .Constant c k p => some (c, k, p)
  | _ => none
theorem vConst_eq {x : PySem.Expr} {v : Const × Nat × Pos} (h : vConst x = some v) : x = .Constant v.1 v.2.1 v.2.2 := by cases x <;> first | exact nos h | (cases h; rfl)
noncomputable def vBin : PySem.Expr → Option (PySem.Expr × Operator × PySem.Expr × Pos)
  | .BinOp l o r p => some (l, o, r, p)
  | _ => none
theorem vBin_eq {x : PySem.Expr} {v : PySem.Expr × Operator × PySem.Expr × Pos} (h : vBin x = some v) : x = .BinOp v.1 v.2.1 v.2.2.1 v.2.2.2 := by cases x <;> first | exact nos h | (cases h; rfl)
noncomputable def vUn : PySem.Expr → Option (UnaryOp × PySem.Expr × Pos)
  | .UnaryOp o y p => some (o, y, p)
  | _ => none
theorem vUn_eq {x : PySem.Expr} {v : UnaryOp × PySem.Expr × Pos} (h : vUn x = some v) : x = .UnaryOp v.1 v.2.1 v.2.2 := by cases x <;> first | exact nos h | (cases h; rfl)
noncomputable def isNeg : UnaryOp → Bool
  | .USub => true
  | _ => false
theorem isNeg_eq {o : UnaryOp} (h : isNeg o = true) : o = .USub := by cases o <;> first | rfl | exact nof h
noncomputable def isNot : UnaryOp → Bool
  | .Not => true
  | _ => false
theorem isNot_eq {o : UnaryOp} (h : isNot o = true) : o = .Not := by cases o <;> first | rfl | exact nof h
noncomputable def vBool : PySem.Expr → Option (BoolOp × List PySem.Expr × Pos)
  | .BoolOp o y p => some (o, y, p)
  | _ => none
theorem vBool_eq {x : PySem.Expr} {v : BoolOp × List PySem.Expr × Pos} (h : vBool x = some v) : x = .BoolOp v.1 v.2.1 v.2.2 := by cases x <;> first | exact nos h | (cases h; rfl)
noncomputable def isAnd : BoolOp → Bool
  | .And => true
  | _ => false
theorem isAnd_eq {o : BoolOp} (h : isAnd o = true) : o = .And := by cases o <;> first | rfl | exact nof h
noncomputable def isOr : BoolOp → Bool
  | .Or => true
  | _ => false
theorem isOr_eq {o : BoolOp} (h : isOr o = true) : o = .Or := by cases o <;> first | rfl | exact nof h
noncomputable def vCmp : PySem.Expr → Option (PySem.Expr × List CmpOp × List PySem.Expr × Pos)
  | .Compare l o r p => some (l, o, r, p)
  | _ => none
theorem vCmp_eq {x : PySem.Expr} {v : PySem.Expr × List CmpOp × List PySem.Expr × Pos} (h : vCmp x = some v) : x = .Compare v.1 v.2.1 v.2.2.1 v.2.2.2 := by cases x <;> first | exact nos h | (cases h; rfl)
noncomputable def vAttr : PySem.Expr → Option (PySem.Expr × Str × Pos)
  | .Attribute y n p => some (y, n, p)
  | _ => none
theorem vAttr_eq {x : PySem.Expr} {v : PySem.Expr × Str × Pos} (h : vAttr x = some v) : x = .Attribute v.1 v.2.1 v.2.2 := by cases x <;> first | exact nos h | (cases h; rfl)
noncomputable def vSub : PySem.Expr → Option (PySem.Expr × PySem.Expr × Pos)
  | .Subscript y n p => some (y, n, p)
  | _ => none
theorem vSub_eq {x : PySem.Expr} {v : PySem.Expr × PySem.Expr × Pos} (h : vSub x = some v) : x = .Subscript v.1 v.2.1 v.2.2 := by cases x <;> first | exact nos h | (cases h; rfl)
noncomputable def vList : PySem.Expr → Option (List PySem.Expr × Pos)
  | .List xs p => some (xs, p)
  | _ => none
theorem vList_eq {x : PySem.Expr} {v : List PySem.Expr × Pos} (h : vList x = some v) : x = .List v.1 v.2 := by cases x <;> first | exact nos h | (cases h; rfl)
noncomputable def vTup : PySem.Expr → Option (List PySem.Expr × Nat × Pos)
  | .Tuple xs k p => some (xs, k, p)
  | _ => none
theorem vTup_eq {x : PySem.Expr} {v : List PySem.Expr × Nat × Pos} (h : vTup x = some v) : x = .Tuple v.1 v.2.1 v.2.2 := by cases x <;> first | exact nos h | (cases h; rfl)
noncomputable def vDict : PySem.Expr → Option (List (Option PySem.Expr) × List PySem.Expr × Pos)
  | .Dict ks xs p => some (ks, xs, p)
  | _ => none
theorem vDict_eq {x : PySem.Expr} {v : List (Option PySem.Expr) × List PySem.Expr × Pos} (h : vDict x = some v) : x = .Dict v.1 v.2.1 v.2.2 := by cases x <;> first | exact nos h | (cases h; rfl)
noncomputable def isNilL {α : Type} : List α → Bool
  | [] => true
  | _ => false
theorem isNilL_eq {α : Type} {l : List α} (h : isNilL l = true) : l = [] := by cases l <;> first | rfl | exact nof h
noncomputable def vLC : PySem.Expr → Option (PySem.Expr × List Comprehension × Scope × Pos)
  | .ListComp e g s p => some (e, g, s, p)
  | _ => none
theorem vLC_eq {x : PySem.Expr} {v : PySem.Expr × List Comprehension × Scope × Pos} (h : vLC x = some v) : x = .ListComp v.1 v.2.1 v.2.2.1 v.2.2.2 := by cases x <;> first | exact nos h | (cases h; rfl)
noncomputable def vOne {α : Type} : List α → Option α
  | [a] => some a
  | _ => none
theorem vOne_eq {α : Type} {l : List α} {a : α} (h : vOne l = some a) : l = [a] := by
  cases l with
  | nil => cases h
  | cons b r => cases r <;> cases h; rfl
noncomputable def vCall : PySem.Expr → Option (PySem.Expr × List PySem.Expr × List Keyword × Pos)
  | .Call f xs ks p => some (f, xs, ks, p)
  | _ => none
theorem vCall_eq {x : PySem.Expr} {v : PySem.Expr × List PySem.Expr × List Keyword × Pos} (h : vCall x = some v) : x = .Call v.1 v.2.1 v.2.2.1 v.2.2.2 := by cases x <;> first | exact nos h | (cases h; rfl)
noncomputable def vTwo {α : Type} : List α → Option (α × α)
  | [a, b] => some (a, b)
  | _ => none
theorem vTwo_eq {α : Type} {l : List α} {a : α × α} (h : vTwo l = some a) : l = [a.1, a.2] := by
  cases l with
  | nil => cases h
  | cons b r => cases r with
    | nil => cases h
    | cons c r => cases r <;> cases h; rfl
noncomputable def constIsB (e : ME) (c : Const) : Bool := match c with
  | .none => (match e with | .none => true | _ => false)
  | .bool b => (match e with | .bool d => d == b | _ => false)
  | .int j => (match e with | .int i => decide (i = j) | _ => false)
  | .str t => (match e with | .str s => strEq t (Str.ofString s) | _ => false)
  | _ => false
noncomputable def isNoneM : ME → Bool
  | .none => true
  | _ => false
theorem isNoneM_eq {e : ME} (h : isNoneM e = true) : e = .none := by cases e <;> first | exact nof h | rfl
noncomputable def vSlice : PySem.Expr → Option (Option PySem.Expr × Option PySem.Expr × Option PySem.Expr × Pos)
  | .Slice l u s p => some (l, u, s, p)
  | _ => none
theorem vSlice_eq {x : PySem.Expr} {v : Option PySem.Expr × Option PySem.Expr × Option PySem.Expr × Pos} (h : vSlice x = some v) : x = .Slice v.1 v.2.1 v.2.2.1 v.2.2.2 := by cases x <;> first | exact nos h | (cases h; rfl)
noncomputable def isTrueM : ME → Bool
  | .bool b => b
  | _ => false
theorem isTrueM_eq {e : ME} (h : isTrueM e = true) : e = .bool true := by
  cases e <;> first | exact nof h | (cases h; rfl)
theorem sndConst {W : Amb} {Δ : CallT} {n : Nat} {nm : Names} {e : ME} {c : Const} {k : Nat} {p : Pos} (h : constIsB e c = true) : SndE W Δ n nm e (.Constant c k p) := by
  cases c <;> first | exact nof h | skip
  all_goals cases e <;> first | exact nof h | skip
  · exact snd_none
  · obtain rfl := beq_iff_eq.mp h; exact snd_bool
  · obtain rfl := of_decide_eq_true h; exact snd_int
  · obtain rfl := strEq_eq h; exact snd_str

section
variable (T : Tab)
mutual
noncomputable def okE : Nat → Names → ME → PySem.Expr → Bool
  | 0, _, _, _ => false
  | k + 1, _, .none, x => (vConst x).any fun v => constIsB .none v.1
  | k + 1, _, .bool b, x => (vConst x).any fun v => constIsB (.bool b) v.1
  | k + 1, _, .int i, x => (vConst x).any fun v => constIsB (.int i) v.1
  | k + 1, _, .str s, x => (vConst x).any fun v => constIsB (.str s) v.1
  | k + 1, nm, .var y, x => (vName x).any fun v => isVar nm y v.1
  | k + 1, nm, .gconst g u, x => (vName x).any fun v => isGlob nm g v.1 && (lookS g T.consts).any (mvIs u)
  | k + 1, nm, .bin op l r, x => (vBin x).any fun v => opIs op v.2.1 && okE k nm l v.1 && okE k nm r v.2.2.1
  | k + 1, nm, .neg e, x => (vUn x).any fun v => isNeg v.1 && okE k nm e v.2.1
  | k + 1, nm, .not e, x => (vUn x).any fun v => isNot v.1 && okE k nm e v.2.1
  | k + 1, nm, .and es, x => (vBool x).any fun v => isAnd v.1 && okAnd k nm es v.2.1
  | k + 1, nm, .or es, x => (vBool x).any fun v => isOr v.1 && okAnd k nm es v.2.1
  | k + 1, nm, .cmp l c, x => (vCmp x).any fun v => okE k nm l v.1 && okC k nm c v.2.1 v.2.2.1
  | k + 1, nm, .attr e f, x => (vAttr x).any fun v => strEq v.2.1 (Str.ofString f) && inS f T.attrs && notSuper v.1 && okE k nm e v.1
  | k + 1, nm, .sub e i, x => (vSub x).any fun v => notSlice v.2.1 && okE k nm e v.1 && okE k nm i v.2.1
  | k + 1, nm, .slice e lo hi, x => (vSub x).any fun v => (vSlice v.2.1).any fun z => isNilL z.2.2.1.toList && okE k nm e v.1 && okO k nm lo z.1 && okO k nm hi z.2.1
  | k + 1, nm, .list es, x => (vList x).any fun v => decide (v.1.length ≤ 1000) && okL k nm es v.1
  | k + 1, nm, .tup es, x => (vTup x).any fun v => decide (v.1.length ≤ 1000) && okL k nm es v.1
  | k + 1, _, .dict, x => (vDict x).any fun v => isNilL v.1 && isNilL v.2.1
  | k + 1, nm, .comp elt y it cond, x => (vLC x).any fun v => (vOne v.2.1).any fun g => (vName g.target).any fun t =>
      strEq t.1 (Str.ofString y) && compOk nm y v.2.2.1 && notSet g.iter && okE k nm it g.iter && okIfs k (relabN nm v.2.2.1.names) cond g.ifs && okE k (relabN nm v.2.2.1.names) elt v.1 && decide (g.is_async = 0)
  | k + 1, nm, .call f es, x => (vCall x).any fun v => (vName v.1).any fun t => isGlob nm f t.1 && (lookS f T.fns).isSome && allPlain v.2.1 && okL k nm es v.2.1 && isNilL v.2.2.1
  | k + 1, nm, .meth e m es, x => (vCall x).any fun v => (vAttr v.1).any fun t =>
      strEq t.2.1 (Str.ofString m) && (lookS m T.meths).isSome && notSuper t.1 && allPlain v.2.1 && decide (v.2.1.length < 29) && (t.2.2.endLine == v.2.2.2.line) && okE k nm e t.1 && okL k nm es v.2.1 && isNilL v.2.2.1
  | k + 1, nm, .mk es, x => (vCall x).any fun v => (vName v.1).any fun t => T.mks && isGlob nm "Train" t.1 && allPlain v.2.1 && okL k nm es v.2.1 && isNilL v.2.2.1
  | k + 1, nm, .bi b es, x => (vCall x).any fun v => (vName v.1).any fun t => inS b T.bis && isGlob nm b t.1 && allPlain v.2.1 && okL k nm es v.2.1 && isNilL v.2.2.1
  | k + 1, nm, .bm e m es, x => (vCall x).any fun v => (vAttr v.1).any fun t =>
      strEq t.2.1 (Str.ofString m) && notSuper t.1 && allPlain v.2.1 && decide (v.2.1.length < 29) && (t.2.2.endLine == v.2.2.2.line) && okE k nm e t.1 && okL k nm es v.2.1 && isNilL v.2.2.1
  | k + 1, nm, .isinst e t, x => (vCall x).any fun v => (vName v.1).any fun i => (vTwo v.2.1).any fun a => (vName a.2).any fun z => isGlob nm "isinstance" i.1 && isGlob nm t z.1 && inS t T.isis && notStarred a.1 && okE k nm e a.1 && isNilL v.2.2.1
noncomputable def okL : Nat → Names → MEs → List PySem.Expr → Bool
  | 0, _, _, _ => false
  | k + 1, _, .nil, xs => isNilL xs
  | k + 1, nm, .cons e es, xs => match xs with
    | [] => false
    | x :: xs => notStarred x && okE k nm e x && okL k nm es xs
noncomputable def okAnd : Nat → Names → MEs → List PySem.Expr → Bool
  | 0, _, _, _ => false
  | k + 1, _, .nil, _ => false
  | k + 1, nm, .cons e es, xs => match xs with
    | [] => false
    | x :: xs => okE k nm e x && (match es with
      | .nil => isNilL xs
      | .cons _ _ => okAnd k nm es xs)
noncomputable def okC : Nat → Names → MCs → List CmpOp → List PySem.Expr → Bool
  | 0, _, _, _, _ => false
  | k + 1, _, .nil, _, _ => false
  | k + 1, nm, .cons op e c, ops, xs => match ops with
    | [] => false
    | o :: ops => match xs with
      | [] => false
      | x :: xs => copIs op o && okE k nm e x && (match c with
        | .nil => isNilL ops && isNilL xs && notSet x
        | .cons _ _ _ => okC k nm c ops xs)
noncomputable def okT : Nat → Names → ME → PySem.Expr → Bool
  | 0, _, _, _ => false
  | k + 1, nm, .not e, x => (vUn x).any fun v => isNot v.1 && okT k nm e v.2.1
  | k + 1, nm, .and es, x => (vBool x).any fun v => isAnd v.1 && okAllT k nm es v.2.1
  | k + 1, nm, .or es, x => (vBool x).any fun v => isOr v.1 && okAllT k nm es v.2.1
  | k + 1, nm, .cmp l c, x => (vCmp x).any fun v => okE k nm l v.1 && okC k nm c v.2.1 v.2.2.1
  | k + 1, nm, e, x => plainTest x && okE k nm e x
noncomputable def okAllT : Nat → Names → MEs → List PySem.Expr → Bool
  | 0, _, _, _ => false
  | k + 1, _, .nil, _ => false
  | k + 1, nm, .cons e es, xs => match xs with
    | [] => false
    | x :: xs => okT k nm e x && (match es with
      | .nil => isNilL xs
      | .cons _ _ => okAllT k nm es xs)
noncomputable def okO : Nat → Names → ME → Option PySem.Expr → Bool
  | 0, _, _, _ => false
  | k + 1, nm, e, x => match x with
    | none => isNoneM e
    | some x => okE k nm e x
noncomputable def okIfs : Nat → Names → ME → List PySem.Expr → Bool
  | 0, _, _, _ => false
  | k + 1, nm, c, ifs => match ifs with
    | [] => isTrueM c
    | x :: xs => isNilL xs && okT k nm c x
end
end
end Mine
end
section
set_option autoImplicit false
set_option linter.unusedVariables false
namespace Mine
open PySem

noncomputable def tabOk (ca : String → Addr) (K : PySem.W.Frag) (T : Tab) : Bool :=
  (T.fns.all fun p => defOk K p.1 p.2) && (T.meths.all fun p => methOk ca K (Str.ofString p.1) p.2) && (!T.mks || mkOk ca K T.init) && (T.bis.all fun b => biOk K b) && (T.consts.all fun p => gcOk K p.1 p.2) &&
  (T.attrs.all fun f => attrOk ca K (Str.ofString f)) && (T.sets.all fun f => setOk ca K (Str.ofString f)) && (T.isis.all fun t => isiOk ca K t) && (T.raises.all fun c => raiseOk ca K c) && (!T.tries || tryOk ca K)
structure TabOk (W : Amb) (K : PySem.W.Frag) (T : Tab) : Prop where
  fns : ∀ p ∈ T.fns, defOk K p.1 p.2 = true
  meths : ∀ p ∈ T.meths, methOk W.ca K (Str.ofString p.1) p.2 = true
  mks : T.mks = true → mkOk W.ca K T.init = true
  bis : ∀ b ∈ T.bis, biOk K b = true
  consts : ∀ p ∈ T.consts, gcOk K p.1 p.2 = true
  attrs : ∀ f ∈ T.attrs, attrOk W.ca K (Str.ofString f) = true
  sets : ∀ f ∈ T.sets, setOk W.ca K (Str.ofString f) = true
  isis : ∀ t ∈ T.isis, isiOk W.ca K t = true
  raises : ∀ c ∈ T.raises, raiseOk W.ca K c = true
  tries : T.tries = true → tryOk W.ca K = true
theorem tabOk_of {W : Amb} {K : PySem.W.Frag} {T : Tab} (h : tabOk W.ca K T = true) : TabOk W K T := by
  simp only [tabOk, Bool.and_eq_true, List.all_eq_true, Bool.or_eq_true, Bool.not_eq_true'] at h
  obtain ⟨⟨⟨⟨⟨⟨⟨⟨⟨h1, h2⟩, h3⟩, h4⟩, h5⟩, h6⟩, h7⟩, h8⟩, h9⟩, h10⟩ := h
  exact ⟨h1, h2, fun q => h3.elim (fun z => by rw [q] at z; cases z) id, h4, h5, h6, h7, h8, h9, fun q => h10.elim (fun z => by rw [q] at z; cases z) id⟩
theorem inS_mem {x : String} : ∀ {l : List String}, inS x l = true → x ∈ l
  | y :: r, h => by
    simp only [inS, Bool.or_eq_true, beq_iff_eq] at h
    rcases h with h | h
    · simp [h]
    · simp [inS_mem h]
theorem lookS_mem {α : Type} {x : String} : ∀ {l : List (String × α)} {a : α}, lookS x l = some a → (x, a) ∈ l
  | (y, b) :: r, a, h => by
    unfold lookS at h
    split at h
    · rename_i q; cases h; rw [beq_iff_eq.mp q]; simp
    · simp [lookS_mem h]

noncomputable def addrOf (T : Tab) (f : String) (a : Addr) : Prop := lookS f T.fns = some a ∨ lookS f T.meths = some a ∨ (f = "__init__" ∧ T.mks = true ∧ a = T.init)

section
variable {W : Amb} {K : PySem.W.Frag} {T : Tab} {Δ : CallT} {n : Nat}

theorem SndF.up {c : Bool → List MV → MH → (MV → MH → Prop) → (String → MH → Prop) → Prop} {f : Value} (x : SndF W n c f) : SndF W (n + 1) c f := x.le (Nat.le_succ n)

variable (F : Facts W K) (TT : TabOk W K T) (HΔ : ∀ f a, addrOf T f a → SndF W n (fun hd => Δ hd f) (.ref a))
include F TT HΔ

theorem okAll (k : Nat) :
    (∀ nm e x, okE T k nm e x = true → SndE W Δ (n + 1) nm e x) ∧ (∀ nm es xs, okL T k nm es xs = true → SndL W Δ (n + 1) nm es xs) ∧
    (∀ nm es xs, okAnd T k nm es xs = true → SndAnd (W := W) (Δ := Δ) (n := n + 1) nm es xs) ∧ (∀ nm c ops xs, okC T k nm c ops xs = true → SndC W Δ (n + 1) nm c ops xs) ∧
    (∀ nm e x, okT T k nm e x = true → SndT W Δ (n + 1) nm e x) ∧
    (∀ nm es xs, okAllT T k nm es xs = true → SndAllT (W := W) (Δ := Δ) (n := n + 1) nm es xs) ∧ (∀ nm c xs, okIfs T k nm c xs = true → SndIfs W Δ (n + 1) nm c xs) ∧ (∀ nm e x, okO T k nm e x = true → SndO W Δ (n + 1) nm e x) := by
  induction k with
  | zero => exact ⟨fun _ _ _ h => nof h, fun _ _ _ h => nof h, fun _ _ _ h => nof h, fun _ _ _ _ h => nof h, fun _ _ _ h => nof h, fun _ _ _ h => nof h, fun _ _ _ h => nof h, fun _ _ _ h => nof h⟩
  | succ k ih =>
    obtain ⟨iE, iL, iA, iC, iT, iAT, iI, iO⟩ := ih
    refine ⟨?_, ?_, ?_, ?_, ?_, ?_, ?_, ?_⟩
    · intro nm e x h
      show SndE W Δ (n + 1) nm e x
      cases e with
      | none => replace h := bany (show ((vConst x).any fun v => constIsB .none v.1) = true from h); obtain ⟨v, hv, h⟩ := h; obtain rfl := vConst_eq hv; show SndE W Δ (n + 1) nm _ _; exact sndConst h
      | bool b => replace h := bany (show ((vConst x).any fun v => constIsB (.bool b) v.1) = true from h); obtain ⟨v, hv, h⟩ := h; obtain rfl := vConst_eq hv; show SndE W Δ (n + 1) nm _ _; exact sndConst h
      | int i => replace h := bany (show ((vConst x).any fun v => constIsB (.int i) v.1) = true from h); obtain ⟨v, hv, h⟩ := h; obtain rfl := vConst_eq hv; show SndE W Δ (n + 1) nm _ _; exact sndConst h
      | str s => replace h := bany (show ((vConst x).any fun v => constIsB (.str s) v.1) = true from h); obtain ⟨v, hv, h⟩ := h; obtain rfl := vConst_eq hv; show SndE W Δ (n + 1) nm _ _; exact sndConst h
      | var y => replace h := bany (show ((vName x).any fun v => isVar nm y v.1) = true from h); obtain ⟨v, hv, h⟩ := h; obtain rfl := vName_eq hv; show SndE W Δ (n + 1) nm _ _; exact snd_var h
      | gconst g u =>
        replace h := bany (show ((vName x).any fun v => isGlob nm g v.1 && (lookS g T.consts).any (mvIs u)) = true from h); obtain ⟨v, hv, h⟩ := h; obtain rfl := vName_eq hv
        replace h := band h; obtain ⟨h1, h2⟩ := h
        obtain ⟨u', hu, hm⟩ := bany h2
        obtain rfl := mvIs_eq hm
        show SndE W Δ (n + 1) nm _ _; exact snd_gconst F (TT.consts _ (lookS_mem hu)) h1
      | bin op l r =>
        replace h := bany (show ((vBin x).any fun v => opIs op v.2.1 && okE T k nm l v.1 && okE T k nm r v.2.2.1) = true from h); obtain ⟨⟨a, b, c, d⟩, hv, h⟩ := h; obtain rfl := vBin_eq hv
        replace h := band h; obtain ⟨h1, h3⟩ := h
        replace h1 := band h1; obtain ⟨h1, h2⟩ := h1
        cases opIs_eq h1
        show SndE W Δ (n + 1) nm _ _; exact snd_bin (iE _ _ _ h2) (iE _ _ _ h3)
      | neg e =>
        replace h := bany (show ((vUn x).any fun v => isNeg v.1 && okE T k nm e v.2.1) = true from h); obtain ⟨⟨o, y, p⟩, hv, h⟩ := h; obtain rfl := vUn_eq hv
        replace h := band h; obtain ⟨h1, h2⟩ := h
        cases isNeg_eq h1
        show SndE W Δ (n + 1) nm _ _; exact snd_neg (iE _ _ _ h2)
      | not e =>
        replace h := bany (show ((vUn x).any fun v => isNot v.1 && okE T k nm e v.2.1) = true from h); obtain ⟨⟨o, y, p⟩, hv, h⟩ := h; obtain rfl := vUn_eq hv
        replace h := band h; obtain ⟨h1, h2⟩ := h
        cases isNot_eq h1
        show SndE W Δ (n + 1) nm _ _; exact snd_not (iE _ _ _ h2)
      | and es =>
        replace h := bany (show ((vBool x).any fun v => isAnd v.1 && okAnd T k nm es v.2.1) = true from h); obtain ⟨⟨o, y, p⟩, hv, h⟩ := h; obtain rfl := vBool_eq hv
        replace h := band h; obtain ⟨h1, h2⟩ := h
        cases isAnd_eq h1
        show SndE W Δ (n + 1) nm _ _; exact snd_bop (op := .And) (e := .and es) (iA _ _ _ h2) fun z => z
      | or es =>
        replace h := bany (show ((vBool x).any fun v => isOr v.1 && okAnd T k nm es v.2.1) = true from h); obtain ⟨⟨o, y, p⟩, hv, h⟩ := h; obtain rfl := vBool_eq hv
        replace h := band h; obtain ⟨h1, h2⟩ := h
        cases isOr_eq h1
        show SndE W Δ (n + 1) nm _ _; exact snd_bop (op := .Or) (e := .or es) (iA _ _ _ h2) fun z => z
      | cmp l c =>
        replace h := bany (show ((vCmp x).any fun v => okE T k nm l v.1 && okC T k nm c v.2.1 v.2.2.1) = true from h); obtain ⟨v, hv, h⟩ := h; obtain rfl := vCmp_eq hv
        replace h := band h; obtain ⟨h1, h2⟩ := h
        show SndE W Δ (n + 1) nm _ _; exact snd_cmp (iE _ _ _ h1) (iC _ _ _ _ h2)
      | attr e f =>
        replace h := bany (show ((vAttr x).any fun v => strEq v.2.1 (Str.ofString f) && inS f T.attrs && notSuper v.1 && okE T k nm e v.1) = true from h); obtain ⟨v, hv, h⟩ := h; obtain rfl := vAttr_eq hv
        replace h := band h; obtain ⟨h1, h4⟩ := h
        replace h1 := band h1; obtain ⟨h1, h3⟩ := h1
        replace h1 := band h1; obtain ⟨h1, h2⟩ := h1
        show SndE W Δ (n + 1) nm _ _; exact snd_attr F h1 (TT.attrs _ (inS_mem h2)) h3 (iE _ _ _ h4)
      | sub e i =>
        replace h := bany (show ((vSub x).any fun v => notSlice v.2.1 && okE T k nm e v.1 && okE T k nm i v.2.1) = true from h); obtain ⟨v, hv, h⟩ := h; obtain rfl := vSub_eq hv
        replace h := band h; obtain ⟨h1, h3⟩ := h
        replace h1 := band h1; obtain ⟨h1, h2⟩ := h1
        show SndE W Δ (n + 1) nm _ _; exact snd_sub h1 (iE _ _ _ h2) (iE _ _ _ h3)
      | slice e lo hi =>
        replace h := bany (show ((vSub x).any fun v => (vSlice v.2.1).any fun z => isNilL z.2.2.1.toList && okE T k nm e v.1 && okO T k nm lo z.1 && okO T k nm hi z.2.1) = true from h); obtain ⟨⟨a, b, c⟩, hv, h⟩ := h; obtain rfl := vSub_eq hv
        replace h := bany h; obtain ⟨⟨l, u, st, p⟩, hz, h⟩ := h
        obtain rfl := vSlice_eq hz
        obtain ⟨h1, h4⟩ := band h
        obtain ⟨h1, h3⟩ := band h1
        obtain ⟨h1, h2⟩ := band h1
        obtain rfl : st = none := by cases st with | none => rfl | some _ => exact nof h1
        show SndE W Δ (n + 1) nm _ _; exact snd_slice (iE _ _ _ h2) (iO _ _ _ h3) (iO _ _ _ h4)
      | list es =>
        replace h := bany (show ((vList x).any fun v => decide (v.1.length ≤ 1000) && okL T k nm es v.1) = true from h); obtain ⟨v, hv, h⟩ := h; obtain rfl := vList_eq hv
        replace h := band h; obtain ⟨h1, h2⟩ := h
        show SndE W Δ (n + 1) nm _ _; exact snd_list (iL _ _ _ h2) (of_decide_eq_true h1)
      | tup es =>
        replace h := bany (show ((vTup x).any fun v => decide (v.1.length ≤ 1000) && okL T k nm es v.1) = true from h); obtain ⟨v, hv, h⟩ := h; obtain rfl := vTup_eq hv
        replace h := band h; obtain ⟨h1, h2⟩ := h
        show SndE W Δ (n + 1) nm _ _; exact snd_tup (iL _ _ _ h2) (of_decide_eq_true h1)
      | dict =>
        replace h := bany (show ((vDict x).any fun v => isNilL v.1 && isNilL v.2.1) = true from h); obtain ⟨⟨a, b, c⟩, hv, h⟩ := h; obtain rfl := vDict_eq hv
        replace h := band h; obtain ⟨h1, h2⟩ := h
        cases isNilL_eq h1; cases isNilL_eq h2
        show SndE W Δ (n + 1) nm _ _; exact snd_dict
      | comp elt y it cond =>
        replace h := bany (show ((vLC x).any fun v => (vOne v.2.1).any fun g => (vName g.target).any fun t =>       strEq t.1 (Str.ofString y) && compOk nm y v.2.2.1 && notSet g.iter && okE T k nm it g.iter && okIfs T k (relabN nm v.2.2.1.names) cond g.ifs && okE T k (relabN nm v.2.2.1.names) elt v.1 && decide (g.is_async = 0)) = true from h); obtain ⟨⟨e', gs, scope, p⟩, hv, h⟩ := h; obtain rfl := vLC_eq hv
        replace h := bany h; obtain ⟨⟨tg, iter, ifs, as⟩, hw, h⟩ := h
        cases vOne_eq hw
        replace h := bany h; obtain ⟨⟨id, px⟩, ht, h⟩ := h
        cases vName_eq ht
        replace h := band h; obtain ⟨h1, h7⟩ := h
        replace h1 := band h1; obtain ⟨h1, h6⟩ := h1
        replace h1 := band h1; obtain ⟨h1, h5⟩ := h1
        replace h1 := band h1; obtain ⟨h1, h4⟩ := h1
        replace h1 := band h1; obtain ⟨h1, h3⟩ := h1
        replace h1 := band h1; obtain ⟨h1, h2⟩ := h1
        cases of_decide_eq_true h7
        show SndE W Δ (n + 1) nm _ _; exact snd_comp h1 h2 h3 (iE _ _ _ h4) (iI _ _ _ h5) (iE _ _ _ h6)
      | call f es =>
        replace h := bany (show ((vCall x).any fun v => (vName v.1).any fun t => isGlob nm f t.1 && (lookS f T.fns).isSome && allPlain v.2.1 && okL T k nm es v.2.1 && isNilL v.2.2.1) = true from h); obtain ⟨⟨g, xs, ks, p⟩, hv, h⟩ := h; obtain rfl := vCall_eq hv
        replace h := bany h; obtain ⟨⟨id, px⟩, ht, h⟩ := h
        cases vName_eq ht
        replace h := band h; obtain ⟨h1, h5⟩ := h
        replace h1 := band h1; obtain ⟨h1, h4⟩ := h1
        replace h1 := band h1; obtain ⟨h1, h3⟩ := h1
        replace h1 := band h1; obtain ⟨h1, h2⟩ := h1
        cases isNilL_eq h5
        obtain ⟨a, ha⟩ := Option.isSome_iff_exists.mp h2
        show SndE W Δ (n + 1) nm _ _; exact snd_call F h1 (TT.fns _ (lookS_mem ha)) h3 (iL _ _ _ h4) (SndF.up (HΔ f a (.inl ha)))
      | meth e m es =>
        replace h := bany (show ((vCall x).any fun v => (vAttr v.1).any fun t =>       strEq t.2.1 (Str.ofString m) && (lookS m T.meths).isSome && notSuper t.1 && allPlain v.2.1 && decide (v.2.1.length < 29) && (t.2.2.endLine == v.2.2.2.line) && okE T k nm e t.1 && okL T k nm es v.2.1 && isNilL v.2.2.1) = true from h); obtain ⟨⟨g, xs, ks, p⟩, hv, h⟩ := h; obtain rfl := vCall_eq hv
        replace h := bany h; obtain ⟨⟨y, nf, px⟩, ht, h⟩ := h
        cases vAttr_eq ht
        replace h := band h; obtain ⟨h1, h9⟩ := h
        replace h1 := band h1; obtain ⟨h1, h8⟩ := h1
        replace h1 := band h1; obtain ⟨h1, h7⟩ := h1
        replace h1 := band h1; obtain ⟨h1, h6⟩ := h1
        replace h1 := band h1; obtain ⟨h1, h5⟩ := h1
        replace h1 := band h1; obtain ⟨h1, h4⟩ := h1
        replace h1 := band h1; obtain ⟨h1, h3⟩ := h1
        replace h1 := band h1; obtain ⟨h1, h2⟩ := h1
        cases isNilL_eq h9
        obtain ⟨a, ha⟩ := Option.isSome_iff_exists.mp h2
        show SndE W Δ (n + 1) nm _ _; exact snd_meth F h1 (TT.meths _ (lookS_mem ha)) h3 h4 (of_decide_eq_true h5) h6 (iE _ _ _ h7) (iL _ _ _ h8) (SndF.up (HΔ m a (.inr (.inl ha))))
      | mk es =>
        replace h := bany (show ((vCall x).any fun v => (vName v.1).any fun t => T.mks && isGlob nm "Train" t.1 && allPlain v.2.1 && okL T k nm es v.2.1 && isNilL v.2.2.1) = true from h); obtain ⟨⟨g, xs, ks, p⟩, hv, h⟩ := h; obtain rfl := vCall_eq hv
        replace h := bany h; obtain ⟨⟨id, px⟩, ht, h⟩ := h
        cases vName_eq ht
        replace h := band h; obtain ⟨h2, h6⟩ := h
        replace h2 := band h2; obtain ⟨h2, h5⟩ := h2
        replace h2 := band h2; obtain ⟨h2, h4⟩ := h2
        replace h2 := band h2; obtain ⟨h2, h3⟩ := h2
        cases isNilL_eq h6
        show SndE W Δ (n + 1) nm _ _; exact snd_mk F h3 (TT.mks h2) h4 (iL _ _ _ h5) (HΔ _ _ (.inr (.inr ⟨rfl, h2, rfl⟩)))
      | bi b es =>
        replace h := bany (show ((vCall x).any fun v => (vName v.1).any fun t => inS b T.bis && isGlob nm b t.1 && allPlain v.2.1 && okL T k nm es v.2.1 && isNilL v.2.2.1) = true from h); obtain ⟨⟨g, xs, ks, p⟩, hv, h⟩ := h; obtain rfl := vCall_eq hv
        replace h := bany h; obtain ⟨⟨id, px⟩, ht, h⟩ := h
        cases vName_eq ht
        replace h := band h; obtain ⟨h1, h5⟩ := h
        replace h1 := band h1; obtain ⟨h1, h4⟩ := h1
        replace h1 := band h1; obtain ⟨h1, h3⟩ := h1
        replace h1 := band h1; obtain ⟨h1, h2⟩ := h1
        cases isNilL_eq h5
        show SndE W Δ (n + 1) nm _ _; exact snd_bi F (TT.bis _ (inS_mem h1)) h2 h3 (iL _ _ _ h4)
      | bm e m es =>
        replace h := bany (show ((vCall x).any fun v => (vAttr v.1).any fun t =>       strEq t.2.1 (Str.ofString m) && notSuper t.1 && allPlain v.2.1 && decide (v.2.1.length < 29) && (t.2.2.endLine == v.2.2.2.line) && okE T k nm e t.1 && okL T k nm es v.2.1 && isNilL v.2.2.1) = true from h); obtain ⟨⟨g, xs, ks, p⟩, hv, h⟩ := h; obtain rfl := vCall_eq hv
        replace h := bany h; obtain ⟨⟨y, nf, px⟩, ht, h⟩ := h
        cases vAttr_eq ht
        replace h := band h; obtain ⟨h1, h9⟩ := h
        replace h1 := band h1; obtain ⟨h1, h8⟩ := h1
        replace h1 := band h1; obtain ⟨h1, h7⟩ := h1
        replace h1 := band h1; obtain ⟨h1, h6⟩ := h1
        replace h1 := band h1; obtain ⟨h1, h5⟩ := h1
        replace h1 := band h1; obtain ⟨h1, h4⟩ := h1
        replace h1 := band h1; obtain ⟨h2, h3⟩ := h1
        cases isNilL_eq h9
        show SndE W Δ (n + 1) nm _ _; exact snd_bm h2 h3 h4 (of_decide_eq_true h5) h6 (iE _ _ _ h7) (iL _ _ _ h8)
      | isinst e t =>
        replace h := bany (show ((vCall x).any fun v => (vName v.1).any fun i => (vTwo v.2.1).any fun a => (vName a.2).any fun z => isGlob nm "isinstance" i.1 && isGlob nm t z.1 && inS t T.isis && notStarred a.1 && okE T k nm e a.1 && isNilL v.2.2.1) = true from h); obtain ⟨⟨g, xs, ks, p⟩, hv, h⟩ := h; obtain rfl := vCall_eq hv
        replace h := bany h; obtain ⟨⟨id, px⟩, ht, h⟩ := h
        cases vName_eq ht
        replace h := bany h; obtain ⟨⟨a, b⟩, hw, h⟩ := h
        cases vTwo_eq hw
        replace h := bany h; obtain ⟨⟨it, py⟩, hz, h⟩ := h
        cases vName_eq hz
        replace h := band h; obtain ⟨h1, h6⟩ := h
        replace h1 := band h1; obtain ⟨h1, h5⟩ := h1
        replace h1 := band h1; obtain ⟨h1, h4⟩ := h1
        replace h1 := band h1; obtain ⟨h1, h3⟩ := h1
        replace h1 := band h1; obtain ⟨h1, h2⟩ := h1
        cases isNilL_eq h6
        show SndE W Δ (n + 1) nm _ _; exact snd_isinst F h1 h2 (TT.isis _ (inS_mem h3)) h4 (iE _ _ _ h5)
    · intro nm es xs h
      show SndL W Δ (n + 1) nm es xs
      cases es with
      | nil => cases isNilL_eq (show isNilL xs = true from h); show SndL W Δ (n + 1) nm _ _; exact sndL_nil
      | cons e es =>
        cases xs with
        | nil => exact Bool.noConfusion (show false = true from h)
        | cons x xs =>
          obtain ⟨h1, h3⟩ := band (show (notStarred x && okE T k nm e x && okL T k nm es xs) = true from h)
          replace h1 := band h1; obtain ⟨h1, h2⟩ := h1
          show SndL W Δ (n + 1) nm _ _; exact sndL_cons h1 (iE _ _ _ h2) (iL _ _ _ h3)
    · intro nm es xs h
      show SndAnd (W := W) (Δ := Δ) (n := n + 1) nm es xs
      cases es with
      | nil => exact Bool.noConfusion (show false = true from h)
      | cons e es =>
        cases xs with
        | nil => exact Bool.noConfusion (show false = true from h)
        | cons x xs =>
          cases es with
          | nil =>
            obtain ⟨h1, h2⟩ := band (show (okE T k nm e x && isNilL xs) = true from h)
            cases isNilL_eq h2; show SndAnd (W := W) (Δ := Δ) (n := n + 1) nm _ _; exact sndAnd_one (iE _ _ _ h1)
          | cons e' es' =>
            obtain ⟨h1, h2⟩ := band (show (okE T k nm e x && okAnd T k nm (.cons e' es') xs) = true from h)
            cases xs with
            | nil => cases k <;> exact Bool.noConfusion (show false = true from h2)
            | cons y ys =>
            show SndAnd (W := W) (Δ := Δ) (n := n + 1) nm _ _; exact sndAnd_cons (iE _ _ _ h1) (iA _ _ _ h2)
    · intro nm c ops xs h
      show SndC W Δ (n + 1) nm c ops xs
      cases c with
      | nil => exact Bool.noConfusion (show false = true from h)
      | cons op e c =>
        cases ops with
        | nil => exact Bool.noConfusion (show false = true from h)
        | cons o ops =>
          cases xs with
          | nil => exact Bool.noConfusion (show false = true from h)
          | cons x xs =>
            cases c with
            | nil =>
              obtain ⟨h1, h3⟩ := band (show (copIs op o && okE T k nm e x && (isNilL ops && isNilL xs && notSet x)) = true from h)
              replace h1 := band h1; obtain ⟨h1, h2⟩ := h1
              obtain rfl := copIs_eq h1
              obtain ⟨h3, h5⟩ := band h3
              obtain ⟨h3, h4⟩ := band h3
              cases isNilL_eq h3; cases isNilL_eq h4
              show SndC W Δ (n + 1) nm _ _ _; exact sndC_one F h5 (iE _ _ _ h2)
            | cons op' e' c' =>
              obtain ⟨h1, h3⟩ := band (show (copIs op o && okE T k nm e x && okC T k nm (.cons op' e' c') ops xs) = true from h)
              replace h1 := band h1; obtain ⟨h1, h2⟩ := h1
              obtain rfl := copIs_eq h1
              cases ops with
              | nil => cases k <;> exact Bool.noConfusion (show false = true from h3)
              | cons o2 ops2 =>
              cases xs with
              | nil => cases k <;> exact Bool.noConfusion (show false = true from h3)
              | cons y ys =>
              show SndC W Δ (n + 1) nm _ _ _; exact sndC_cons F (iE _ _ _ h2) (iC _ _ _ _ h3)
    · intro nm e x h
      show SndT W Δ (n + 1) nm e x
      cases e
      case not e =>
        replace h := bany (show ((vUn x).any fun v => isNot v.1 && okT T k nm e v.2.1) = true from h); obtain ⟨⟨o, y, p⟩, hv, h⟩ := h; obtain rfl := vUn_eq hv
        replace h := band h; obtain ⟨h1, h2⟩ := h
        cases isNot_eq h1
        show SndT W Δ (n + 1) nm _ _; exact sndT_not (iT _ _ _ h2)
      case and es =>
        replace h := bany (show ((vBool x).any fun v => isAnd v.1 && okAllT T k nm es v.2.1) = true from h); obtain ⟨⟨o, y, p⟩, hv, h⟩ := h; obtain rfl := vBool_eq hv
        replace h := band h; obtain ⟨h1, h2⟩ := h
        cases isAnd_eq h1
        show SndT W Δ (n + 1) nm _ _; exact sndT_bop (op := .And) (e := .and es) (iAT _ _ _ h2) fun z => z
      case or es =>
        replace h := bany (show ((vBool x).any fun v => isOr v.1 && okAllT T k nm es v.2.1) = true from h); obtain ⟨⟨o, y, p⟩, hv, h⟩ := h; obtain rfl := vBool_eq hv
        replace h := band h; obtain ⟨h1, h2⟩ := h
        cases isOr_eq h1
        show SndT W Δ (n + 1) nm _ _; exact sndT_bop (op := .Or) (e := .or es) (iAT _ _ _ h2) fun z => z
      case cmp l c =>
        replace h := bany (show ((vCmp x).any fun v => okE T k nm l v.1 && okC T k nm c v.2.1 v.2.2.1) = true from h); obtain ⟨v, hv, h⟩ := h; obtain rfl := vCmp_eq hv
        replace h := band h; obtain ⟨h1, h2⟩ := h
        show SndT W Δ (n + 1) nm _ _; exact sndT_cmp (iE _ _ _ h1) (iC _ _ _ _ h2)
      all_goals (obtain ⟨h1, h2⟩ := band (show (plainTest x && okE T k nm _ x) = true from h); show SndT W Δ (n + 1) nm _ _; exact sndT_plain (iE _ _ _ h2) (plainTest_is h1))
    · intro nm es xs h
      show SndAllT (W := W) (Δ := Δ) (n := n + 1) nm es xs
      cases es with
      | nil => exact Bool.noConfusion (show false = true from h)
      | cons e es =>
        cases xs with
        | nil => exact Bool.noConfusion (show false = true from h)
        | cons x xs =>
          cases es with
          | nil =>
            obtain ⟨h1, h2⟩ := band (show (okT T k nm e x && isNilL xs) = true from h)
            cases isNilL_eq h2; show SndAllT (W := W) (Δ := Δ) (n := n + 1) nm _ _; exact sndAllT_one (iT _ _ _ h1)
          | cons e' es' =>
            obtain ⟨h1, h2⟩ := band (show (okT T k nm e x && okAllT T k nm (.cons e' es') xs) = true from h)
            cases xs with
            | nil => cases k <;> exact Bool.noConfusion (show false = true from h2)
            | cons y ys =>
            show SndAllT (W := W) (Δ := Δ) (n := n + 1) nm _ _; exact sndAllT_cons (iT _ _ _ h1) (iAT _ _ _ h2)
    · intro nm c xs h
      show SndIfs W Δ (n + 1) nm c xs
      cases xs with
      | nil => cases isTrueM_eq (show isTrueM c = true from h); rfl
      | cons x xs =>
        obtain ⟨h1, h2⟩ := band (show (isNilL xs && okT T k nm c x) = true from h)
        cases isNilL_eq h1
        exact iT _ _ _ h2
    · intro nm e x h
      cases x with
      | none => exact isNoneM_eq (show isNoneM e = true from h)
      | some x => exact iE _ _ _ h
end
end Mine
end
section
set_option autoImplicit false
set_option linter.unusedVariables false
namespace Mine
open PySem

/-! what a statement is, as data -/
noncomputable def wExprS : Stmt → Option (PySem.Expr × Pos)
  | .Expr y p => some (y, p)
  | _ => none
theorem wExprS_eq {x : Stmt} {v : PySem.Expr × Pos} (h : wExprS x = some v) : x = .Expr v.1 v.2 := by cases x <;> first | exact nos h | (cases h; rfl)
noncomputable def wAss : Stmt → Option (List PySem.Expr × PySem.Expr × Pos)
  | .Assign t y p => some (t, y, p)
  | _ => none
theorem wAss_eq {x : Stmt} {v : List PySem.Expr × PySem.Expr × Pos} (h : wAss x = some v) : x = .Assign v.1 v.2.1 v.2.2 := by cases x <;> first | exact nos h | (cases h; rfl)
noncomputable def wRetS : Stmt → Option (Option PySem.Expr × Pos)
  | .Return y p => some (y, p)
  | _ => none
theorem wRetS_eq {x : Stmt} {v : Option PySem.Expr × Pos} (h : wRetS x = some v) : x = .Return v.1 v.2 := by cases x <;> first | exact nos h | (cases h; rfl)
noncomputable def wIfS : Stmt → Option (PySem.Expr × List Stmt × List Stmt × Pos)
  | .If y a b p => some (y, a, b, p)
  | _ => none
theorem wIfS_eq {x : Stmt} {v : PySem.Expr × List Stmt × List Stmt × Pos} (h : wIfS x = some v) : x = .If v.1 v.2.1 v.2.2.1 v.2.2.2 := by cases x <;> first | exact nos h | (cases h; rfl)
noncomputable def wWhileS : Stmt → Option (PySem.Expr × List Stmt × List Stmt × Pos)
  | .While y a b p => some (y, a, b, p)
  | _ => none
theorem wWhileS_eq {x : Stmt} {v : PySem.Expr × List Stmt × List Stmt × Pos} (h : wWhileS x = some v) : x = .While v.1 v.2.1 v.2.2.1 v.2.2.2 := by cases x <;> first | exact nos h | (cases h; rfl)
noncomputable def wForS : Stmt → Option (PySem.Expr × PySem.Expr × List Stmt × List Stmt × Pos)
  | .For t y a b p => some (t, y, a, b, p)
  | _ => none
theorem wForS_eq {x : Stmt} {v : PySem.Expr × PySem.Expr × List Stmt × List Stmt × Pos} (h : wForS x = some v) : x = .For v.1 v.2.1 v.2.2.1 v.2.2.2.1 v.2.2.2.2 := by cases x <;> first | exact nos h | (cases h; rfl)
noncomputable def wRaiseS : Stmt → Option (Option PySem.Expr × Option PySem.Expr × Pos)
  | .Raise a b p => some (a, b, p)
  | _ => none
theorem wRaiseS_eq {x : Stmt} {v : Option PySem.Expr × Option PySem.Expr × Pos} (h : wRaiseS x = some v) : x = .Raise v.1 v.2.1 v.2.2 := by cases x <;> first | exact nos h | (cases h; rfl)
noncomputable def wTryS : Stmt → Option (List Stmt × List ExceptHandler × List Stmt × List Stmt × Pos)
  | .Try a b c d p => some (a, b, c, d, p)
  | _ => none
theorem wTryS_eq {x : Stmt} {v : List Stmt × List ExceptHandler × List Stmt × List Stmt × Pos} (h : wTryS x = some v) : x = .Try v.1 v.2.1 v.2.2.1 v.2.2.2.1 v.2.2.2.2 := by cases x <;> first | exact nos h | (cases h; rfl)
noncomputable def hType : ExceptHandler → Option PySem.Expr
  | .ExceptHandler a _ _ _ => a
noncomputable def hName : ExceptHandler → Option Str
  | .ExceptHandler _ a _ _ => a
noncomputable def hBody : ExceptHandler → List Stmt
  | .ExceptHandler _ _ a _ => a
noncomputable def hPos : ExceptHandler → Pos
  | .ExceptHandler _ _ _ a => a
theorem hEta (x : ExceptHandler) : x = .ExceptHandler (hType x) (hName x) (hBody x) (hPos x) := by cases x; rfl
noncomputable def isStrC : Const → Bool
  | .str _ => true
  | _ => false
theorem isStrC_eq {c : Const} (h : isStrC c = true) : ∃ s, c = .str s := by cases c <;> first | exact nof h | exact ⟨_, rfl⟩
noncomputable def isCons {α : Type} : List α → Bool
  | [] => false
  | _ => true

/-- a comprehension to a name -/
noncomputable def okAC (T : Tab) (nm : Names) (e : ME) (x : PySem.Expr) : Bool := match e with
  | .comp elt y it cond => (vLC x).any fun v => (vOne v.2.1).any fun g => (vName g.target).any fun t =>
      strEq t.1 (Str.ofString y) && compOk nm y v.2.2.1 && notSet g.iter && okE T 100 nm it g.iter && okIfs T 100 (relabN nm v.2.2.1.names) cond g.ifs && okE T 100 (relabN nm v.2.2.1.names) elt v.1 && decide (g.is_async = 0)
  | _ => false
theorem okAC_comp {T : Tab} {nm : Names} {e : ME} {x : PySem.Expr} (h : okAC T nm e x = true) : ∃ elt y it cond, e = .comp elt y it cond := by
  cases e <;> first | exact nof h | exact ⟨_, _, _, _, rfl⟩
section
variable (T : Tab)
mutual
noncomputable def okS : Nat → Names → MS → Stmt → Bool
  | 0, _, _, _ => false
  | k + 1, nm, .expr e, x => (wExprS x).any fun v => notComp v.1 && okE T 100 nm e v.1
  | k + 1, nm, .assign y e, x => (wAss x).any fun v => (vOne v.1).any fun t => (vName t).any fun i => isTarget nm y i.1 && ((notComp v.2.1 && okE T 100 nm e v.2.1) || okAC T nm e v.2.1)
  | k + 1, nm, .setAttr e f y, x => (wAss x).any fun v => (vOne v.1).any fun t => (vAttr t).any fun i => strEq i.2.1 (Str.ofString f) && inS f T.sets && okE T 100 nm e i.1 && okE T 100 nm y v.2.1
  | k + 1, nm, .ret e, x => (wRetS x).any fun v => v.1.any fun y => okE T 100 nm e y
  | k + 1, nm, .ite t a b, x => (wIfS x).any fun v => okT T 100 nm t v.1 && okSs k nm a v.2.1 && okSs k nm b v.2.2.1
  | k + 1, nm, .whil t b, x => (wWhileS x).any fun v => okT T 100 nm t v.1 && okSs k nm b v.2.1 && isNilL v.2.2.1
  | k + 1, nm, .for_ y it b, x => (wForS x).any fun v => (vName v.1).any fun i => isTarget nm y i.1 && notSet v.2.1 && okE T 100 nm it v.2.1 && okSs k nm b v.2.2.1 && isNilL v.2.2.2.1
  | k + 1, nm, .raise c _, x => (wRaiseS x).any fun v => v.1.any fun y => (vCall y).any fun z => (vName z.1).any fun i => (vOne z.2.1).any fun a => (vConst a).any fun c' => isStrC c'.1 && isGlob nm c i.1 && inS c T.raises && isNilL z.2.2.1 && v.2.1.isNone
  | k + 1, nm, .try_ b y h, x => (wTryS x).any fun v => (vOne v.2.1).any fun z => (hType z).any fun t => (vName t).any fun i => (hName z).any fun id =>
      T.tries && isGlob nm "SeatError" i.1 && isLocal nm y id && okSs k nm b v.1 && okSs k nm h (hBody z) && isCons (hBody z) && isNilL v.2.2.1 && isNilL v.2.2.2.1
  | k + 1, nm, .setIdx e i y, x => (wAss x).any fun v => (vOne v.1).any fun t => (vSub t).any fun z => okE T 100 nm e z.1 && okE T 100 nm i z.2.1 && okE T 100 nm y v.2.1
  | k + 1, nm, .forT ys it b, x => (wForS x).any fun v => (vTup v.1).any fun i => okTargets nm ys i.1 && notSet v.2.1 && okE T 100 nm it v.2.1 && okSs k nm b v.2.2.1 && isNilL v.2.2.2.1
noncomputable def okSs : Nat → Names → MSs → List Stmt → Bool
  | 0, _, _, _ => false
  | k + 1, _, .nil, xs => isNilL xs
  | k + 1, nm, .cons m ms, xs => match xs with
    | [] => false
    | x :: xs => okS k nm m x && okSs k nm ms xs
end
end

section
variable {W : Amb} {K : PySem.W.Frag} {T : Tab} {Δ : CallT} {n : Nat} (F : Facts W K) (TT : TabOk W K T) (HΔ : ∀ f a, addrOf T f a → SndF W n (fun hd => Δ hd f) (.ref a))
include F TT HΔ
theorem okStm (k : Nat) : (∀ nm m x, okS T k nm m x = true → SndS W Δ (n + 1) nm m x) ∧ (∀ nm ms xs, okSs T k nm ms xs = true → SndSs W Δ (n + 1) nm ms xs) := by
  obtain ⟨iE, iL, iA, iC, iT, iAT, iI, iO⟩ := okAll F TT HΔ 100
  induction k with
  | zero => exact ⟨fun _ _ _ h => nof h, fun _ _ _ h => nof h⟩
  | succ k ih =>
    obtain ⟨iS, iSs⟩ := ih
    refine ⟨?_, ?_⟩
    · intro nm m x h
      cases m with
      | expr e =>
        replace h := bany (show ((wExprS x).any fun v => notComp v.1 && okE T 100 nm e v.1) = true from h); obtain ⟨v, hv, h⟩ := h
        obtain ⟨h1, h2⟩ := band h
        rw [wExprS_eq hv]
        show SndS W Δ (n + 1) nm _ _; exact snd_expr h1 (iE _ _ _ h2)
      | assign y e =>
        replace h := bany (show ((wAss x).any fun v => (vOne v.1).any fun t => (vName t).any fun i => isTarget nm y i.1 && ((notComp v.2.1 && okE T 100 nm e v.2.1) || okAC T nm e v.2.1)) = true from h); obtain ⟨v, hv, h⟩ := h
        replace h := bany h; obtain ⟨t, ht, h⟩ := h
        replace h := bany h; obtain ⟨i, hi, h⟩ := h
        rw [wAss_eq hv, vOne_eq ht, vName_eq hi]
        obtain ⟨h1, h2⟩ := band h
        rcases Bool.or_eq_true_iff.mp h2 with h2 | h2
        · obtain ⟨h2, h3⟩ := band h2
          show SndS W Δ (n + 1) nm _ _; exact snd_assign h2 h1 (iE _ _ _ h3)
        · clear h
          obtain ⟨elt, z, it, cond, rfl⟩ := okAC_comp h2
          replace h2 := bany (show ((vLC v.2.1).any fun v => (vOne v.2.1).any fun g => (vName g.target).any fun t =>
            strEq t.1 (Str.ofString z) && compOk nm z v.2.2.1 && notSet g.iter && okE T 100 nm it g.iter && okIfs T 100 (relabN nm v.2.2.1.names) cond g.ifs && okE T 100 (relabN nm v.2.2.1.names) elt v.1 && decide (g.is_async = 0)) = true from h2); obtain ⟨u, hu, h2⟩ := h2
          replace h2 := bany h2; obtain ⟨⟨tg, iter, ifs, as⟩, hg, h2⟩ := h2
          replace h2 := bany h2; obtain ⟨q, hq, h2⟩ := h2
          dsimp only at hq h2
          replace h2 := band h2; obtain ⟨h2, k7⟩ := h2
          replace h2 := band h2; obtain ⟨h2, k6⟩ := h2
          replace h2 := band h2; obtain ⟨h2, k5⟩ := h2
          replace h2 := band h2; obtain ⟨h2, k4⟩ := h2
          replace h2 := band h2; obtain ⟨h2, k3⟩ := h2
          replace h2 := band h2; obtain ⟨h2, k2⟩ := h2
          rw [vLC_eq hu, vOne_eq hg, vName_eq hq, of_decide_eq_true k7]
          show SndS W Δ (n + 1) nm _ _; exact snd_assignComp h1 h2 k2 k3 (iE _ _ _ k4) (iI _ _ _ k5) (iE _ _ _ k6)
      | setAttr e f y =>
        replace h := bany (show ((wAss x).any fun v => (vOne v.1).any fun t => (vAttr t).any fun i => strEq i.2.1 (Str.ofString f) && inS f T.sets && okE T 100 nm e i.1 && okE T 100 nm y v.2.1) = true from h); obtain ⟨v, hv, h⟩ := h
        replace h := bany h; obtain ⟨t, ht, h⟩ := h
        replace h := bany h; obtain ⟨i, hi, h⟩ := h
        rw [wAss_eq hv, vOne_eq ht, vAttr_eq hi]
        replace h := band h; obtain ⟨h1, h4⟩ := h
        replace h1 := band h1; obtain ⟨h1, h3⟩ := h1
        replace h1 := band h1; obtain ⟨h1, h2⟩ := h1
        show SndS W Δ (n + 1) nm _ _; exact snd_setAttr F h1 (TT.sets _ (inS_mem h2)) (iE _ _ _ h3) (iE _ _ _ h4)
      | ret e =>
        replace h := bany (show ((wRetS x).any fun v => v.1.any fun y => okE T 100 nm e y) = true from h); obtain ⟨v, hv, h⟩ := h
        replace h := bany h; obtain ⟨y, hy, h⟩ := h
        rw [wRetS_eq hv, hy]
        show SndS W Δ (n + 1) nm _ _; exact snd_ret (iE _ _ _ h)
      | ite t a b =>
        replace h := bany (show ((wIfS x).any fun v => okT T 100 nm t v.1 && okSs T k nm a v.2.1 && okSs T k nm b v.2.2.1) = true from h); obtain ⟨v, hv, h⟩ := h
        rw [wIfS_eq hv]
        replace h := band h; obtain ⟨h1, h3⟩ := h
        replace h1 := band h1; obtain ⟨h1, h2⟩ := h1
        show SndS W Δ (n + 1) nm _ _; exact snd_ite (iT _ _ _ h1) (iSs _ _ _ h2) (iSs _ _ _ h3)
      | whil t b =>
        replace h := bany (show ((wWhileS x).any fun v => okT T 100 nm t v.1 && okSs T k nm b v.2.1 && isNilL v.2.2.1) = true from h); obtain ⟨v, hv, h⟩ := h
        replace h := band h; obtain ⟨h1, h3⟩ := h
        replace h1 := band h1; obtain ⟨h1, h2⟩ := h1
        rw [wWhileS_eq hv, isNilL_eq h3]
        show SndS W Δ (n + 1) nm _ _; exact snd_while (iT _ _ _ h1) (iSs _ _ _ h2)
      | for_ y it b =>
        replace h := bany (show ((wForS x).any fun v => (vName v.1).any fun i => isTarget nm y i.1 && notSet v.2.1 && okE T 100 nm it v.2.1 && okSs T k nm b v.2.2.1 && isNilL v.2.2.2.1) = true from h); obtain ⟨v, hv, h⟩ := h
        replace h := bany h; obtain ⟨i, hi, h⟩ := h
        replace h := band h; obtain ⟨h1, h5⟩ := h
        replace h1 := band h1; obtain ⟨h1, h4⟩ := h1
        replace h1 := band h1; obtain ⟨h1, h3⟩ := h1
        replace h1 := band h1; obtain ⟨h1, h2⟩ := h1
        rw [wForS_eq hv, vName_eq hi, isNilL_eq h5]
        show SndS W Δ (n + 1) nm _ _; exact snd_for h1 h2 (iE _ _ _ h3) (iSs _ _ _ h4)
      | raise c msg =>
        replace h := bany (show ((wRaiseS x).any fun v => v.1.any fun y => (vCall y).any fun z => (vName z.1).any fun i => (vOne z.2.1).any fun a => (vConst a).any fun c' => isStrC c'.1 && isGlob nm c i.1 && inS c T.raises && isNilL z.2.2.1 && v.2.1.isNone) = true from h); obtain ⟨v, hv, h⟩ := h
        replace h := bany h; obtain ⟨y, hy, h⟩ := h
        replace h := bany h; obtain ⟨z, hz, h⟩ := h
        replace h := bany h; obtain ⟨i, hi, h⟩ := h
        replace h := bany h; obtain ⟨a, ha, h⟩ := h
        replace h := bany h; obtain ⟨c', hc, h⟩ := h
        replace h := band h; obtain ⟨h1, h5⟩ := h
        replace h1 := band h1; obtain ⟨h1, h4⟩ := h1
        replace h1 := band h1; obtain ⟨h1, h3⟩ := h1
        replace h1 := band h1; obtain ⟨h1, h2⟩ := h1
        obtain ⟨s, hs⟩ := isStrC_eq h1
        rw [wRaiseS_eq hv, hy, vCall_eq hz, vName_eq hi, vOne_eq ha, vConst_eq hc, hs, isNilL_eq h4, Option.isNone_iff_eq_none.mp h5]
        show SndS W Δ (n + 1) nm _ _; exact snd_raise F h2 (TT.raises _ (inS_mem h3))
      | try_ b y hs =>
        replace h := bany (show ((wTryS x).any fun v => (vOne v.2.1).any fun z => (hType z).any fun t => (vName t).any fun i => (hName z).any fun id =>
          T.tries && isGlob nm "SeatError" i.1 && isLocal nm y id && okSs T k nm b v.1 && okSs T k nm hs (hBody z) && isCons (hBody z) && isNilL v.2.2.1 && isNilL v.2.2.2.1) = true from h); obtain ⟨v, hv, h⟩ := h
        replace h := bany h; obtain ⟨z, hz, h⟩ := h
        replace h := bany h; obtain ⟨t, ht, h⟩ := h
        replace h := bany h; obtain ⟨i, hi, h⟩ := h
        replace h := bany h; obtain ⟨id, hd, h⟩ := h
        replace h := band h; obtain ⟨h1, h8⟩ := h
        replace h1 := band h1; obtain ⟨h1, h7⟩ := h1
        replace h1 := band h1; obtain ⟨h1, h6⟩ := h1
        replace h1 := band h1; obtain ⟨h1, h5⟩ := h1
        replace h1 := band h1; obtain ⟨h1, h4⟩ := h1
        replace h1 := band h1; obtain ⟨h1, h3⟩ := h1
        replace h1 := band h1; obtain ⟨h1, h2⟩ := h1
        cases q : hBody z with
        | nil => rw [q] at h6; cases h6
        | cons st suite =>
          rw [q] at h5
          rw [wTryS_eq hv, vOne_eq hz, hEta z, ht, vName_eq hi, hd, q, isNilL_eq h7, isNilL_eq h8]
          show SndS W Δ (n + 1) nm _ _; exact snd_try F h2 (TT.tries h1) h3 (iSs _ _ _ h4) (iSs _ _ _ h5)
      | setIdx e i y =>
        replace h := bany (show ((wAss x).any fun v => (vOne v.1).any fun t => (vSub t).any fun z => okE T 100 nm e z.1 && okE T 100 nm i z.2.1 && okE T 100 nm y v.2.1) = true from h); obtain ⟨v, hv, h⟩ := h
        replace h := bany h; obtain ⟨t, ht, h⟩ := h
        replace h := bany h; obtain ⟨z, hz, h⟩ := h
        rw [wAss_eq hv, vOne_eq ht, vSub_eq hz]
        replace h := band h; obtain ⟨h1, h3⟩ := h
        replace h1 := band h1; obtain ⟨h1, h2⟩ := h1
        show SndS W Δ (n + 1) nm _ _; exact snd_setIdx (iE _ _ _ h1) (iE _ _ _ h2) (iE _ _ _ h3)
      | forT ys it b =>
        replace h := bany (show ((wForS x).any fun v => (vTup v.1).any fun i => okTargets nm ys i.1 && notSet v.2.1 && okE T 100 nm it v.2.1 && okSs T k nm b v.2.2.1 && isNilL v.2.2.2.1) = true from h); obtain ⟨v, hv, h⟩ := h
        replace h := bany h; obtain ⟨i, hi, h⟩ := h
        replace h := band h; obtain ⟨h1, h5⟩ := h
        replace h1 := band h1; obtain ⟨h1, h4⟩ := h1
        replace h1 := band h1; obtain ⟨h1, h3⟩ := h1
        replace h1 := band h1; obtain ⟨h1, h2⟩ := h1
        rw [wForS_eq hv, vTup_eq hi, isNilL_eq h5]
        show SndS W Δ (n + 1) nm _ _; exact snd_forT h1 h2 (iE _ _ _ h3) (iSs _ _ _ h4)
    · intro nm ms xs h
      cases ms with
      | nil => rw [isNilL_eq (show isNilL xs = true from h)]; show SndSs W Δ (n + 1) nm _ _; exact sndSs_nil
      | cons m ms =>
        cases xs with
        | nil => exact nof h
        | cons x xs =>
          obtain ⟨h1, h2⟩ := band (show (okS T k nm m x && okSs T k nm ms xs) = true from h)
          show SndSs W Δ (n + 1) nm _ _; exact sndSs_cons (iS _ _ _ h1) (iSs _ _ _ h2)
end

/-! the defs -/
noncomputable def argsAre : List Arg → List String → Bool
  | [], [] => true
  | a :: as, p :: ps => strEq a.arg (Str.ofString p) && argsAre as ps
  | _, _ => false
theorem argsAre_eq : ∀ {as : List Arg} {ps : List String}, argsAre as ps = true → as.map (·.arg) = ps.map Str.ofString
  | [], [], _ => rfl
  | a :: as, p :: ps, h => by
    simp only [argsAre, Bool.and_eq_true] at h
    simp only [List.map_cons, strEq_eq h.1, argsAre_eq h.2]
  | [], _ :: _, h => by cases h
  | _ :: _, [], h => by cases h
noncomputable def isNone : Value → Bool
  | .none => true
  | _ => false
noncomputable def nodupS : List Str → Bool
  | [] => true
  | a :: r => (r.all fun b => !strEq a b) && nodupS r
theorem strEq_self (a : Str) : strEq a a = true := by
  have : ∀ l, strEqL l l = true := by
    intro l; induction l with
    | nil => rfl
    | cons a l ih => simp [strEqL, ih]
  exact this _
theorem nodupS_of : ∀ {l : List Str}, nodupS l = true → l.Nodup
  | [], _ => .nil
  | a :: r, h => by
    simp only [nodupS, Bool.and_eq_true, List.all_eq_true, Bool.not_eq_true'] at h
    refine List.nodup_cons.mpr ⟨fun hm => ?_, nodupS_of h.2⟩
    have := h.1 a hm
    rw [strEq_self] at this; cases this
noncomputable def fnOk (K : PySem.W.Frag) (T : Tab) (a : Addr) (d : MFn) : Bool := match K.lookup a with
  | some ⟨_, _, .func fd, _⟩ => (match fd.params, fd.body with
    | ⟨[], as, none, [], _, none, _⟩, .stmts body => argsAre as d.params && isNone fd.defaults && nodupS (d.params.map Str.ofString) && (match fd.closure with | [] => true | _ => false) && (fd.globals == mainGlobals) && (fd.builtins == builtinsNs) &&
        PySem.W.codeIn K fd.code fd.qualname && (d.params.all fun p => storeKind (fd.scope.names.lookup (Str.ofString p))) && nodupS (fd.scope.names.map (·.1)) && nodupS ((cellsFrom 0 fd.scope.names []).map (·.1)) &&
        !fd.scope.isCoroutine && !fd.scope.isGenerator && (fd.scope.kind == .function) && okSs T 100 fd.scope.names d.body body
    | _, _ => false)
  | _ => false
theorem fn_sound {W : Amb} {K : PySem.W.Frag} {T : Tab} {Δ : CallT} {n : Nat} {a : Addr} {d : MFn} (F : Facts W K) (TT : TabOk W K T) (HΔ : ∀ f a, addrOf T f a → SndF W n (fun hd => Δ hd f) (.ref a)) (h : fnOk K T a d = true) :
    SndF W (n + 2) (fun hd vs H Q X => d.params.length = vs.length ∧ wSs Δ hd d.body (Sto.ofArgs d.params vs) H (fun _ H' => Q .none H') Q (fun c _ H' => X c H')) (.ref a) := by
  unfold fnOk at h
  split at h
  · rename_i oc od fd sl ho
    split at h
    · rename_i as kwd ds body hp hb
      simp only [Bool.and_eq_true, Bool.not_eq_true', beq_iff_eq, List.all_eq_true] at h
      obtain ⟨⟨⟨⟨⟨⟨⟨⟨⟨⟨⟨⟨⟨h1, h2⟩, h3⟩, h4⟩, h5⟩, h6⟩, h7⟩, h8⟩, h9⟩, h10⟩, h11⟩, h12⟩, h13⟩, h14⟩ := h
      have D : FnIs W.h₀ a fd body d.params := {
        at_ := ⟨_, F.inn _ _ ho, rfl⟩
        body := hb
        par := ⟨as, kwd, ds, hp, argsAre_eq h1⟩
        dflt := by cases q : fd.defaults <;> rw [q] at h2 <;> first | rfl | cases h2
        nodup := nodupS_of h3
        clo := by cases q : fd.closure with | nil => rfl | cons _ _ => rw [q] at h4; cases h4
        glob := h5
        blt := h6
        code := PySem.W.codeRec_of F.inn h7
        kinds := fun x hx => by
          obtain ⟨p, hp, rfl⟩ := List.mem_map.mp hx
          have := h8 p hp
          unfold storeKind at this
          split at this
          · rename_i q; exact .inl q
          · rename_i q; exact .inr q
          · cases this
        names := nodupS_of h9
        cells := nodupS_of h10
        co := h11
        gen := h12
        kind := h13 }
      intro hd A fs Ψ H s vs mvs Q X C S v z
      exact call_fn F D ((okStm F TT HΔ 100).2 _ _ _ h14) C S v z
    · cases h
  · cases h

/-- the whole text -/
theorem sound {W : Amb} {K : PySem.W.Frag} {T : Tab} {P : MProg} (F : Facts W K) (TT : TabOk W K T) (hP : ∀ f a d, addrOf T f a → P.fn f = some d → fnOk K T a d = true) :
    ∀ m f a, addrOf T f a → SndF W (4 * m) (fun hd => callW P m hd f) (.ref a) := by
  intro m
  induction m with
  | zero => intro f a _ hd A fs Ψ H s vs mvs Q X C S hv h; exact h.elim
  | succ m ih =>
    intro f a ha hd' A fs Ψ H s vs mvs Q X C S hv h
    obtain ⟨d, hd, h⟩ := h
    exact fn_sound F TT ih (hP f a d ha hd) (C.le (by omega)) S hv h
end Mine
end
section
set_option autoImplicit false
namespace Mine
open PySem

noncomputable def progOk (K : PySem.W.Frag) (T : Tab) (P : MProg) : Bool :=
  (T.fns.all fun p => match P.fn p.1 with | some d => fnOk K T p.2 d | none => true) && (T.meths.all fun p => match P.fn p.1 with | some d => fnOk K T p.2 d | none => true) &&
  (!T.mks || match P.fn "__init__" with | some d => fnOk K T T.init d | none => true)
theorem progOk_of {K : PySem.W.Frag} {T : Tab} {P : MProg} (h : progOk K T P = true) : ∀ f a d, addrOf T f a → P.fn f = some d → fnOk K T a d = true := by
  simp only [progOk, Bool.and_eq_true, List.all_eq_true, Bool.or_eq_true, Bool.not_eq_true'] at h
  obtain ⟨⟨h1, h2⟩, h3⟩ := h
  intro f a d ha hd
  rcases ha with ha | ha | ⟨rfl, hm, rfl⟩
  · have := h1 _ (lookS_mem ha)
    rw [hd] at this; exact this
  · have := h2 _ (lookS_mem ha)
    rw [hd] at this; exact this
  · rcases h3 with h3 | h3
    · rw [hm] at h3; cases h3
    · rw [hd] at h3; exact h3

theorem entry {prog : Program} {w : World} {K : PySem.W.Frag} {T : Tab} {P : MProg} {ca : String → Addr} {fa script : Addr} {fd : FuncData} {body : List Stmt} {params : List String} {ms : MSs} {s₁ : Shared} {vals : List Value} {is : List Int} {pv : Program} {loose : List Str} {mean : ExcName → Option Value} {mg mb : Str → Option Value} {R : Result → Shared → Prop}
    (X : K.In s₁.heap) (Tp : PyProof.Rows.Top pv loose mean mg mb s₁.heap) (hg : s₁.gens = #[]) (ht : tabOk ca K T = true) (hP : progOk K T P = true) (D : FnIs s₁.heap fa fd body params) (hbody : okSs T 100 fd.scope.names ms body = true)
    (hL : s₁.heap.IsList script vals.toArray) (hI : PyProof.Rows.IntsAre vals is) (hsm : is.length ≤ 63) (M : Nat) (hM : M ≤ 100) (hpar : params.length = 1)
    (hw : ∀ H : MH, H script = some (.ro (is.map .int)) → wSs (callW P M) false ms (Sto.ofArgs params [.ref script]) H (fun _ _ => MV.none = .bool true) (fun v _ => v = .bool true) (fun _ _ _ => False))
    (fin : ∀ s', s₁.heap.StaysIn s'.heap → s'.gens = #[] → s'.os = s₁.os → R (.ok (.ret (.bool true))) s') :
    codeAny (model prog w) callerA (.call (.ref fa) ⟨[.ref script], []⟩) R s₁ := by
  have hbig : ∃ a o, sysModules < a ∧ s₁.heap.get? a = some o := by
    obtain ⟨_, ⟨o, _, _, ho, _⟩, _⟩ := Tp.nodigits
    exact ⟨_, o, by decide, ho⟩
  let W : Amb := ⟨prog, w, s₁.heap, ca, s₁.gens, s₁.os, hbig⟩
  have F : Facts W K := ⟨X, ⟨pv, loose, mg, mb, PySem.W.topRead_of Tp⟩, Tp.nolimit⟩
  have TT : TabOk W K T := tabOk_of ht
  have HS := sound F TT (progOk_of hP) M
  have hb : SndSs W (callW P M) (4 * M + 1) fd.scope.names ms body := (okStm F TT HS 100).2 _ _ _ hbody
  let Ψ : Psi := fun a => if a = script then some (.ro (is.map .int)) else none
  let H : MH := fun a => if a = script then some (.ro (is.map .int)) else none
  have S : St W [] Ψ H s₁ := by
    have inv : ∀ a k, Ψ a = some k → a = script ∧ k = .ro (is.map .int) := fun a k e => by
      have e' : (if a = script then some (HK.ro (is.map .int)) else none) = some k := e
      split at e'
      · rename_i q; cases e'; exact ⟨q, rfl⟩
      · cases e'
    refine ⟨fun a k e => ?_, fun a k e hx => ?_, fun a o e => ?_, fun _ _ e => e, fun e he => (by cases he), rfl, rfl, fun a es e => ?_⟩
    · obtain ⟨rfl, rfl⟩ := inv a k e
      obtain ⟨o, ho, hc, n, hd⟩ := hL
      exact ⟨o, ho, _, n, hc, hd, of_intsAre hI, by rw [List.length_map]; exact Nat.le_trans hsm (by decide)⟩
    · obtain ⟨_, rfl⟩ := inv a k e; exact absurd rfl (hx _)
    · have e' : (if a = script then some (MObj.ro (is.map .int)) else none) = some o := e
      split at e'
      · rename_i q; cases e'; exact if_pos q
      · cases e'
    · obtain ⟨_, q⟩ := inv a _ e; cases q
  have C : CxC (4 * M + 1 + 1) false callerA [] := ⟨rfl, fun _ => rfl, by show 1 + claimMargin + (4 * M + 1 + 1) ≤ 900; unfold claimMargin; omega, by show 4 + 4 * (4 * M + 1 + 1) ≤ 9000; omega⟩
  refine codeAny_mono (call_fn F D hb (Q := fun v _ => v = .bool true) (X := fun _ _ => False) C S (vs := [.ref script]) (mvs := [.ref script]) (.cons .ref .nil) ⟨hpar, ?_⟩) fun r s' h => ?_
  · exact hw H (if_pos rfl)
  · cases r with
    | error e => obtain ⟨_, _, _, _, _, _, _, _, q⟩ := h; exact q.elim
    | ok f =>
      cases f with
      | ret v =>
        obtain ⟨Ψ', H', mv, S', K', v', rfl⟩ := h
        obtain rfl := vbool v'
        exact fin s' S'.base (S'.gens.trans hg) S'.os
      | _ => exact h.elim

open PySem.W in
theorem good_true {c : ClaimW} {cl : Str → Option Addr} {mean : ExcName → Option Value} {args : List WData} {s₁ s' : Shared} (hk : s₁.heap.StaysIn s'.heap) (hg : s'.gens = #[]) (hos : s'.os = s₁.os) (hn : ∀ cls, c.raises args cls = false) (hp : c.post args (.bool true) args = true) :
    GoodW c cl mean args s₁ (.ok (.ret (.bool true))) s' := ⟨.inl ⟨_, _, [], rfl, hn, .bool true, hp, fun _ => ⟨.nil, fun _ h => by cases h⟩⟩, hk, hos, hg⟩
end Mine
end
section
set_option autoImplicit false
namespace Mine
open PySem

/-- the law's own def, by what its making says of it -/
noncomputable def fdOk (T : Tab) (fd : FuncData) (d : MFn) : Bool := match fd.params, fd.body with
  | ⟨[], as, none, [], _, none, _⟩, .stmts body => argsAre as d.params && nodupS (d.params.map Str.ofString) && (match fd.closure with | [] => true | _ => false) && (fd.globals == mainGlobals) && (fd.builtins == builtinsNs) &&
      (d.params.all fun p => storeKind (fd.scope.names.lookup (Str.ofString p))) && nodupS (fd.scope.names.map (·.1)) && nodupS ((cellsFrom 0 fd.scope.names []).map (·.1)) &&
      !fd.scope.isCoroutine && !fd.scope.isGenerator && (fd.scope.kind == .function) && okSs T 100 fd.scope.names d.body body
  | _, _ => false
theorem fnIs_of {T : Tab} {h : Heap} {a : Addr} {o : Obj} {fd : FuncData} {d : MFn} (ho : h.get? a = some o) (hd : o.data = .func fd) (hc : h.CodeRec fd.code fd.qualname) (hdf : fd.defaults = .none) (hk : fdOk T fd d = true) :
    ∃ body, FnIs h a fd body d.params ∧ okSs T 100 fd.scope.names d.body body = true := by
  unfold fdOk at hk
  split at hk
  · rename_i as kwd ds body hp hb
    simp only [Bool.and_eq_true, Bool.not_eq_true', beq_iff_eq, List.all_eq_true] at hk
    obtain ⟨⟨⟨⟨⟨⟨⟨⟨⟨⟨⟨h1, h3⟩, h4⟩, h5⟩, h6⟩, h8⟩, h9⟩, h10⟩, h11⟩, h12⟩, h13⟩, h14⟩ := hk
    exact ⟨body, {
      at_ := ⟨o, ho, hd⟩
      body := hb
      par := ⟨as, kwd, ds, hp, argsAre_eq h1⟩
      dflt := hdf
      nodup := nodupS_of h3
      clo := by cases q : fd.closure with | nil => rfl | cons _ _ => rw [q] at h4; cases h4
      glob := h5
      blt := h6
      code := hc
      kinds := fun x hx => by
        obtain ⟨p, hp, rfl⟩ := List.mem_map.mp hx
        have := h8 p hp
        unfold storeKind at this
        split at this
        · rename_i q; exact .inl q
        · rename_i q; exact .inr q
        · cases this
      names := nodupS_of h9
      cells := nodupS_of h10
      co := h11
      gen := h12
      kind := h13 }, h14⟩
  · cases hk

open PySem.W in
/-- all of it: what the head leaves, from the mini law -/
theorem claim_of {row : RowW} {w : World} {K : PySem.W.Frag} {T : Tab} {P : MProg} {ca : String → Addr} {fa script : Addr} {fd : FuncData} {d : MFn} {o : Obj} {s₁ : Shared} {vals : List Value} {is : List Int} {pv : Program} {loose : List Str} {mean : ExcName → Option Value} {mg mb : Str → Option Value} {cl : Str → Option Addr} {args : List WData} {x : String}
    (X : K.In s₁.heap) (Tp : PyProof.Rows.Top pv loose mean mg mb s₁.heap) (hg : s₁.gens = #[]) (ht : tabOk ca K T = true) (hP : progOk K T P = true)
    (ho : s₁.heap.get? fa = some o) (hd : o.data = .func fd) (hc : s₁.heap.CodeRec fd.code fd.qualname) (hdf : fd.defaults = .none) (hk : fdOk T fd d = true) (hpar : d.params = [x])
    (hL : s₁.heap.IsList script vals.toArray) (hI : PyProof.Rows.IntsAre vals is) (hlen : ¬ ((63 : Nat) : Int) < (is.length : Int)) (M : Nat) (hM : M ≤ 100)
    (law : is.length ≤ 63 → ∀ H : MH, H script = some (.ro (is.map .int)) → wSs (callW P M) false d.body (Sto.ofArgs [x] [.ref script]) H (fun _ _ => MV.none = .bool true) (fun v _ => v = .bool true) (fun _ _ _ => False))
    (hn : ∀ cls, row.claim.raises args cls = false) (hp : row.claim.post args (.bool true) args = true) :
    codeAny (model row.prog w) callerA (.call (.ref fa) ⟨[.ref script], []⟩) (GoodW row.claim cl mean args s₁) s₁ := by
  obtain ⟨body, D, hb⟩ := fnIs_of ho hd hc hdf hk
  rw [hpar] at D
  exact entry X Tp hg ht hP D hb hL hI (by omega) M hM rfl (law (by omega)) fun s' h1 h2 h3 => good_true h1 h2 h3 hn hp
end Mine
end
section
set_option autoImplicit false
namespace Mine
open PySem PySem.W

/-- the top, run at once -/
theorem left_of_run {p q : Program} {loose : List Str} {Xt : Shared → Bool} {α : Type} {Yf : Shared → α} {Ya : World → α} {N : Nat} {g0 : Bool} {H₀ : Params → Heap} {gs₀ : Array GenState} {d₀ : Drawn} {k₀ : Nat} {m₀ : Nat} {ann : Option Value}
    (open_ : ∀ w : World, (fencedOpening treeTable p w N).map (fun s => (s.heap, s.gens, s.drawn, s.toks)) = some (H₀ w.params, gs₀, d₀, k₀))
    (size : ∀ w : World, ((H₀ w.params).isNs mainGlobals && gs₀.size == 0, (H₀ w.params).objs.size, (H₀ w.params).nsMap mainGlobals "__annotations__") = (true, m₀, ann))
    (run : ∀ w : World, (fun os => (topRun treeTable p w m₀ ann N ⟨H₀ w.params, gs₀, d₀, k₀, os⟩ (topStub p)).map fun s₁ => ((staticsOk (importedModules p.main.body) (H₀ w.params) s₁.heap && namesBound p s₁.heap && gensDone s₁ && laidKept (H₀ w.params) s₁.heap),
        openSeen q loose (importedModules p.main.body) Xt g0 s₁, Yf s₁)) = fun _ => some (true, openGood q loose, Ya w)) : LeftO p q loose Xt Yf Ya N g0 := fun w => by
  obtain ⟨⟨h, gs, d, k, os⟩, e, e'⟩ := Option.map_eq_some_iff.mp (open_ w)
  obtain ⟨rfl, rfl, rfl, rfl⟩ : h = H₀ w.params ∧ gs = gs₀ ∧ d = d₀ ∧ k = k₀ := by simpa using e'
  obtain ⟨z1, z2, z3⟩ : _ ∧ _ ∧ _ := by simpa only [Prod.mk.injEq] using size w
  obtain ⟨s₁, r, l⟩ := Option.map_eq_some_iff.mp (congrFun (run w) os)
  obtain ⟨l1, l2, l3⟩ : _ ∧ _ ∧ _ := by simpa only [Prod.mk.injEq] using l
  have t : topFrom treeTable p w N ⟨H₀ w.params, gs, d, k, os⟩ = some s₁ := by
    unfold topFrom
    dsimp only
    rw [z1, z2, z3, r]
    show (match staticsOk (importedModules p.main.body) (H₀ w.params) s₁.heap && namesBound p s₁.heap && gensDone s₁ && laidKept (H₀ w.params) s₁.heap with | true => _ | false => _) = _
    rw [l1]
  unfold openEnds
  rw [e]
  show (topFrom treeTable p w N ⟨H₀ w.params, gs, d, k, os⟩).map _ = _
  rw [t, Option.map_some, l2, l3]

/-- what the law needs of the heap behind the top, looked at there -/
noncomputable def fragOfHeap (as : List Addr) (h : Heap) : Frag := as.filterMap fun a => match h.get? a with
  | some o => some (a, o)
  | none => none
theorem fragOf_in : ∀ (as : List Addr) (h : Heap), (fragOfHeap as h).In h
  | [], _, a, o, e => by cases e
  | b :: as, h, a, o, e => by
    unfold fragOfHeap at e
    rw [List.filterMap_cons] at e
    cases q : h.get? b with
    | none => rw [q] at e; exact fragOf_in as h a o e
    | some x =>
      rw [q] at e
      change List.lookup a ((b, x) :: fragOfHeap as h) = some o at e
      rw [List.lookup_cons] at e
      cases z : a == b with
      | true => rw [z] at e; cases e; rw [beq_iff_eq.mp z]; exact q
      | false => rw [z] at e; exact fragOf_in as h a o e
noncomputable def lawHook (as : List Addr) (ca : String → Addr) (T : Tab) (P : MProg) : Hook :=
  ⟨Bool, fun s => tabOk ca (fragOfHeap as s.heap) T && progOk (fragOfHeap as s.heap) T P, fun _ => true, fun _ h => ∃ K : Frag, K.In h ∧ tabOk ca K T = true ∧ progOk K T P = true,
   fun _ s e => ⟨fragOfHeap as s.heap, fragOf_in _ _, (Bool.and_eq_true_iff.mp e).1, (Bool.and_eq_true_iff.mp e).2⟩, fun _ _ _ ⟨K, k1, k2⟩ hk => ⟨K, fun a o e => hk a o (k1 a o e), k2⟩⟩
end Mine
end
section
set_option autoImplicit false
namespace Mine
open PySem PySem.W

/-! the same run over a heap kept as a tree -/
theorem goT_top {tb : String → Option Builtin} {p : Program} {w : World} {n₀ : Nat} {ann : Option Value} : ∀ {n : Nat} {s s' : SharedT} {t : Thread}, goT (stepOk n₀ ann) (stepT (denote tb) p w) n s t = some s' → topRun tb p w n₀ ann n s.abs t = some s'.abs
  | 0, _, _, _, h => by cases h
  | n + 1, s, s', t, h => by
    unfold goT at h
    unfold topRun
    cases he : through t with
    | true => rw [he] at h; cases h; rfl
    | false =>
      rw [he] at h
      cases hk : stepOk n₀ ann t with
      | false => rw [hk] at h; cases h
      | true =>
        rw [hk] at h
        cases hs : stepT (denote tb) p w s t with
        | none => rw [hs] at h; cases h
        | some r => rw [hs] at h; rw [stepT_spec hs]; exact goT_top h

theorem left_of_tree {p q : Program} {loose : List Str} {Xt : Shared → Bool} {α : Type} {Yf : Shared → α} {Ya : World → α} {N : Nat} {g0 : Bool} {gs₀ : Array GenState} {d₀ : Drawn} {k₀ : Nat} {m₀ : Nat} {ann : Option Value}
    (open_ : ∀ w : World, (fencedOpening treeTable p w N).map (fun s => (s.heap, s.gens, s.drawn, s.toks)) = some (boot_heap w.params, gs₀, d₀, k₀))
    (size : ∀ w : World, ((boot_heap w.params).isNs mainGlobals && gs₀.size == 0, (boot_heap w.params).objs.size, (boot_heap w.params).nsMap mainGlobals "__annotations__") = (true, m₀, ann))
    (tree : ∀ w : World, absHeap (bootTree w.params) m₀ (boot_heap w.params).life = boot_heap w.params)
    (run : ∀ w : World, (fun os => (goT (stepOk m₀ ann) (stepT (denote treeTable) p w) N ⟨bootTree w.params, m₀, (boot_heap w.params).life, gs₀, d₀, k₀, os⟩ (topStub p)).map fun s₁ => ((staticsOk (importedModules p.main.body) (boot_heap w.params) s₁.abs.heap && namesBound p s₁.abs.heap && gensDone s₁.abs && laidKept (boot_heap w.params) s₁.abs.heap),
        openSeen q loose (importedModules p.main.body) Xt g0 s₁.abs)) = fun _ => some (true, openGood q loose))
    (seen : ∀ w : World, (fun os => (goT (stepOk m₀ ann) (stepT (denote treeTable) p w) N ⟨bootTree w.params, m₀, (boot_heap w.params).life, gs₀, d₀, k₀, os⟩ (topStub p)).map fun s₁ => Yf s₁.abs) = fun _ => some (Ya w)) : LeftO p q loose Xt Yf Ya N g0 :=
  left_of_run open_ size fun w => by
    funext os
    obtain ⟨s₁, r, l⟩ := Option.map_eq_some_iff.mp (congrFun (run w) os)
    obtain ⟨s₂, r2, l2⟩ := Option.map_eq_some_iff.mp (congrFun (seen w) os)
    rw [r] at r2; cases r2
    have := goT_top r
    unfold SharedT.abs at this
    dsimp only at this
    rw [tree w] at this
    rw [this, Option.map_some]
    obtain ⟨l1, l3⟩ : _ ∧ _ := by simpa only [Prod.mk.injEq] using l
    have l1' : (staticsOk (importedModules p.main.body) (boot_heap w.params) s₁.abs.heap && namesBound p s₁.abs.heap && gensDone s₁.abs && laidKept (boot_heap w.params) s₁.abs.heap) = true := l1
    have l3' : openSeen q loose (importedModules p.main.body) Xt g0 s₁.abs = openGood q loose := l3
    have l2' : Yf s₁.abs = Ya w := l2
    unfold SharedT.abs at l1' l3' l2'
    rw [l1', l3', l2']
end Mine
end
section
set_option autoImplicit false
namespace Mine
open PySem
noncomputable def f_law : MFn := ⟨["_law_script"],
  (.cons (.assign "_law_built_here" (.call "_law_built" (.cons (.var "_law_script") .nil)))
  (.cons (.assign "_law_train" (.sub (.var "_law_built_here") (.int 0)))
  (.cons (.assign "_law_world_here" (.sub (.var "_law_built_here") (.int 1)))
  (.cons (.assign "_law_seats_here" (.bi "len" (.cons (.sub (.var "_law_world_here") (.int 0)) .nil)))
  (.cons (.assign "_law_stops_here" (.bin .add (.bi "len" (.cons (.sub (.sub (.var "_law_world_here") (.int 0)) (.int 0)) .nil)) (.int 1)))
  (.cons (.assign "_law_cells_here" (.call "_law_cells" (.cons (.var "_law_script") .nil)))
  (.cons (.for_ "_law_k" (.bi "range" (.cons (.bi "len" (.cons (.var "_law_cells_here") .nil)) .nil))
  (.cons (.assign "_law_deed" (.call "_law_deed_by" (.cons (.sub (.var "_law_cells_here") (.var "_law_k")) (.cons (.sub (.var "_law_world_here") (.int 1)) (.cons (.var "_law_stops_here") .nil)))))
  (.cons (.ite (.cmp (.sub (.call "_law_word" (.cons (.var "_law_train") (.cons (.var "_law_deed") .nil))) (.int 0)) (.cons .ne (.sub (.call "_law_done_by" (.cons (.var "_law_world_here") (.cons (.var "_law_deed") .nil))) (.int 0)) .nil))
  (.cons (.ret (.bool false))
  .nil)
  .nil)
  (.cons (.assign "_law_cell" (.bin .add (.call "_law_cell_at" (.cons (.var "_law_script") (.cons (.int 0) .nil))) (.bin .fdiv (.var "_law_k") (.int 2))))
  (.cons (.ite (.not (.call "_law_leads" (.cons (.var "_law_train") (.cons (.var "_law_world_here") (.cons (.call "_law_mixed" (.cons (.var "_law_cell") (.cons (.int 8) (.cons (.var "_law_seats_here") .nil)))) (.cons (.call "_law_mixed" (.cons (.var "_law_cell") (.cons (.int 9) (.cons (.var "_law_stops_here") .nil)))) .nil))))))
  (.cons (.ret (.bool false))
  .nil)
  .nil)
  .nil)))))
  (.cons (.assign "_law_cell" (.call "_law_cell_at" (.cons (.var "_law_script") (.cons (.int 1) .nil))))
  (.cons (.assign "_law_at" (.call "_law_mixed" (.cons (.var "_law_cell") (.cons (.int 5) (.cons (.var "_law_stops_here") .nil)))))
  (.cons (.for_ "_law_seat" (.bi "range" (.cons (.var "_law_seats_here") .nil))
  (.cons (.assign "_law_found_here" (.meth (.var "_law_train") "farthest" (.cons (.var "_law_seat") (.cons (.var "_law_at") .nil))))
  (.cons (.ite (.or (.cons (.not (.call "_law_whole" (.cons (.var "_law_found_here") .nil))) (.cons (.cmp (.var "_law_found_here") (.cons .ne (.call "_law_reach" (.cons (.sub (.sub (.var "_law_world_here") (.int 0)) (.var "_law_seat")) (.cons (.var "_law_at") .nil))) .nil)) .nil)))
  (.cons (.ret (.bool false))
  .nil)
  .nil)
  (.cons (.ite (.and (.cons (.cmp (.var "_law_at") (.cons .lt (.bin .sub (.var "_law_stops_here") (.int 1)) .nil)) (.cons (.cmp (.meth (.var "_law_train") "holder" (.cons (.var "_law_seat") (.cons (.var "_law_at") .nil))) (.cons .ne (.sub (.sub (.sub (.var "_law_world_here") (.int 0)) (.var "_law_seat")) (.var "_law_at")) .nil)) .nil)))
  (.cons (.ret (.bool false))
  .nil)
  .nil)
  .nil))))
  (.cons (.ite (.cmp (.var "_law_at") (.cons .lt (.bin .sub (.var "_law_stops_here") (.int 1)) .nil))
  (.cons (.assign "_law_due_here" (.bi "len" (.cons (.comp (.var "_law_row") "_law_row" (.sub (.var "_law_world_here") (.int 0)) (.cmp (.sub (.var "_law_row") (.var "_law_at")) (.cons .isnot .none .nil))) .nil)))
  (.cons (.assign "_law_found_here" (.meth (.var "_law_train") "load" (.cons (.var "_law_at") .nil)))
  (.cons (.ite (.or (.cons (.not (.call "_law_whole" (.cons (.var "_law_found_here") .nil))) (.cons (.cmp (.var "_law_found_here") (.cons .ne (.var "_law_due_here") .nil)) .nil)))
  (.cons (.ret (.bool false))
  .nil)
  .nil)
  .nil)))
  .nil)
  (.cons (.assign "_law_seat" (.sub (.list (.cons (.neg (.int 1)) (.cons (.var "_law_seats_here") (.cons (.bin .add (.var "_law_seats_here") (.bin .mod (.var "_law_cell") (.bin .pow (.int 10) (.int 20)))) (.cons (.int 0) .nil))))) (.call "_law_mixed" (.cons (.var "_law_cell") (.cons (.int 6) (.cons (.int 4) .nil))))))
  (.cons (.assign "_law_far" (.bin .mod (.var "_law_cell") (.bin .pow (.int 10) (.int 20))))
  (.cons (.assign "_law_at" (.sub (.list (.cons (.neg (.int 1)) (.cons (.bin .sub (.var "_law_stops_here") (.int 1)) (.cons (.var "_law_stops_here") (.cons (.bin .add (.var "_law_stops_here") (.var "_law_far")) (.cons (.int 0) (.cons (.bin .sub (.neg (.int 1)) (.var "_law_far")) .nil))))))) (.call "_law_mixed" (.cons (.var "_law_cell") (.cons (.int 7) (.cons (.int 6) .nil))))))
  (.cons (.for_ "_law_way" (.bi "range" (.cons (.int 3) .nil))
  (.cons (.ite (.cmp (.call "_law_asked" (.cons (.var "_law_train") (.cons (.var "_law_seat") (.cons (.var "_law_at") (.cons (.var "_law_way") .nil))))) (.cons .ne (.call "_law_due" (.cons (.var "_law_world_here") (.cons (.var "_law_seat") (.cons (.var "_law_at") (.cons (.var "_law_way") .nil))))) .nil))
  (.cons (.ret (.bool false))
  .nil)
  .nil)
  .nil))
  (.cons (.ret (.bool true))
  .nil))))))))))))))))⟩
noncomputable def f__law_due : MFn := ⟨["_law_world_here", "_law_seat", "_law_at", "_law_way"],
  (.cons (.assign "_law_legs" (.bi "len" (.cons (.sub (.sub (.var "_law_world_here") (.int 0)) (.int 0)) .nil)))
  (.cons (.ite (.and (.cons (.cmp (.var "_law_way") (.cons .lt (.int 2) .nil)) (.cons (.or (.cons (.cmp (.var "_law_seat") (.cons .lt (.int 0) .nil)) (.cons (.cmp (.var "_law_seat") (.cons .ge (.bi "len" (.cons (.sub (.var "_law_world_here") (.int 0)) .nil)) .nil)) .nil))) .nil)))
  (.cons (.ret (.str "seat"))
  .nil)
  .nil)
  (.cons (.ite (.and (.cons (.cmp (.var "_law_way") (.cons .eq (.int 0) .nil)) (.cons (.or (.cons (.cmp (.var "_law_at") (.cons .lt (.int 0) .nil)) (.cons (.cmp (.var "_law_at") (.cons .gt (.var "_law_legs") .nil)) .nil))) .nil)))
  (.cons (.ret (.str "stop"))
  .nil)
  .nil)
  (.cons (.ite (.and (.cons (.cmp (.var "_law_way") (.cons .gt (.int 0) .nil)) (.cons (.or (.cons (.cmp (.var "_law_at") (.cons .lt (.int 0) .nil)) (.cons (.cmp (.var "_law_at") (.cons .ge (.var "_law_legs") .nil)) .nil))) .nil)))
  (.cons (.ret (.str "leg"))
  .nil)
  .nil)
  (.cons (.ret (.str ""))
  .nil)))))⟩
noncomputable def f__law_asked : MFn := ⟨["_law_train", "_law_seat", "_law_at", "_law_way"],
  (.cons (.assign "_law_word_here" (.str ""))
  (.cons (.try_ (.cons (.ite (.cmp (.var "_law_way") (.cons .eq (.int 0) .nil))
  (.cons (.expr (.meth (.var "_law_train") "farthest" (.cons (.var "_law_seat") (.cons (.var "_law_at") .nil))))
  .nil)
  (.cons (.ite (.cmp (.var "_law_way") (.cons .eq (.int 1) .nil))
  (.cons (.expr (.meth (.var "_law_train") "holder" (.cons (.var "_law_seat") (.cons (.var "_law_at") .nil))))
  .nil)
  (.cons (.expr (.meth (.var "_law_train") "load" (.cons (.var "_law_at") .nil)))
  .nil))
  .nil))
  .nil) "_law_e"
  (.cons (.assign "_law_word_here" (.call "_law_class" (.cons (.var "_law_e") .nil)))
  .nil))
  (.cons (.ret (.var "_law_word_here"))
  .nil)))⟩
noncomputable def f__law_mixed : MFn := ⟨["_law_cell", "_law_k", "_law_many"],
  (.cons (.assign "_law_some" (.list (.cons (.int 99991) (.cons (.int 99989) (.cons (.int 99971) (.cons (.int 99961) (.cons (.int 99929) (.cons (.int 99923) (.cons (.int 99907) (.cons (.int 99901) (.cons (.int 99881) (.cons (.int 99877) (.cons (.int 99871) .nil)))))))))))))
  (.cons (.assign "_law_made" (.bin .mod (.bin .mul (.bin .add (.var "_law_cell") (.bin .mul (.int 7) (.var "_law_k"))) (.int 48271)) (.sub (.var "_law_some") (.bin .mod (.var "_law_k") (.int 11)))))
  (.cons (.ret (.bin .mod (.bin .mod (.bin .add (.bin .add (.bin .mul (.bin .mul (.var "_law_made") (.var "_law_made")) (.int 7)) (.var "_law_made")) (.var "_law_k")) (.int 1000003)) (.var "_law_many")))
  .nil)))⟩
noncomputable def f__law_whole : MFn := ⟨["_law_found_here"],
  (.cons (.ret (.and (.cons (.isinst (.var "_law_found_here") "int") (.cons (.not (.isinst (.var "_law_found_here") "bool")) .nil))))
  .nil)⟩
noncomputable def f_Train_load : MFn := ⟨["self", "leg"],
  (.cons (.expr (.meth (.var "self") "need_leg" (.cons (.var "leg") .nil)))
  (.cons (.ret (.bi "len" (.cons (.comp (.var "seat") "seat" (.bi "range" (.cons (.attr (.var "self") "seats") .nil)) (.cmp (.sub (.sub (.attr (.var "self") "held") (.var "seat")) (.var "leg")) (.cons .isnot .none .nil))) .nil)))
  .nil))⟩
noncomputable def f_Train_holder : MFn := ⟨["self", "seat", "leg"],
  (.cons (.expr (.meth (.var "self") "need_seat" (.cons (.var "seat") .nil)))
  (.cons (.expr (.meth (.var "self") "need_leg" (.cons (.var "leg") .nil)))
  (.cons (.ret (.sub (.sub (.attr (.var "self") "held") (.var "seat")) (.var "leg")))
  .nil)))⟩
noncomputable def f__law_reach : MFn := ⟨["_law_row", "_law_stop"],
  (.cons (.whil (.and (.cons (.cmp (.var "_law_stop") (.cons .lt (.bi "len" (.cons (.var "_law_row") .nil)) .nil)) (.cons (.cmp (.sub (.var "_law_row") (.var "_law_stop")) (.cons .is_ .none .nil)) .nil)))
  (.cons (.assign "_law_stop" (.bin .add (.var "_law_stop") (.int 1)))
  .nil))
  (.cons (.ret (.var "_law_stop"))
  .nil))⟩
noncomputable def f_Train_farthest : MFn := ⟨["self", "seat", "stop"],
  (.cons (.expr (.meth (.var "self") "need_seat" (.cons (.var "seat") .nil)))
  (.cons (.ite (.not (.cmp (.int 0) (.cons .le (.var "stop") (.cons .lt (.attr (.var "self") "stops") .nil))))
  (.cons (.raise "NoStop" "no such stop")
  .nil)
  .nil)
  (.cons (.ret (.meth (.var "self") "leads" (.cons (.var "seat") (.cons (.var "stop") .nil))))
  .nil)))⟩
noncomputable def f__law_cell_at : MFn := ⟨["_law_script", "_law_k"],
  (.cons (.ite (.cmp (.var "_law_k") (.cons .lt (.bi "len" (.cons (.var "_law_script") .nil)) .nil))
  (.cons (.ret (.sub (.var "_law_script") (.var "_law_k")))
  .nil)
  .nil)
  (.cons (.ret (.int 0))
  .nil))⟩
noncomputable def f__law_leads : MFn := ⟨["_law_train", "_law_world_here", "_law_seat", "_law_at"],
  (.cons (.assign "_law_found_here" (.meth (.var "_law_train") "farthest" (.cons (.var "_law_seat") (.cons (.var "_law_at") .nil))))
  (.cons (.ite (.or (.cons (.not (.call "_law_whole" (.cons (.var "_law_found_here") .nil))) (.cons (.cmp (.var "_law_found_here") (.cons .ne (.call "_law_reach" (.cons (.sub (.sub (.var "_law_world_here") (.int 0)) (.var "_law_seat")) (.cons (.var "_law_at") .nil))) .nil)) .nil)))
  (.cons (.ret (.bool false))
  .nil)
  .nil)
  (.cons (.ite (.cmp (.var "_law_at") (.cons .eq (.bi "len" (.cons (.sub (.sub (.var "_law_world_here") (.int 0)) (.int 0)) .nil)) .nil))
  (.cons (.ret (.bool true))
  .nil)
  .nil)
  (.cons (.assign "_law_due_here" (.bi "len" (.cons (.comp (.var "_law_row") "_law_row" (.sub (.var "_law_world_here") (.int 0)) (.cmp (.sub (.var "_law_row") (.var "_law_at")) (.cons .isnot .none .nil))) .nil)))
  (.cons (.ret (.and (.cons (.cmp (.meth (.var "_law_train") "load" (.cons (.var "_law_at") .nil)) (.cons .eq (.var "_law_due_here") .nil)) (.cons (.cmp (.meth (.var "_law_train") "holder" (.cons (.var "_law_seat") (.cons (.var "_law_at") .nil))) (.cons .eq (.sub (.sub (.sub (.var "_law_world_here") (.int 0)) (.var "_law_seat")) (.var "_law_at")) .nil)) .nil))))
  .nil)))))⟩
noncomputable def f__law_done_by : MFn := ⟨["_law_world_here", "_law_deed"],
  (.cons (.ite (.cmp (.sub (.var "_law_deed") (.int 0)) (.cons .eq (.str "sell") .nil))
  (.cons (.ret (.call "_law_sold_by" (.cons (.var "_law_world_here") (.cons (.sub (.var "_law_deed") (.int 1)) (.cons (.sub (.var "_law_deed") (.int 2)) .nil)))))
  .nil)
  .nil)
  (.cons (.ite (.cmp (.sub (.var "_law_deed") (.int 1)) (.cons .notin (.sub (.var "_law_world_here") (.int 1)) .nil))
  (.cons (.ret (.tup (.cons (.str "ticket") (.cons .none .nil))))
  .nil)
  .nil)
  (.cons (.assign "_law_at" (.bm (.sub (.var "_law_world_here") (.int 1)) "index" (.cons (.sub (.var "_law_deed") (.int 1)) .nil)))
  (.cons (.assign "_law_found_here" (.sub (.sub (.var "_law_world_here") (.int 2)) (.var "_law_at")))
  (.cons (.ite (.cmp (.sub (.var "_law_deed") (.int 0)) (.cons .eq (.str "leave") .nil))
  (.cons (.ite (.or (.cons (.cmp (.sub (.var "_law_deed") (.int 2)) (.cons .le (.sub (.sub (.var "_law_found_here") (.int 0)) (.int 1)) .nil)) (.cons (.cmp (.sub (.var "_law_deed") (.int 2)) (.cons .ge (.sub (.sub (.var "_law_found_here") (.neg (.int 1))) (.int 2)) .nil)) .nil)))
  (.cons (.ret (.tup (.cons (.str "stop") (.cons .none .nil))))
  .nil)
  .nil)
  (.cons (.assign "_law_both" (.call "_law_left" (.cons (.var "_law_found_here") (.cons (.sub (.var "_law_deed") (.int 2)) .nil))))
  (.cons (.expr (.call "_law_mark" (.cons (.sub (.var "_law_world_here") (.int 0)) (.cons (.sub (.var "_law_both") (.int 1)) (.cons .none .nil)))))
  (.cons (.setIdx (.sub (.var "_law_world_here") (.int 2)) (.var "_law_at") (.sub (.var "_law_both") (.int 0)))
  (.cons (.ret (.tup (.cons (.str "") (.cons (.sub (.var "_law_both") (.int 1)) .nil))))
  .nil)))))
  .nil)
  (.cons (.expr (.call "_law_mark" (.cons (.sub (.var "_law_world_here") (.int 0)) (.cons (.var "_law_found_here") (.cons .none .nil)))))
  (.cons (.ite (.cmp (.sub (.var "_law_deed") (.int 0)) (.cons .eq (.str "back") .nil))
  (.cons (.expr (.bm (.sub (.var "_law_world_here") (.int 1)) "pop" (.cons (.var "_law_at") .nil)))
  (.cons (.expr (.bm (.sub (.var "_law_world_here") (.int 2)) "pop" (.cons (.var "_law_at") .nil)))
  (.cons (.ret (.tup (.cons (.str "") (.cons (.var "_law_found_here") .nil))))
  .nil)))
  .nil)
  (.cons (.setIdx (.sub (.var "_law_world_here") (.int 2)) (.var "_law_at") (.call "_law_found" (.cons (.sub (.var "_law_world_here") (.int 0)) (.cons (.sub (.sub (.var "_law_found_here") (.int 0)) (.int 1)) (.cons (.sub (.sub (.var "_law_found_here") (.neg (.int 1))) (.int 2)) .nil)))))
  (.cons (.expr (.call "_law_mark" (.cons (.sub (.var "_law_world_here") (.int 0)) (.cons (.sub (.sub (.var "_law_world_here") (.int 2)) (.var "_law_at")) (.cons (.sub (.var "_law_deed") (.int 1)) .nil)))))
  (.cons (.ret (.tup (.cons (.str "") (.cons (.sub (.sub (.var "_law_world_here") (.int 2)) (.var "_law_at")) .nil))))
  .nil))))))))))⟩
noncomputable def f__law_word : MFn := ⟨["_law_train", "_law_deed"],
  (.cons (.try_ (.cons (.ret (.tup (.cons (.str "") (.cons (.call "_law_told" (.cons (.var "_law_train") (.cons (.var "_law_deed") .nil))) .nil))))
  .nil) "_law_e"
  (.cons (.ret (.tup (.cons (.call "_law_class" (.cons (.var "_law_e") .nil)) (.cons .none .nil))))
  .nil))
  .nil)⟩
noncomputable def f__law_deed_by : MFn := ⟨["_law_cell", "_law_sold", "_law_stops_here"],
  (.cons (.ite (.isinst (.var "_law_cell") "tuple")
  (.cons (.ret (.var "_law_cell"))
  .nil)
  .nil)
  (.cons (.assign "_law_way" (.sub (.list (.cons (.int 0) (.cons (.int 0) (.cons (.int 0) (.cons (.int 0) (.cons (.int 1) (.cons (.int 2) (.cons (.int 3) (.cons (.int 0) (.cons (.int 4) .nil)))))))))) (.bin .mod (.var "_law_cell") (.int 9))))
  (.cons (.assign "_law_some" (.bin .add (.var "_law_sold") (.list (.cons (.int 0) .nil))))
  (.cons (.assign "_law_ticket" (.sub (.var "_law_some") (.call "_law_mixed" (.cons (.var "_law_cell") (.cons (.int 3) (.cons (.bi "max" (.cons (.int 1) (.cons (.bi "len" (.cons (.var "_law_sold") .nil)) .nil))) .nil))))))
  (.cons (.ite (.cmp (.var "_law_way") (.cons .eq (.int 1) .nil))
  (.cons (.ret (.tup (.cons (.str "back") (.cons (.var "_law_ticket") (.cons (.int 0) .nil)))))
  .nil)
  .nil)
  (.cons (.ite (.cmp (.var "_law_way") (.cons .eq (.int 2) .nil))
  (.cons (.ret (.tup (.cons (.str "leave") (.cons (.var "_law_ticket") (.cons (.bin .sub (.call "_law_mixed" (.cons (.var "_law_cell") (.cons (.int 4) (.cons (.bin .add (.var "_law_stops_here") (.int 2)) .nil)))) (.int 1)) .nil)))))
  .nil)
  .nil)
  (.cons (.ite (.cmp (.var "_law_way") (.cons .eq (.int 3) .nil))
  (.cons (.ret (.tup (.cons (.str "reseat") (.cons (.var "_law_ticket") (.cons (.int 0) .nil)))))
  .nil)
  .nil)
  (.cons (.ite (.and (.cons (.cmp (.var "_law_way") (.cons .eq (.int 4) .nil)) (.cons (.cmp (.bin .mod (.bin .fdiv (.var "_law_cell") (.int 9)) (.int 2)) (.cons .eq (.int 1) .nil)) .nil)))
  (.cons (.assign "_law_kind" (.sub (.list (.cons (.str "back") (.cons (.str "leave") (.cons (.str "reseat") .nil)))) (.bin .mod (.bin .fdiv (.var "_law_cell") (.int 18)) (.int 3))))
  (.cons (.ret (.tup (.cons (.var "_law_kind") (.cons (.sub (.list (.cons (.neg (.int 1)) (.cons (.bin .add (.bi "len" (.cons (.var "_law_sold") .nil)) (.int 400)) (.cons (.bin .add (.var "_law_ticket") (.int 1)) (.cons (.bin .pow (.int 10) (.int 12)) .nil))))) (.bin .mod (.bin .fdiv (.var "_law_cell") (.int 54)) (.int 4))) (.cons (.int 1) .nil)))))
  .nil))
  .nil)
  (.cons (.assign "_law_stretch" (.call "_law_stretch_by" (.cons (.var "_law_cell") (.cons (.var "_law_stops_here") .nil))))
  (.cons (.ite (.cmp (.var "_law_way") (.cons .eq (.int 4) .nil))
  (.cons (.assign "_law_end" (.sub (.list (.cons (.sub (.var "_law_stretch") (.int 0)) (.cons (.bin .sub (.sub (.var "_law_stretch") (.int 0)) (.int 1)) (.cons (.var "_law_stops_here") (.cons (.bin .pow (.int 10) (.int 12)) .nil))))) (.bin .mod (.bin .fdiv (.var "_law_cell") (.int 18)) (.int 4))))
  (.cons (.ret (.tup (.cons (.str "sell") (.cons (.sub (.list (.cons (.sub (.var "_law_stretch") (.int 0)) (.cons (.neg (.int 1)) .nil))) (.bin .mod (.bin .fdiv (.var "_law_cell") (.int 72)) (.int 2))) (.cons (.var "_law_end") .nil)))))
  .nil))
  .nil)
  (.cons (.ret (.tup (.cons (.str "sell") (.cons (.sub (.var "_law_stretch") (.int 0)) (.cons (.sub (.var "_law_stretch") (.int 1)) .nil)))))
  .nil)))))))))))⟩
noncomputable def f__law_cells : MFn := ⟨["_law_script"],
  (.cons (.assign "_law_far" (.call "_law_cell_at" (.cons (.var "_law_script") (.cons (.int 2) .nil))))
  (.cons (.assign "_law_seats_here" (.call "_law_seats" (.cons (.call "_law_cell_at" (.cons (.var "_law_script") (.cons (.int 0) .nil))) .nil)))
  (.cons (.assign "_law_stops_here" (.call "_law_stops" (.cons (.call "_law_cell_at" (.cons (.var "_law_script") (.cons (.int 1) .nil))) .nil)))
  (.cons (.ite (.and (.cons (.cmp (.bin .mod (.var "_law_far") (.int 4)) (.cons .eq (.int 3) .nil)) (.cons (.cmp (.bin .mul (.var "_law_seats_here") (.var "_law_stops_here")) (.cons .lt (.int 240) .nil)) .nil)))
  (.cons (.ret (.bin .add (.call "_law_laid" (.cons (.var "_law_seats_here") (.cons (.var "_law_stops_here") (.cons (.bin .fdiv (.var "_law_far") (.int 8)) .nil)))) (.slice (.var "_law_script") (.int 3) (.int 40))))
  .nil)
  .nil)
  (.cons (.ite (.and (.cons (.cmp (.bin .mod (.var "_law_far") (.int 8)) (.cons .eq (.int 1) .nil)) (.cons (.cmp (.bin .mul (.var "_law_seats_here") (.var "_law_stops_here")) (.cons .lt (.int 900) .nil)) .nil)))
  (.cons (.ret (.bin .add (.comp (.bin .add (.bin .fdiv (.var "_law_far") (.int 8)) (.bin .mul (.int 17) (.var "_law_k"))) "_law_k" (.bi "range" (.cons (.bin .add (.int 60) (.bin .mod (.bin .fdiv (.var "_law_far") (.int 8)) (.int 90))) .nil)) (.bool true)) (.slice (.var "_law_script") (.int 3) (.int 13))))
  .nil)
  .nil)
  (.cons (.ite (.cmp (.bin .mod (.var "_law_far") (.int 8)) (.cons .eq (.int 2) .nil))
  (.cons (.ret (.bin .add (.comp (.bin .mul (.int 9) (.bin .add (.bin .fdiv (.var "_law_far") (.int 8)) (.bin .mul (.int 5) (.var "_law_k")))) "_law_k" (.bi "range" (.cons (.bin .add (.int 60) (.bin .mod (.bin .fdiv (.var "_law_far") (.int 8)) (.int 90))) .nil)) (.bool true)) (.slice (.var "_law_script") (.int 3) (.int 13))))
  .nil)
  .nil)
  (.cons (.ret (.slice (.var "_law_script") (.int 3) (.int 99)))
  .nil)))))))⟩
noncomputable def f__law_built : MFn := ⟨["_law_script"],
  (.cons (.assign "_law_seats_here" (.call "_law_seats" (.cons (.call "_law_cell_at" (.cons (.var "_law_script") (.cons (.int 0) .nil))) .nil)))
  (.cons (.assign "_law_stops_here" (.call "_law_stops" (.cons (.call "_law_cell_at" (.cons (.var "_law_script") (.cons (.int 1) .nil))) .nil)))
  (.cons (.ret (.list (.cons (.mk (.cons (.var "_law_seats_here") (.cons (.var "_law_stops_here") .nil))) (.cons (.call "_law_world" (.cons (.var "_law_seats_here") (.cons (.var "_law_stops_here") .nil))) .nil))))
  .nil)))⟩
noncomputable def f__law_class : MFn := ⟨["_law_e"],
  (.cons (.assign "_law_words" (.list .nil))
  (.cons (.ite (.isinst (.var "_law_e") "NoTrain")
  (.cons (.expr (.bm (.var "_law_words") "append" (.cons (.str "train") .nil)))
  .nil)
  .nil)
  (.cons (.ite (.isinst (.var "_law_e") "NoStretch")
  (.cons (.expr (.bm (.var "_law_words") "append" (.cons (.str "stretch") .nil)))
  .nil)
  .nil)
  (.cons (.ite (.isinst (.var "_law_e") "NoSeat")
  (.cons (.expr (.bm (.var "_law_words") "append" (.cons (.str "seat") .nil)))
  .nil)
  .nil)
  (.cons (.ite (.isinst (.var "_law_e") "NoStop")
  (.cons (.expr (.bm (.var "_law_words") "append" (.cons (.str "stop") .nil)))
  .nil)
  .nil)
  (.cons (.ite (.isinst (.var "_law_e") "NoLeg")
  (.cons (.expr (.bm (.var "_law_words") "append" (.cons (.str "leg") .nil)))
  .nil)
  .nil)
  (.cons (.ite (.isinst (.var "_law_e") "NoTicket")
  (.cons (.expr (.bm (.var "_law_words") "append" (.cons (.str "ticket") .nil)))
  .nil)
  .nil)
  (.cons (.ite (.isinst (.var "_law_e") "Full")
  (.cons (.expr (.bm (.var "_law_words") "append" (.cons (.str "full") .nil)))
  .nil)
  .nil)
  (.cons (.ite (.isinst (.var "_law_e") "Shared")
  (.cons (.expr (.bm (.var "_law_words") "append" (.cons (.str "shared") .nil)))
  .nil)
  .nil)
  (.cons (.ite (.isinst (.var "_law_e") "NoText")
  (.cons (.expr (.bm (.var "_law_words") "append" (.cons (.str "text") .nil)))
  .nil)
  .nil)
  (.cons (.ite (.and (.cons (.cmp (.bi "len" (.cons (.var "_law_words") .nil)) (.cons .eq (.int 1) .nil)) (.cons (.isinst (.var "_law_e") "ValueError") .nil)))
  (.cons (.ret (.sub (.var "_law_words") (.int 0)))
  .nil)
  .nil)
  (.cons (.ret (.str "other"))
  .nil))))))))))))⟩
noncomputable def f_Train_need_leg : MFn := ⟨["self", "leg"],
  (.cons (.ite (.not (.cmp (.int 0) (.cons .le (.var "leg") (.cons .lt (.bin .sub (.attr (.var "self") "stops") (.int 1)) .nil))))
  (.cons (.raise "NoLeg" "no such leg")
  .nil)
  .nil)
  .nil)⟩
noncomputable def f_Train_need_seat : MFn := ⟨["self", "seat"],
  (.cons (.ite (.not (.cmp (.int 0) (.cons .le (.var "seat") (.cons .lt (.attr (.var "self") "seats") .nil))))
  (.cons (.raise "NoSeat" "no such seat")
  .nil)
  .nil)
  .nil)⟩
noncomputable def f_Train_leads : MFn := ⟨["self", "seat", "stop"],
  (.cons (.whil (.and (.cons (.cmp (.var "stop") (.cons .lt (.bin .sub (.attr (.var "self") "stops") (.int 1)) .nil)) (.cons (.cmp (.sub (.sub (.attr (.var "self") "held") (.var "seat")) (.var "stop")) (.cons .is_ .none .nil)) .nil)))
  (.cons (.assign "stop" (.bin .add (.var "stop") (.int 1)))
  .nil))
  (.cons (.ret (.var "stop"))
  .nil))⟩
noncomputable def f__law_mark : MFn := ⟨["_law_rows", "_law_row", "_law_held"],
  (.cons (.for_ "_law_one" (.var "_law_row")
  (.cons (.for_ "_law_leg" (.bi "range" (.cons (.sub (.var "_law_one") (.int 1)) (.cons (.sub (.var "_law_one") (.int 2)) .nil)))
  (.cons (.setIdx (.sub (.var "_law_rows") (.sub (.var "_law_one") (.int 0))) (.var "_law_leg") (.var "_law_held"))
  .nil))
  .nil))
  .nil)⟩
noncomputable def f__law_found : MFn := ⟨["_law_rows", "_law_begin", "_law_end"],
  (.cons (.assign "_law_found_here" (.list .nil))
  (.cons (.whil (.cmp (.var "_law_begin") (.cons .lt (.var "_law_end") .nil))
  (.cons (.assign "_law_leads_here" (.comp (.bi "min" (.cons (.call "_law_reach" (.cons (.var "_law_row") (.cons (.var "_law_begin") .nil))) (.cons (.var "_law_end") .nil))) "_law_row" (.var "_law_rows") (.bool true)))
  (.cons (.expr (.bm (.var "_law_found_here") "append" (.cons (.tup (.cons (.bm (.var "_law_leads_here") "index" (.cons (.bi "max" (.cons (.var "_law_leads_here") .nil)) .nil)) (.cons (.var "_law_begin") (.cons (.bi "max" (.cons (.var "_law_leads_here") .nil)) .nil)))) .nil)))
  (.cons (.assign "_law_begin" (.bi "max" (.cons (.var "_law_leads_here") .nil)))
  .nil))))
  (.cons (.ret (.var "_law_found_here"))
  .nil)))⟩
noncomputable def f__law_left : MFn := ⟨["_law_found_here", "_law_stop"],
  (.cons (.assign "_law_kept" (.comp (.tup (.cons (.sub (.var "_law_one") (.int 0)) (.cons (.sub (.var "_law_one") (.int 1)) (.cons (.bi "min" (.cons (.sub (.var "_law_one") (.int 2)) (.cons (.var "_law_stop") .nil))) .nil)))) "_law_one" (.var "_law_found_here") (.cmp (.sub (.var "_law_one") (.int 1)) (.cons .lt (.var "_law_stop") .nil))))
  (.cons (.assign "_law_gone" (.comp (.tup (.cons (.sub (.var "_law_one") (.int 0)) (.cons (.bi "max" (.cons (.sub (.var "_law_one") (.int 1)) (.cons (.var "_law_stop") .nil))) (.cons (.sub (.var "_law_one") (.int 2)) .nil)))) "_law_one" (.var "_law_found_here") (.cmp (.sub (.var "_law_one") (.int 2)) (.cons .gt (.var "_law_stop") .nil))))
  (.cons (.ret (.tup (.cons (.var "_law_kept") (.cons (.var "_law_gone") .nil))))
  .nil)))⟩
noncomputable def f__law_sold_by : MFn := ⟨["_law_world_here", "_law_begin", "_law_end"],
  (.cons (.ite (.or (.cons (.cmp (.var "_law_begin") (.cons .lt (.int 0) .nil)) (.cons (.cmp (.var "_law_begin") (.cons .ge (.var "_law_end") .nil)) (.cons (.cmp (.var "_law_end") (.cons .gt (.bi "len" (.cons (.sub (.sub (.var "_law_world_here") (.int 0)) (.int 0)) .nil)) .nil)) .nil))))
  (.cons (.ret (.tup (.cons (.str "stretch") (.cons .none .nil))))
  .nil)
  .nil)
  (.cons (.ite (.cmp (.call "_law_full" (.cons (.sub (.var "_law_world_here") (.int 0)) (.cons (.var "_law_begin") (.cons (.var "_law_end") .nil)))) (.cons .isnot .none .nil))
  (.cons (.ret (.tup (.cons (.str "full") (.cons .none .nil))))
  .nil)
  .nil)
  (.cons (.assign "_law_found_here" (.call "_law_found" (.cons (.sub (.var "_law_world_here") (.int 0)) (.cons (.var "_law_begin") (.cons (.var "_law_end") .nil)))))
  (.cons (.expr (.call "_law_mark" (.cons (.sub (.var "_law_world_here") (.int 0)) (.cons (.var "_law_found_here") (.cons (.sub (.var "_law_world_here") (.int 3)) .nil)))))
  (.cons (.expr (.bm (.sub (.var "_law_world_here") (.int 1)) "append" (.cons (.sub (.var "_law_world_here") (.int 3)) .nil)))
  (.cons (.expr (.bm (.sub (.var "_law_world_here") (.int 2)) "append" (.cons (.var "_law_found_here") .nil)))
  (.cons (.setIdx (.var "_law_world_here") (.int 3) (.bin .add (.sub (.var "_law_world_here") (.int 3)) (.int 1)))
  (.cons (.ret (.tup (.cons (.str "") (.cons (.bin .sub (.sub (.var "_law_world_here") (.int 3)) (.int 1)) .nil))))
  .nil))))))))⟩
noncomputable def f__law_told : MFn := ⟨["_law_train", "_law_deed"],
  (.cons (.ite (.cmp (.sub (.var "_law_deed") (.int 0)) (.cons .eq (.str "sell") .nil))
  (.cons (.ret (.meth (.var "_law_train") "sell" (.cons (.sub (.var "_law_deed") (.int 1)) (.cons (.sub (.var "_law_deed") (.int 2)) .nil))))
  .nil)
  .nil)
  (.cons (.ite (.cmp (.sub (.var "_law_deed") (.int 0)) (.cons .eq (.str "back") .nil))
  (.cons (.ret (.meth (.var "_law_train") "back" (.cons (.sub (.var "_law_deed") (.int 1)) .nil)))
  .nil)
  .nil)
  (.cons (.ite (.cmp (.sub (.var "_law_deed") (.int 0)) (.cons .eq (.str "leave") .nil))
  (.cons (.ret (.meth (.var "_law_train") "leave" (.cons (.sub (.var "_law_deed") (.int 1)) (.cons (.sub (.var "_law_deed") (.int 2)) .nil))))
  .nil)
  .nil)
  (.cons (.ret (.meth (.var "_law_train") "reseat" (.cons (.sub (.var "_law_deed") (.int 1)) .nil)))
  .nil))))⟩
noncomputable def f__law_stretch_by : MFn := ⟨["_law_cell", "_law_stops_here"],
  (.cons (.assign "_law_begin" (.call "_law_mixed" (.cons (.var "_law_cell") (.cons (.int 1) (.cons (.bin .sub (.var "_law_stops_here") (.int 1)) .nil)))))
  (.cons (.ite (.cmp (.bin .mod (.bin .fdiv (.var "_law_cell") (.int 9)) (.int 3)) (.cons .eq (.int 1) .nil))
  (.cons (.assign "_law_begin" (.int 0))
  .nil)
  .nil)
  (.cons (.assign "_law_end" (.bin .add (.bin .add (.var "_law_begin") (.int 1)) (.call "_law_mixed" (.cons (.var "_law_cell") (.cons (.int 2) (.cons (.bin .sub (.bin .sub (.var "_law_stops_here") (.int 1)) (.var "_law_begin")) .nil))))))
  (.cons (.ite (.cmp (.bin .mod (.bin .fdiv (.var "_law_cell") (.int 27)) (.int 3)) (.cons .eq (.int 1) .nil))
  (.cons (.assign "_law_end" (.bi "min" (.cons (.bin .add (.bin .add (.var "_law_begin") (.int 1)) (.bin .mod (.bin .fdiv (.var "_law_cell") (.int 81)) (.int 3))) (.cons (.bin .sub (.var "_law_stops_here") (.int 1)) .nil))))
  .nil)
  .nil)
  (.cons (.ret (.tup (.cons (.var "_law_begin") (.cons (.var "_law_end") .nil))))
  .nil)))))⟩
noncomputable def f__law_laid : MFn := ⟨["_law_seats_here", "_law_stops_here", "_law_far"],
  (.cons (.assign "_law_deeds" (.list .nil))
  (.cons (.for_ "_law_leg" (.bi "range" (.cons (.bin .sub (.var "_law_stops_here") (.int 1)) .nil))
  (.cons (.for_ "_law_seat" (.bi "range" (.cons (.var "_law_seats_here") .nil))
  (.cons (.expr (.bm (.var "_law_deeds") "append" (.cons (.tup (.cons (.str "sell") (.cons (.var "_law_leg") (.cons (.bin .add (.var "_law_leg") (.int 1)) .nil)))) .nil)))
  .nil))
  .nil))
  (.cons (.for_ "_law_leg" (.bi "range" (.cons (.bin .sub (.var "_law_stops_here") (.int 1)) .nil))
  (.cons (.expr (.bm (.var "_law_deeds") "append" (.cons (.tup (.cons (.str "back") (.cons (.bin .add (.bin .mul (.var "_law_leg") (.var "_law_seats_here")) (.bin .mod (.bin .add (.bin .mul (.var "_law_leg") (.bin .add (.int 1) (.bin .mod (.var "_law_far") (.int 3)))) (.bin .fdiv (.var "_law_far") (.int 3))) (.var "_law_seats_here"))) (.cons (.int 0) .nil)))) .nil)))
  .nil))
  (.cons (.assign "_law_whole_here" (.bin .mul (.var "_law_seats_here") (.bin .sub (.var "_law_stops_here") (.int 1))))
  (.cons (.ret (.bin .add (.var "_law_deeds") (.list (.cons (.tup (.cons (.str "sell") (.cons (.bin .mod (.bin .fdiv (.var "_law_far") (.int 9)) (.int 2)) (.cons (.bin .sub (.var "_law_stops_here") (.int 1)) .nil)))) (.cons (.tup (.cons (.str "leave") (.cons (.var "_law_whole_here") (.cons (.bin .mod (.bin .fdiv (.var "_law_far") (.int 18)) (.var "_law_stops_here")) .nil)))) (.cons (.tup (.cons (.str "reseat") (.cons (.var "_law_whole_here") (.cons (.int 0) .nil)))) .nil))))))
  .nil)))))⟩
noncomputable def f__law_stops : MFn := ⟨["_law_cell"],
  (.cons (.ite (.cmp (.bin .mod (.bin .fdiv (.var "_law_cell") (.int 8)) (.int 8)) (.cons .eq (.int 1) .nil))
  (.cons (.ret (.bin .add (.int 50) (.bin .mod (.bin .fdiv (.var "_law_cell") (.int 64)) (.int 11))))
  .nil)
  .nil)
  (.cons (.ite (.cmp (.bin .mod (.bin .fdiv (.var "_law_cell") (.int 8)) (.int 8)) (.cons .eq (.int 2) .nil))
  (.cons (.ret (.bin .add (.int 10) (.bin .mod (.bin .fdiv (.var "_law_cell") (.int 64)) (.int 40))))
  .nil)
  .nil)
  (.cons (.ret (.bin .add (.int 2) (.bin .mod (.var "_law_cell") (.int 8))))
  .nil)))⟩
noncomputable def f__law_seats : MFn := ⟨["_law_cell"],
  (.cons (.ite (.cmp (.bin .mod (.bin .fdiv (.var "_law_cell") (.int 5)) (.int 8)) (.cons .eq (.int 1) .nil))
  (.cons (.ret (.bin .add (.int 50) (.bin .mod (.bin .fdiv (.var "_law_cell") (.int 40)) (.int 11))))
  .nil)
  .nil)
  (.cons (.ite (.cmp (.bin .mod (.bin .fdiv (.var "_law_cell") (.int 5)) (.int 8)) (.cons .eq (.int 2) .nil))
  (.cons (.ret (.bin .add (.int 6) (.bin .mod (.bin .fdiv (.var "_law_cell") (.int 40)) (.int 44))))
  .nil)
  .nil)
  (.cons (.ret (.bin .add (.int 1) (.bin .mod (.var "_law_cell") (.int 5))))
  .nil)))⟩
noncomputable def f__law_world : MFn := ⟨["_law_seats_here", "_law_stops_here"],
  (.cons (.ret (.list (.cons (.comp (.bin .mul (.list (.cons .none .nil)) (.bin .sub (.var "_law_stops_here") (.int 1))) "_law_seat" (.bi "range" (.cons (.var "_law_seats_here") .nil)) (.bool true)) (.cons (.list .nil) (.cons (.list .nil) (.cons (.int 0) .nil))))))
  .nil)⟩
noncomputable def f_Train_init : MFn := ⟨["self", "seats", "stops"],
  (.cons (.ite (.or (.cons (.not (.cmp (.int 1) (.cons .le (.var "seats") (.cons .le (.gconst "MOST" (.int 60)) .nil)))) (.cons (.not (.cmp (.int 2) (.cons .le (.var "stops") (.cons .le (.gconst "MOST" (.int 60)) .nil)))) .nil)))
  (.cons (.raise "NoTrain" "no such train")
  .nil)
  .nil)
  (.cons (.setAttr (.var "self") "seats" (.var "seats"))
  (.cons (.setAttr (.var "self") "stops" (.var "stops"))
  (.cons (.setAttr (.var "self") "coming" (.int 0))
  (.cons (.setAttr (.var "self") "rides" .dict)
  (.cons (.setAttr (.var "self") "held" (.comp (.bin .mul (.list (.cons .none .nil)) (.bin .sub (.var "stops") (.int 1))) "seat" (.bi "range" (.cons (.var "seats") .nil)) (.bool true)))
  .nil))))))⟩
noncomputable def f__law_full : MFn := ⟨["_law_rows", "_law_begin", "_law_end"],
  (.cons (.for_ "_law_leg" (.bi "range" (.cons (.var "_law_begin") (.cons (.var "_law_end") .nil)))
  (.cons (.ite (.bi "all" (.cons (.comp (.cmp (.sub (.var "_law_row") (.var "_law_leg")) (.cons .isnot .none .nil)) "_law_row" (.var "_law_rows") (.bool true)) .nil))
  (.cons (.ret (.var "_law_leg"))
  .nil)
  .nil)
  .nil))
  (.cons (.ret .none)
  .nil))⟩
noncomputable def f_Train_reseat : MFn := ⟨["self", "ticket"],
  (.cons (.expr (.meth (.var "self") "need_ticket" (.cons (.var "ticket") .nil)))
  (.cons (.assign "told" (.sub (.attr (.var "self") "rides") (.var "ticket")))
  (.cons (.expr (.meth (.var "self") "mark" (.cons (.var "told") (.cons .none .nil))))
  (.cons (.assign "again" (.meth (.var "self") "found" (.cons (.sub (.sub (.var "told") (.int 0)) (.int 1)) (.cons (.sub (.sub (.var "told") (.neg (.int 1))) (.int 2)) .nil))))
  (.cons (.setIdx (.attr (.var "self") "rides") (.var "ticket") (.var "again"))
  (.cons (.expr (.meth (.var "self") "mark" (.cons (.var "again") (.cons (.var "ticket") .nil))))
  (.cons (.ret (.bi "list" (.cons (.var "again") .nil)))
  .nil)))))))⟩
noncomputable def f_Train_leave : MFn := ⟨["self", "ticket", "stop"],
  (.cons (.expr (.meth (.var "self") "need_ticket" (.cons (.var "ticket") .nil)))
  (.cons (.assign "told" (.sub (.attr (.var "self") "rides") (.var "ticket")))
  (.cons (.ite (.not (.cmp (.sub (.sub (.var "told") (.int 0)) (.int 1)) (.cons .lt (.var "stop") (.cons .lt (.sub (.sub (.var "told") (.neg (.int 1))) (.int 2)) .nil))))
  (.cons (.raise "NoStop" "not within the stretch")
  .nil)
  .nil)
  (.cons (.assign "gone" (.comp (.tup (.cons (.sub (.var "part") (.int 0)) (.cons (.bi "max" (.cons (.sub (.var "part") (.int 1)) (.cons (.var "stop") .nil))) (.cons (.sub (.var "part") (.int 2)) .nil)))) "part" (.var "told") (.cmp (.sub (.var "part") (.int 2)) (.cons .gt (.var "stop") .nil))))
  (.cons (.expr (.meth (.var "self") "mark" (.cons (.var "gone") (.cons .none .nil))))
  (.cons (.setIdx (.attr (.var "self") "rides") (.var "ticket") (.comp (.tup (.cons (.sub (.var "part") (.int 0)) (.cons (.sub (.var "part") (.int 1)) (.cons (.bi "min" (.cons (.sub (.var "part") (.int 2)) (.cons (.var "stop") .nil))) .nil)))) "part" (.var "told") (.cmp (.sub (.var "part") (.int 1)) (.cons .lt (.var "stop") .nil))))
  (.cons (.ret (.var "gone"))
  .nil)))))))⟩
noncomputable def f_Train_back : MFn := ⟨["self", "ticket"],
  (.cons (.expr (.meth (.var "self") "need_ticket" (.cons (.var "ticket") .nil)))
  (.cons (.assign "told" (.bm (.attr (.var "self") "rides") "pop" (.cons (.var "ticket") .nil)))
  (.cons (.expr (.meth (.var "self") "mark" (.cons (.var "told") (.cons .none .nil))))
  (.cons (.ret (.bi "list" (.cons (.var "told") .nil)))
  .nil))))⟩
noncomputable def f_Train_sell : MFn := ⟨["self", "begin", "end"],
  (.cons (.assign "told" (.meth (.var "self") "row" (.cons (.var "begin") (.cons (.var "end") .nil))))
  (.cons (.assign "ticket" (.attr (.var "self") "coming"))
  (.cons (.setAttr (.var "self") "coming" (.bin .add (.var "ticket") (.int 1)))
  (.cons (.setIdx (.attr (.var "self") "rides") (.var "ticket") (.var "told"))
  (.cons (.expr (.meth (.var "self") "mark" (.cons (.var "told") (.cons (.var "ticket") .nil))))
  (.cons (.ret (.var "ticket"))
  .nil))))))⟩
noncomputable def f_Train_mark : MFn := ⟨["self", "told", "ticket"],
  (.cons (.forT ["seat", "begin", "end"] (.var "told")
  (.cons (.for_ "leg" (.bi "range" (.cons (.var "begin") (.cons (.var "end") .nil)))
  (.cons (.setIdx (.sub (.attr (.var "self") "held") (.var "seat")) (.var "leg") (.var "ticket"))
  .nil))
  .nil))
  .nil)⟩
noncomputable def f_Train_found : MFn := ⟨["self", "begin", "end"],
  (.cons (.assign "told" (.list .nil))
  (.cons (.assign "at" (.var "begin"))
  (.cons (.whil (.cmp (.var "at") (.cons .lt (.var "end") .nil))
  (.cons (.assign "best" (.int 0))
  (.cons (.assign "to" (.bi "min" (.cons (.meth (.var "self") "leads" (.cons (.int 0) (.cons (.var "at") .nil))) (.cons (.var "end") .nil))))
  (.cons (.for_ "seat" (.bi "range" (.cons (.int 1) (.cons (.attr (.var "self") "seats") .nil)))
  (.cons (.assign "there" (.bi "min" (.cons (.meth (.var "self") "leads" (.cons (.var "seat") (.cons (.var "at") .nil))) (.cons (.var "end") .nil))))
  (.cons (.ite (.cmp (.var "there") (.cons .gt (.var "to") .nil))
  (.cons (.assign "best" (.var "seat"))
  (.cons (.assign "to" (.var "there"))
  .nil))
  .nil)
  .nil)))
  (.cons (.expr (.bm (.var "told") "append" (.cons (.tup (.cons (.var "best") (.cons (.var "at") (.cons (.var "to") .nil)))) .nil)))
  (.cons (.assign "at" (.var "to"))
  .nil))))))
  (.cons (.ret (.var "told"))
  .nil))))⟩
noncomputable def f_Train_need_ticket : MFn := ⟨["self", "ticket"],
  (.cons (.ite (.cmp (.var "ticket") (.cons .notin (.attr (.var "self") "rides") .nil))
  (.cons (.raise "NoTicket" "no such ticket")
  .nil)
  .nil)
  .nil)⟩
noncomputable def f_Train_row : MFn := ⟨["self", "begin", "end"],
  (.cons (.expr (.meth (.var "self") "need_stretch" (.cons (.var "begin") (.cons (.var "end") .nil))))
  (.cons (.ite (.cmp (.meth (.var "self") "blocking" (.cons (.var "begin") (.cons (.var "end") .nil))) (.cons .isnot .none .nil))
  (.cons (.raise "Full" "no seat is free on some leg")
  .nil)
  .nil)
  (.cons (.ret (.meth (.var "self") "found" (.cons (.var "begin") (.cons (.var "end") .nil))))
  .nil)))⟩
noncomputable def f_Train_blocking : MFn := ⟨["self", "begin", "end"],
  (.cons (.for_ "leg" (.bi "range" (.cons (.var "begin") (.cons (.var "end") .nil)))
  (.cons (.ite (.bi "all" (.cons (.comp (.cmp (.sub (.sub (.attr (.var "self") "held") (.var "seat")) (.var "leg")) (.cons .isnot .none .nil)) "seat" (.bi "range" (.cons (.attr (.var "self") "seats") .nil)) (.bool true)) .nil))
  (.cons (.ret (.var "leg"))
  .nil)
  .nil)
  .nil))
  (.cons (.ret .none)
  .nil))⟩
noncomputable def f_Train_need_stretch : MFn := ⟨["self", "begin", "end"],
  (.cons (.ite (.not (.cmp (.int 0) (.cons .le (.var "begin") (.cons .lt (.var "end") (.cons .lt (.attr (.var "self") "stops") .nil)))))
  (.cons (.raise "NoStretch" "no stretch")
  .nil)
  .nil)
  .nil)⟩
noncomputable def theP : MProg := [("_law_due", f__law_due), ("_law_asked", f__law_asked), ("_law_mixed", f__law_mixed), ("_law_whole", f__law_whole), ("load", f_Train_load), ("holder", f_Train_holder), ("_law_reach", f__law_reach), ("farthest", f_Train_farthest), ("_law_cell_at", f__law_cell_at), ("_law_leads", f__law_leads), ("_law_done_by", f__law_done_by), ("_law_word", f__law_word), ("_law_deed_by", f__law_deed_by), ("_law_cells", f__law_cells), ("_law_built", f__law_built), ("_law_class", f__law_class), ("need_leg", f_Train_need_leg), ("need_seat", f_Train_need_seat), ("leads", f_Train_leads), ("_law_mark", f__law_mark), ("_law_found", f__law_found), ("_law_left", f__law_left), ("_law_sold_by", f__law_sold_by), ("_law_told", f__law_told), ("_law_stretch_by", f__law_stretch_by), ("_law_laid", f__law_laid), ("_law_stops", f__law_stops), ("_law_seats", f__law_seats), ("_law_world", f__law_world), ("__init__", f_Train_init), ("_law_full", f__law_full), ("reseat", f_Train_reseat), ("leave", f_Train_leave), ("back", f_Train_back), ("sell", f_Train_sell), ("mark", f_Train_mark), ("found", f_Train_found), ("need_ticket", f_Train_need_ticket), ("row", f_Train_row), ("blocking", f_Train_blocking), ("need_stretch", f_Train_need_stretch)]
noncomputable def theT : Tab where
  fns := [("_law_due", 460), ("_law_asked", 453), ("_law_mixed", 330), ("_law_whole", 323), ("_law_reach", 351), ("_law_cell_at", 316), ("_law_leads", 465), ("_law_done_by", 392), ("_law_word", 439), ("_law_deed_by", 406), ("_law_cells", 418), ("_law_built", 446), ("_law_class", 425), ("_law_mark", 368), ("_law_found", 361), ("_law_left", 378), ("_law_sold_by", 385), ("_law_told", 432), ("_law_stretch_by", 399), ("_law_laid", 413), ("_law_stops", 344), ("_law_seats", 337), ("_law_world", 373), ("_law_full", 356)]
  meths := [("load", 295), ("holder", 290), ("farthest", 283), ("need_leg", 168), ("need_seat", 161), ("leads", 189), ("reseat", 255), ("leave", 248), ("back", 243), ("sell", 236), ("mark", 208), ("found", 201), ("need_ticket", 182), ("row", 229), ("blocking", 194), ("need_stretch", 175)]
  init := 154
  bis := ["range", "len", "max", "min", "all", "list"]
  consts := [("MOST", .int 60)]
  attrs := ["held", "seats", "stops", "rides", "coming"]
  sets := ["held", "rides", "coming", "stops", "seats"]
  isis := ["bool", "int", "tuple", "ValueError", "NoText", "Shared", "Full", "NoTicket", "NoLeg", "NoStop", "NoSeat", "NoStretch", "NoTrain"]
  raises := ["NoStop", "NoLeg", "NoSeat", "NoTrain", "NoTicket", "Full", "NoStretch"]
  tries := true
  mks := true
noncomputable def theC : String → Addr
  | "Train" => 305
  | "SeatError" => 31
  | "NoTrain" => 44
  | "NoStretch" => 56
  | "NoSeat" => 68
  | "NoStop" => 80
  | "NoLeg" => 92
  | "NoTicket" => 104
  | "Full" => 116
  | "Shared" => 128
  | "NoText" => 140
  | _ => 0
end Mine
end
section
open PySem PySem.W PyProof.Rows
namespace Mine
noncomputable def theAs : List Addr := [2, 3, 15, 17, 18, 20, 21, 22, 29, 30, 31, 32, 35, 42, 43, 44, 47, 54, 55, 56, 59, 66, 67, 68, 71, 78, 79, 80, 83, 90, 91, 92, 95, 102, 103, 104, 107, 114, 115, 116, 119, 126, 127, 128, 131, 138, 139, 140, 150, 153, 154, 155, 157, 158, 160, 161, 162, 164, 165, 167, 168, 169, 171, 172, 174, 175, 176, 178, 179, 181, 182, 183, 185, 186, 188, 189, 190, 193, 194, 195, 197, 198, 200, 201, 202, 204, 205, 207, 208, 209, 211, 212, 214, 215, 216, 218, 219, 221, 222, 223, 225, 226, 228, 229, 230, 232, 233, 235, 236, 237, 239, 240, 242, 243, 244, 247, 248, 249, 251, 252, 254, 255, 256, 258, 259, 261, 262, 263, 265, 266, 268, 269, 270, 272, 273, 275, 276, 277, 279, 280, 282, 283, 284, 286, 287, 289, 290, 291, 294, 295, 296, 298, 299, 301, 302, 303, 304, 305, 306, 307, 310, 312, 313, 315, 316, 317, 319, 320, 322, 323, 324, 326, 327, 329, 330, 331, 333, 334, 336, 337, 338, 340, 341, 343, 344, 345, 347, 348, 350, 351, 352, 355, 356, 357, 360, 361, 362, 364, 365, 367, 368, 369, 372, 373, 374, 377, 378, 379, 381, 382, 384, 385, 386, 388, 389, 391, 392, 393, 395, 396, 398, 399, 400, 402, 403, 405, 406, 407, 409, 410, 412, 413, 414, 417, 418, 419, 421, 422, 424, 425, 426, 428, 429, 431, 432, 433, 435, 436, 438, 439, 440, 442, 443, 445, 446, 447, 449, 450, 452, 453, 454, 456, 457, 459, 460, 461, 464, 465, 466, 469, 470]
noncomputable def theH : Hook := lawHook theAs theC theT theP
set_option maxRecDepth 1000000 in
theorem top_seen : ∀ w : World, (fun os => (goT (stepOk 11 (some (.ref 6))) (stepT (denote treeTable) PySem.Challenge.pw_uf040032_03 w) 7842 ⟨bootTree w.params, 11, (boot_heap w.params).life, Array.mk [], boot_drawn, boot_toks, os⟩ (topStub PySem.Challenge.pw_uf040032_03)).map fun s₁ => theH.obs s₁.abs) = fun _ => some true := by
  intro w
  rw [PySem.W.Fast.te6613529449190102663, PySem.W.Fast.te10156331382660048174, PySem.W.Fast.te11892475500146522536, PySem.W.Fast.te14364793385576792824]
  kernel_rfl
theorem top_tree : ∀ w : World, absHeap (bootTree w.params) 11 (boot_heap w.params).life = boot_heap w.params := by
  intro w; kernel_rfl
theorem top_size : ∀ w : World, ((boot_heap w.params).isNs mainGlobals && (Array.mk ([] : List GenState)).size == 0, (boot_heap w.params).objs.size, (boot_heap w.params).nsMap mainGlobals "__annotations__") = (true, 11, some (.ref 6)) := by
  intro w; kernel_rfl
theorem top_open : ∀ w : World, (fencedOpening treeTable PySem.Challenge.pw_uf040032_03 w 7842).map (fun s => (s.heap, s.gens, s.drawn, s.toks)) = some (boot_heap w.params, Array.mk [], boot_drawn, boot_toks) :=
  boot_open (by kernel_rfl) rfl (fun s => by kernel_rfl)
theorem top_left : LeftO PySem.Challenge.pw_uf040032_03 theQ [] (fun s => xlAt theQ [] s && recOk [] s) theH.obs theH.val 7842 := left_of_tree top_open top_size top_tree top_run top_seen
set_option maxRecDepth 1000000 in
set_option maxHeartbeats 0 in
theorem law_said : OpenLaw.wellSaid PySem.Challenge.rw_uf040032_03 = true := by
  delta OpenLaw.wellSaid OpenRow.wellSaid OpenRow.partSaid looksOpen
  (repeat' with_reducible apply look_both) <;> decide +kernel
end Mine
end
section
set_option autoImplicit false
namespace Mine
/-! the train, with no program in sight -/
abbrev Grid := Int → Int → Option Int
abbrev Part := Int × Int × Int
noncomputable def markP (g : Grid) (p : Part) (k : Option Int) : Grid := fun s l => if s = p.1 ∧ p.2.1 ≤ l ∧ l < p.2.2 then k else g s l
noncomputable def marks (g : Grid) (ps : List Part) (k : Option Int) : Grid := ps.foldl (fun g p => markP g p k) g
noncomputable def leadF (g : Grid) (seat : Int) : Nat → Int → Int
  | 0, stop => stop
  | k + 1, stop => if (g seat stop).isNone then leadF g seat k (stop + 1) else stop
noncomputable def lead (g : Grid) (stops seat stop : Int) : Int := leadF g seat (stops - 1 - stop).toNat stop
noncomputable def bestN (g : Grid) (stops e at_ : Int) : Nat → Int × Int
  | 0 => (0, minI (lead g stops 0 at_) e)
  | k + 1 => let p := bestN g stops e at_ k; let th := minI (lead g stops ((k : Int) + 1) at_) e; if p.2 < th then ((k : Int) + 1, th) else p
noncomputable def foundF (g : Grid) (seats stops e : Int) : Nat → Int → List Part
  | 0, _ => []
  | k + 1, at_ => if at_ < e then let p := bestN g stops e at_ (seats - 1).toNat; (p.1, at_, p.2) :: foundF g seats stops e k p.2 else []

/-- a part covers a cell -/
noncomputable def Cov (p : Part) (s l : Int) : Prop := s = p.1 ∧ p.2.1 ≤ l ∧ l < p.2.2
noncomputable def Covs (ps : List Part) (s l : Int) : Prop := ∃ p ∈ ps, Cov p s l
theorem marks_in {k : Option Int} {s l : Int} : ∀ {ps : List Part} {g : Grid}, Covs ps s l → marks g ps k s l = k
  | p :: ps, g, ⟨q, hq, hc⟩ => by
    show marks (markP g p k) ps k s l = k
    by_cases h : Covs ps s l
    · exact marks_in h
    · have hn : ∀ {ps : List Part} {g : Grid}, ¬ Covs ps s l → marks g ps k s l = g s l := by
        intro ps; induction ps with
        | nil => intro g _; rfl
        | cons p ps ih =>
          intro g hn
          show marks (markP g p k) ps k s l = g s l
          rw [ih fun ⟨q, hq, hc⟩ => hn ⟨q, .tail _ hq, hc⟩]
          exact if_neg fun z => hn ⟨p, .head _, z⟩
      rw [hn h]
      rcases List.mem_cons.mp hq with rfl | hq
      · exact if_pos hc
      · exact absurd ⟨q, hq, hc⟩ h
theorem marks_out {k : Option Int} {s l : Int} : ∀ {ps : List Part} {g : Grid}, ¬ Covs ps s l → marks g ps k s l = g s l
  | [], _, _ => rfl
  | p :: ps, g, hn => by
    show marks (markP g p k) ps k s l = g s l
    rw [marks_out fun ⟨q, hq, hc⟩ => hn ⟨q, .tail _ hq, hc⟩]
    exact if_neg fun z => hn ⟨p, .head _, z⟩

/-! parts that go on from a stop to a stop -/
inductive Goes (seats : Int) : Int → List Part → Int → Prop
  | one {s b e : Int} (h0 : 0 ≤ s) (h1 : s < seats) (h2 : b < e) : Goes seats b [(s, b, e)] e
  | cons {s b m e : Int} {p : Part} {ps : List Part} (h0 : 0 ≤ s) (h1 : s < seats) (h2 : b < m) (hs : s ≠ p.1) (t : Goes seats m (p :: ps) e) : Goes seats b ((s, b, m) :: p :: ps) e
theorem Goes.lt {seats b e : Int} {ps : List Part} (h : Goes seats b ps e) : b < e := by
  induction h with
  | one _ _ h => exact h
  | cons _ _ h _ _ ih => omega
theorem Goes.ne {seats b e : Int} {ps : List Part} (h : Goes seats b ps e) : ps ≠ [] := by cases h <;> simp
theorem Goes.mem {seats b e : Int} {ps : List Part} (h : Goes seats b ps e) : ∀ p ∈ ps, 0 ≤ p.1 ∧ p.1 < seats ∧ b ≤ p.2.1 ∧ p.2.1 < p.2.2 ∧ p.2.2 ≤ e := by
  induction h with
  | one h0 h1 h2 => intro p hp; simp at hp; subst hp; exact ⟨h0, h1, by dsimp only; omega, h2, by dsimp only; omega⟩
  | cons h0 h1 h2 _ t ih =>
    intro p hp
    have := t.lt
    rcases List.mem_cons.mp hp with rfl | hp
    · exact ⟨h0, h1, by dsimp only; omega, h2, by dsimp only; omega⟩
    · obtain ⟨a, b, c, d, f⟩ := ih p hp
      exact ⟨a, b, by omega, d, f⟩
/-- a leg of the stretch lies in one part, and in one seat -/
theorem Goes.cov {seats b e : Int} {ps : List Part} (h : Goes seats b ps e) {s l : Int} (hc : Covs ps s l) : 0 ≤ s ∧ s < seats ∧ b ≤ l ∧ l < e := by
  obtain ⟨p, hp, rfl, h1, h2⟩ := hc
  obtain ⟨a, c, d, f, i⟩ := h.mem p hp
  omega

theorem leadF_ge {g : Grid} {seat : Int} : ∀ (k : Nat) (stop : Int), stop ≤ leadF g seat k stop ∧ leadF g seat k stop ≤ stop + k
  | 0, stop => by simp [leadF]
  | k + 1, stop => by
    have := leadF_ge (g := g) (seat := seat) k (stop + 1)
    unfold leadF; split <;> omega
theorem leadF_free {g : Grid} {seat : Int} : ∀ (k : Nat) (stop l : Int), stop ≤ l → l < leadF g seat k stop → g seat l = none
  | 0, stop, l, h1, h2 => by simp only [leadF] at h2; omega
  | k + 1, stop, l, h1, h2 => by
    unfold leadF at h2
    split at h2
    · rename_i q
      by_cases z : l = stop
      · subst z; simpa using q
      · exact leadF_free k (stop + 1) l (by omega) h2
    · omega
theorem leadF_stop {g : Grid} {seat : Int} : ∀ (k : Nat) (stop : Int), leadF g seat k stop < stop + k → g seat (leadF g seat k stop) ≠ none
  | 0, stop, h => by simp only [leadF] at h; omega
  | k + 1, stop, h => by
    unfold leadF at h ⊢
    split at h <;> rename_i q
    · rw [if_pos q]; exact leadF_stop k (stop + 1) (by omega)
    · rw [if_neg q]; intro z; rw [z] at q; simp at q
theorem lead_facts {g : Grid} {stops seat stop : Int} (h : stop ≤ stops - 1) : stop ≤ lead g stops seat stop ∧ lead g stops seat stop ≤ stops - 1 ∧ (∀ l, stop ≤ l → l < lead g stops seat stop → g seat l = none) ∧ (lead g stops seat stop < stops - 1 → g seat (lead g stops seat stop) ≠ none) := by
  have := leadF_ge (g := g) (seat := seat) (stops - 1 - stop).toNat stop
  unfold lead
  exact ⟨this.1, by omega, fun l => leadF_free _ _ l, fun q => leadF_stop _ _ (by omega)⟩

theorem bestN_facts {g : Grid} {stops e at_ : Int} (h1 : at_ < e) (h2 : e < stops) : ∀ k : Nat, (at_ ≤ (bestN g stops e at_ k).2 ∧ (bestN g stops e at_ k).2 ≤ e ∧ 0 ≤ (bestN g stops e at_ k).1 ∧ (bestN g stops e at_ k).1 ≤ k ∧ (bestN g stops e at_ k).2 = minI (lead g stops (bestN g stops e at_ k).1 at_) e) ∧
    ∀ i : Nat, i ≤ k → minI (lead g stops i at_) e ≤ (bestN g stops e at_ k).2
  | 0 => by
    have l0 := lead_facts (g := g) (seat := 0) (show at_ ≤ stops - 1 by omega)
    refine ⟨⟨?_, ?_, ?_, ?_, rfl⟩, fun i hi => ?_⟩
    · simp only [bestN, minI]; split <;> omega
    · simp only [bestN, minI]; split <;> omega
    · simp [bestN]
    · simp [bestN]
    · obtain rfl : i = 0 := by omega
      exact Int.le_refl _
  | k + 1 => by
    obtain ⟨⟨a, b, c, d, f⟩, ih⟩ := bestN_facts (g := g) h1 h2 k
    have l0 := lead_facts (g := g) (seat := (k : Int) + 1) (show at_ ≤ stops - 1 by omega)
    have m1 : at_ ≤ minI (lead g stops ((k : Int) + 1) at_) e ∧ minI (lead g stops ((k : Int) + 1) at_) e ≤ e := by unfold minI; split <;> omega
    unfold bestN
    dsimp only
    split
    · refine ⟨⟨m1.1, m1.2, by dsimp only; omega, by dsimp only; omega, rfl⟩, fun i hi => ?_⟩
      rcases Nat.lt_or_ge k i with q | q
      · obtain rfl : i = k + 1 := by omega
        exact Int.le_refl _
      · have := ih i q
        dsimp only; omega
    · refine ⟨⟨a, b, c, by omega, f⟩, fun i hi => ?_⟩
      rcases Nat.lt_or_ge k i with q | q
      · obtain rfl : i = k + 1 := by omega
        have : ((k + 1 : Nat) : Int) = (k : Int) + 1 := rfl
        rw [this]; omega
      · exact ih i q
theorem best_gt {g : Grid} {stops e at_ seat : Int} {k : Nat} (h1 : at_ < e) (h2 : e < stops) (h3 : 0 ≤ seat) (h4 : seat ≤ k) (hg : g seat at_ = none) : at_ < (bestN g stops e at_ k).2 := by
  have := (bestN_facts (g := g) h1 h2 k).2 seat.toNat (by omega)
  have e1 : ((seat.toNat : Nat) : Int) = seat := Int.toNat_of_nonneg h3
  rw [e1] at this
  obtain ⟨a, b, _, d⟩ := lead_facts (g := g) (seat := seat) (show at_ ≤ stops - 1 by omega)
  have l : at_ < lead g stops seat at_ := by
    by_cases z : lead g stops seat at_ = at_
    · rw [z] at d; exact absurd hg (d (by omega))
    · omega
  have m : at_ < minI (lead g stops seat at_) e := by unfold minI; split <;> omega
  omega

/-- what is found: from b to e, over free cells alone -/
theorem found_goes {g : Grid} {seats stops e : Int} (hs : 1 ≤ seats) (h2 : e < stops) : ∀ (N : Nat) (at_ : Int), 0 ≤ at_ → at_ < e → (e - at_).toNat ≤ N → (∀ l, at_ ≤ l → l < e → ∃ s, 0 ≤ s ∧ s < seats ∧ g s l = none) →
    Goes seats at_ (foundF g seats stops e N at_) e ∧ ∀ s l, Covs (foundF g seats stops e N at_) s l → g s l = none
  | 0, at_, _, h1, hN, _ => by omega
  | N + 1, at_, h0, h1, hN, hf => by
    obtain ⟨s, s0, s1, sg⟩ := hf at_ (Int.le_refl _) h1
    have bf := (bestN_facts (g := g) h1 h2 (seats - 1).toNat).1
    have bg := best_gt (k := (seats - 1).toNat) h1 h2 s0 (by omega) sg
    have lf := lead_facts (g := g) (seat := (bestN g stops e at_ (seats - 1).toNat).1) (show at_ ≤ stops - 1 by omega)
    unfold foundF
    rw [if_pos h1]
    dsimp only
    generalize hb : bestN g stops e at_ (seats - 1).toNat = p at bf bg lf
    obtain ⟨ps, pt⟩ := p
    dsimp only at bf bg lf ⊢
    have free : ∀ l, at_ ≤ l → l < pt → g ps l = none := fun l q1 q2 => lf.2.2.1 l q1 (by have := bf.2.2.2.2; unfold minI at this; split at this <;> omega)
    by_cases q : pt < e
    · obtain ⟨ih1, ih2⟩ := found_goes hs h2 N pt (by omega) q (by omega) fun l q1 q2 => hf l (by omega) q2
      refine ⟨?_, fun s l ⟨x, hx, hc⟩ => ?_⟩
      · generalize hr : foundF g seats stops e N pt = r at ih1 ih2 ⊢
        cases r with
        | nil => exact absurd rfl ih1.ne
        | cons y ys =>
          refine .cons bf.2.2.1 (by omega) bg ?_ ih1
          intro z
          -- the seat is held at pt
          have hpt : lead g stops ps at_ = pt := by have := bf.2.2.2.2; unfold minI at this; split at this <;> omega
          have hne := lf.2.2.2 (by omega)
          rw [hpt] at hne
          have : Covs (y :: ys) y.1 y.2.1 := ⟨y, .head _, rfl, Int.le_refl _, (ih1.mem y (.head _)).2.2.2.1⟩
          have hy := ih2 _ _ this
          have hb0 : y.2.1 = pt := by cases ih1 <;> rfl
          rw [← z, hb0] at hy
          exact hne hy
      · rcases List.mem_cons.mp hx with rfl | hx
        · obtain ⟨rfl, c1, c2⟩ := hc; exact free l c1 c2
        · exact ih2 s l ⟨x, hx, hc⟩
    · have hpe : pt = e := by omega
      subst hpe
      have hnil : foundF g seats stops pt N pt = [] := by cases N <;> simp [foundF]
      rw [hnil]
      exact ⟨.one bf.2.2.1 (by omega) bg, fun s l ⟨x, hx, hc⟩ => by simp at hx; subst hx; obtain ⟨rfl, c1, c2⟩ := hc; exact free l c1 c2⟩
end Mine
end
section
set_option autoImplicit false
namespace Mine
abbrev Rides := List (Int × List Part)
noncomputable def rSet (R : Rides) (k : Int) (ps : List Part) : Rides := R.map fun x => if x.1 = k then (k, ps) else x
noncomputable def rDel (R : Rides) (k : Int) : Rides := R.filter fun x => decide (x.1 ≠ k)
/-- the books are right -/
structure Inv (seats stops coming : Int) (R : Rides) (g : Grid) : Prop where
  asc : R.Pairwise fun x y => x.1 < y.1
  rng : ∀ x ∈ R, 0 ≤ x.1 ∧ x.1 < coming
  goes : ∀ x ∈ R, ∃ b e, 0 ≤ b ∧ e ≤ stops - 1 ∧ Goes seats b x.2 e
  cov : ∀ s l k, 0 ≤ s → s < seats → 0 ≤ l → l < stops - 1 → (g s l = some k ↔ ∃ ps, (k, ps) ∈ R ∧ Covs ps s l)
section
variable {seats stops coming : Int} {R : Rides} {g : Grid}
theorem inv_init : Inv seats stops 0 [] fun _ _ => none :=
  ⟨.nil, fun _ h => (by cases h), fun _ h => (by cases h), fun s l k _ _ _ _ => ⟨fun h => (by cases h), fun ⟨_, h, _⟩ => (by cases h)⟩⟩
theorem asc_unique (h : R.Pairwise fun x y => x.1 < y.1) {k : Int} {a b : List Part} (ha : (k, a) ∈ R) (hb : (k, b) ∈ R) : a = b := by
  induction h with
  | nil => cases ha
  | @cons x r hx t ih =>
    rcases List.mem_cons.mp ha with e1 | ha' <;> rcases List.mem_cons.mp hb with e2 | hb'
    · rw [← e1] at e2; cases e2; rfl
    · have := hx _ hb'; rw [← e1] at this; exact absurd this (Int.lt_irrefl _)
    · have := hx _ ha'; rw [← e2] at this; exact absurd this (Int.lt_irrefl _)
    · exact ih ha' hb'
theorem mem_rSet {k : Int} {ps : List Part} {x : Int × List Part} : x ∈ rSet R k ps ↔ (x.1 ≠ k ∧ x ∈ R) ∨ (x = (k, ps) ∧ ∃ q, (k, q) ∈ R) := by
  unfold rSet
  rw [List.mem_map]
  constructor
  · rintro ⟨y, hy, e⟩
    by_cases h : y.1 = k
    · rw [if_pos h] at e; exact .inr ⟨e.symm, y.2, by rw [← h]; exact hy⟩
    · rw [if_neg h] at e; exact .inl ⟨e ▸ h, e ▸ hy⟩
  · rintro (⟨h, hx⟩ | ⟨rfl, q, hq⟩)
    · exact ⟨x, hx, if_neg h⟩
    · exact ⟨(k, q), hq, if_pos rfl⟩
theorem mem_rDel {k : Int} {x : Int × List Part} : x ∈ rDel R k ↔ x.1 ≠ k ∧ x ∈ R := by
  unfold rDel
  rw [List.mem_filter]
  exact ⟨fun h => ⟨of_decide_eq_true h.2, h.1⟩, fun h => ⟨h.2, decide_eq_true h.1⟩⟩
theorem asc_rSet {k : Int} {ps : List Part} (h : R.Pairwise fun x y => x.1 < y.1) : (rSet R k ps).Pairwise fun x y => x.1 < y.1 := by
  have key : ∀ x : Int × List Part, (if x.1 = k then (k, ps) else x).1 = x.1 := fun x => by split <;> simp_all
  unfold rSet
  rw [List.pairwise_map]
  exact h.imp fun {a b} q => by rw [key, key]; exact q
/-- two rides share no cell -/
theorem Inv.apart (I : Inv seats stops coming R g) {k j : Int} {a b : List Part} (ha : (k, a) ∈ R) (hb : (j, b) ∈ R) {s l : Int} (h1 : Covs a s l) (h2 : Covs b s l) : k = j := by
  obtain ⟨b0, e0, h0, he, G⟩ := I.goes _ ha
  obtain ⟨q1, q2, q3, q4⟩ := G.cov h1
  have x := (I.cov s l k q1 q2 (by omega) (by omega)).mpr ⟨a, ha, h1⟩
  have y := (I.cov s l j q1 q2 (by omega) (by omega)).mpr ⟨b, hb, h2⟩
  rw [x] at y; cases y; rfl

theorem inv_sell (I : Inv seats stops coming R g) (hc : 0 ≤ coming) {b e : Int} {ps : List Part} (G : Goes seats b ps e) (h0 : 0 ≤ b) (he : e ≤ stops - 1) (hf : ∀ s l, Covs ps s l → g s l = none) :
    Inv seats stops (coming + 1) (R ++ [(coming, ps)]) (marks g ps (some coming)) := by
  refine ⟨?_, fun x hx => ?_, fun x hx => ?_, fun s l k s0 s1 l0 l1 => ?_⟩
  · rw [List.pairwise_append]
    exact ⟨I.asc, List.pairwise_singleton _ _, fun a ha b hb => by rw [List.mem_singleton] at hb; subst hb; exact (I.rng a ha).2⟩
  · rcases List.mem_append.mp hx with hx | hx
    · have := I.rng x hx; omega
    · rw [List.mem_singleton] at hx; subst hx; dsimp only; omega
  · rcases List.mem_append.mp hx with hx | hx
    · exact I.goes x hx
    · rw [List.mem_singleton] at hx; subst hx; exact ⟨b, e, h0, he, G⟩
  · by_cases h : Covs ps s l
    · rw [marks_in h]
      constructor
      · intro q; cases q; exact ⟨ps, by simp, h⟩
      · rintro ⟨qs, hm, hq⟩
        rcases List.mem_append.mp hm with hm | hm
        · have := (I.cov s l k s0 s1 l0 l1).mpr ⟨qs, hm, hq⟩
          rw [hf s l h] at this; cases this
        · rw [List.mem_singleton] at hm; cases hm; rfl
    · rw [marks_out h, I.cov s l k s0 s1 l0 l1]
      constructor
      · rintro ⟨qs, hm, hq⟩; exact ⟨qs, List.mem_append_left _ hm, hq⟩
      · rintro ⟨qs, hm, hq⟩
        rcases List.mem_append.mp hm with hm | hm
        · exact ⟨qs, hm, hq⟩
        · rw [List.mem_singleton] at hm; cases hm; exact absurd hq h

theorem inv_back (I : Inv seats stops coming R g) {k : Int} {ps : List Part} (hk : (k, ps) ∈ R) : Inv seats stops coming (rDel R k) (marks g ps none) := by
  refine ⟨I.asc.filter _, fun x hx => I.rng x (mem_rDel.mp hx).2, fun x hx => I.goes x (mem_rDel.mp hx).2, fun s l j s0 s1 l0 l1 => ?_⟩
  by_cases h : Covs ps s l
  · rw [marks_in h]
    refine ⟨fun q => (by cases q), fun ⟨qs, hm, hq⟩ => ?_⟩
    obtain ⟨h1, h2⟩ := mem_rDel.mp hm
    exact absurd (I.apart h2 hk hq h) h1
  · rw [marks_out h, I.cov s l j s0 s1 l0 l1]
    constructor
    · rintro ⟨qs, hm, hq⟩
      refine ⟨qs, mem_rDel.mpr ⟨fun z => ?_, hm⟩, hq⟩
      dsimp only at z
      subst z
      rw [asc_unique I.asc hm hk] at hq
      exact h hq
    · rintro ⟨qs, hm, hq⟩; exact ⟨qs, (mem_rDel.mp hm).2, hq⟩

/-- one ride's parts exchanged for others: what is let go is cleared, what is new was free -/
theorem inv_set (I : Inv seats stops coming R g) {k b e : Int} {ps qs : List Part} {g' : Grid} (hk : (k, ps) ∈ R) (G : Goes seats b qs e) (h0 : 0 ≤ b) (he : e ≤ stops - 1)
    (h1 : ∀ s l, Covs qs s l → g' s l = some k) (h2 : ∀ s l, Covs ps s l → ¬ Covs qs s l → g' s l = none) (h3 : ∀ s l, ¬ Covs ps s l → ¬ Covs qs s l → g' s l = g s l) (h4 : ∀ s l, Covs qs s l → ¬ Covs ps s l → g s l = none) : Inv seats stops coming (rSet R k qs) g' := by
  refine ⟨asc_rSet I.asc, fun x hx => ?_, fun x hx => ?_, fun s l j s0 s1 l0 l1 => ?_⟩
  · rcases mem_rSet.mp hx with ⟨_, hx⟩ | ⟨rfl, q, hq⟩
    · exact I.rng x hx
    · exact I.rng (k, q) hq
  · rcases mem_rSet.mp hx with ⟨_, hx⟩ | ⟨rfl, q, hq⟩
    · exact I.goes x hx
    · exact ⟨b, e, h0, he, G⟩
  · constructor
    · intro hg
      by_cases hq : Covs qs s l
      · rw [h1 s l hq] at hg; cases hg
        exact ⟨qs, mem_rSet.mpr (.inr ⟨rfl, ps, hk⟩), hq⟩
      · by_cases hp : Covs ps s l
        · rw [h2 s l hp hq] at hg; cases hg
        · rw [h3 s l hp hq] at hg
          obtain ⟨rs, hm, hr⟩ := (I.cov s l j s0 s1 l0 l1).mp hg
          refine ⟨rs, mem_rSet.mpr (.inl ⟨fun z => ?_, hm⟩), hr⟩
          dsimp only at z
          subst z
          rw [asc_unique I.asc hm hk] at hr
          exact hp hr
    · rintro ⟨rs, hm, hr⟩
      rcases mem_rSet.mp hm with ⟨hj, hm⟩ | ⟨q, _⟩
      · have hp : ¬ Covs ps s l := fun hp => hj (I.apart hm hk hr hp)
        have hg := (I.cov s l j s0 s1 l0 l1).mpr ⟨rs, hm, hr⟩
        have hq : ¬ Covs qs s l := fun hq => by rw [h4 s l hq hp] at hg; cases hg
        rw [h3 s l hp hq]; exact hg
      · cases q; exact h1 s l hr

/-! leaving: what is kept, what is let go -/
noncomputable def goneL (ps : List Part) (stop : Int) : List Part := (ps.filter fun p => decide (stop < p.2.2)).map fun p => (p.1, (if p.2.1 < stop then stop else p.2.1), p.2.2)
noncomputable def keepL (ps : List Part) (stop : Int) : List Part := (ps.filter fun p => decide (p.2.1 < stop)).map fun p => (p.1, p.2.1, (if stop < p.2.2 then stop else p.2.2))
theorem covs_gone {ps : List Part} {stop s l : Int} : Covs (goneL ps stop) s l ↔ Covs ps s l ∧ stop ≤ l := by
  unfold goneL Covs Cov
  constructor
  · rintro ⟨p, hp, h1, h2, h3⟩
    obtain ⟨q, hq, rfl⟩ := List.mem_map.mp hp
    obtain ⟨hq, _⟩ := List.mem_filter.mp hq
    dsimp only at h1 h2 h3
    split at h2
    · exact ⟨⟨q, hq, h1, by omega, h3⟩, h2⟩
    · exact ⟨⟨q, hq, h1, h2, h3⟩, by omega⟩
  · rintro ⟨⟨q, hq, h1, h2, h3⟩, h4⟩
    refine ⟨_, List.mem_map.mpr ⟨q, List.mem_filter.mpr ⟨hq, decide_eq_true (by omega)⟩, rfl⟩, h1, ?_, h3⟩
    dsimp only; split <;> omega
theorem covs_keep {ps : List Part} {stop s l : Int} : Covs (keepL ps stop) s l ↔ Covs ps s l ∧ l < stop := by
  unfold keepL Covs Cov
  constructor
  · rintro ⟨p, hp, h1, h2, h3⟩
    obtain ⟨q, hq, rfl⟩ := List.mem_map.mp hp
    obtain ⟨hq, _⟩ := List.mem_filter.mp hq
    dsimp only at h1 h2 h3
    split at h3
    · exact ⟨⟨q, hq, h1, h2, by omega⟩, h3⟩
    · exact ⟨⟨q, hq, h1, h2, h3⟩, by omega⟩
  · rintro ⟨⟨q, hq, h1, h2, h3⟩, h4⟩
    refine ⟨_, List.mem_map.mpr ⟨q, List.mem_filter.mpr ⟨hq, decide_eq_true (by omega)⟩, rfl⟩, h1, h2, ?_⟩
    dsimp only; split <;> omega
theorem keep_nil {b e stop : Int} {ps : List Part} (G : Goes seats b ps e) (h : stop ≤ b) : keepL ps stop = [] := by
  unfold keepL
  rw [List.filter_eq_nil_iff.mpr fun p hp => by have := (G.mem p hp).2.2.1; simp; omega]
  rfl
theorem goes_keep {b e stop : Int} {ps : List Part} (G : Goes seats b ps e) (h1 : b < stop) (h2 : stop ≤ e) : Goes seats b (keepL ps stop) stop := by
  induction G with
  | @one s b e q0 q1 q2 =>
    have : keepL [(s, b, e)] stop = [(s, b, stop)] := by
      unfold keepL
      rw [List.filter_cons_of_pos (by simpa using h1)]
      simp only [List.filter_nil, List.map_cons, List.map_nil]
      congr 3
      split <;> omega
    rw [this]; exact .one q0 q1 h1
  | @cons s b m e p ps q0 q1 q2 hs t ih =>
    have e1 : keepL ((s, b, m) :: p :: ps) stop = (s, b, if stop < m then stop else m) :: keepL (p :: ps) stop := by
      unfold keepL
      rw [List.filter_cons_of_pos (by simpa using h1), List.map_cons]
    rw [e1]
    by_cases hm : m < stop
    · rw [if_neg (by omega)]
      have ih := ih hm h2
      have hp : p.2.1 = m := by cases t <;> rfl
      have e2 : keepL (p :: ps) stop = (p.1, p.2.1, if stop < p.2.2 then stop else p.2.2) :: keepL ps stop := by
        unfold keepL
        rw [List.filter_cons_of_pos (by simp; omega), List.map_cons]
      rw [e2] at ih ⊢
      exact .cons q0 q1 q2 hs ih
    · rw [keep_nil t (by omega)]
      have : (if stop < m then stop else m) = stop := by split <;> omega
      rw [this]
      exact .one q0 q1 h1

theorem inv_leave (I : Inv seats stops coming R g) {k b e stop : Int} {ps : List Part} (hk : (k, ps) ∈ R) (G : Goes seats b ps e) (h1 : b < stop) (h2 : stop < e) :
    Inv seats stops coming (rSet R k (keepL ps stop)) (marks g (goneL ps stop) none) := by
  obtain ⟨b', e', h0, he, G'⟩ := I.goes _ hk
  have hb : b = b' := by cases G <;> cases G' <;> rfl
  subst hb
  refine inv_set I hk (goes_keep G h1 (by omega)) h0 (?_ : stop ≤ stops - 1) (fun s l hq => ?_) (fun s l hp hq => ?_) (fun s l hp hq => ?_) fun s l hq hp => ?_
  · -- the stretch's end lies before the last stop
    have : ∃ s, Covs ps s stop := by
      clear hk G' h0
      induction G with
      | @one s b e _ _ _ => exact ⟨s, _, .head _, rfl, by dsimp only; omega, h2⟩
      | @cons s b m e p ps _ _ q2 _ t ih =>
        by_cases hm : stop < m
        · exact ⟨s, _, .head _, rfl, by dsimp only; omega, hm⟩
        · by_cases hm' : m = stop
          · subst hm'
            have hp : p.2.1 = m := by cases t <;> rfl
            exact ⟨p.1, p, .tail _ (.head _), rfl, by omega, by have := (t.mem p (.head _)).2.2.2.1; omega⟩
          · obtain ⟨x, y, hy, hc⟩ := ih (by omega) h2
            exact ⟨x, y, .tail _ hy, hc⟩
    obtain ⟨s, hs⟩ := this
    have := (G'.cov hs).2.2.2
    omega
  · obtain ⟨hp, hl⟩ := covs_keep.mp hq
    rw [marks_out fun z => by have := (covs_gone.mp z).2; omega]
    obtain ⟨q1, q2, q3, q4⟩ := G'.cov hp
    exact (I.cov s l k q1 q2 (by omega) (by omega)).mpr ⟨ps, hk, hp⟩
  · exact marks_in (covs_gone.mpr ⟨hp, by have : ¬ l < stop := fun z => hq (covs_keep.mpr ⟨hp, z⟩); omega⟩)
  · exact marks_out fun z => hp (covs_gone.mp z).1
  · exact absurd (covs_keep.mp hq).1 hp

theorem inv_reseat (I : Inv seats stops coming R g) (hs : 1 ≤ seats) {k b e : Int} {ps : List Part} (hk : (k, ps) ∈ R) (G : Goes seats b ps e) (h0 : 0 ≤ b) (he : e ≤ stops - 1) {qs : List Part} (hq : qs = foundF (marks g ps none) seats stops e (e - b).toNat b) :
    Goes seats b qs e ∧ Inv seats stops coming (rSet R k qs) (marks (marks g ps none) qs (some k)) := by
  have hfree : ∀ l, b ≤ l → l < e → ∃ s, 0 ≤ s ∧ s < seats ∧ marks g ps none s l = none := by
    intro l q1 q2
    have : ∃ s, Covs ps s l := by
      clear hk hq I he h0
      induction G with
      | @one s b e _ _ _ => exact ⟨s, _, .head _, rfl, q1, q2⟩
      | @cons s b m e p ps _ _ _ _ t ih =>
        by_cases hm : l < m
        · exact ⟨s, _, .head _, rfl, q1, hm⟩
        · obtain ⟨x, y, hy, hc⟩ := ih (by omega) q2
          exact ⟨x, y, .tail _ hy, hc⟩
    obtain ⟨s, hc⟩ := this
    obtain ⟨c1, c2, _, _⟩ := G.cov hc
    exact ⟨s, c1, c2, marks_in hc⟩
  obtain ⟨G', hfr⟩ := found_goes (g := marks g ps none) hs (show e < stops by omega) (e - b).toNat b h0 G.lt (Nat.le_refl _) hfree
  rw [← hq] at G' hfr
  refine ⟨G', inv_set I hk G' h0 he (fun s l h => marks_in h) (fun s l hp hn => ?_) (fun s l hp hn => ?_) fun s l h hp => ?_⟩
  · rw [marks_out hn]; exact marks_in hp
  · rw [marks_out hn]; exact marks_out hp
  · have := hfr s l h
    rw [marks_out hp] at this; exact this
end
end Mine
end
section
set_option autoImplicit false
namespace Mine
/-- the best seat is the first that leads so far -/
theorem bestN_first {g : Grid} {stops e at_ : Int} (h1 : at_ < e) (h2 : e < stops) : ∀ (k i : Nat), (i : Int) < (bestN g stops e at_ k).1 → minI (lead g stops i at_) e < (bestN g stops e at_ k).2
  | 0, i, h => by simp only [bestN] at h; omega
  | k + 1, i, h => by
    have bf := bestN_facts (g := g) h1 h2 k
    unfold bestN at h ⊢
    dsimp only at h ⊢
    split at h <;> rename_i q
    · rw [if_pos q]
      dsimp only at h ⊢
      have := bf.2 i (by omega)
      omega
    · rw [if_neg q]
      exact bestN_first h1 h2 k i h
/-- the row found, part by part, as the law looks at it -/
inductive Firsts (g : Grid) (seats stops e : Int) : Int → List Part → Prop
  | nil : Firsts g seats stops e e []
  | cons {at_ s m : Int} {ps : List Part} (hs0 : 0 ≤ s) (hs1 : s < seats) (hlt : at_ < m) (hle : m ≤ e) (hm : m = minI (lead g stops s at_) e) (hmax : ∀ i : Nat, (i : Int) < seats → minI (lead g stops i at_) e ≤ m) (hfst : ∀ i : Nat, (i : Int) < s → minI (lead g stops i at_) e < m) (t : Firsts g seats stops e m ps) : Firsts g seats stops e at_ ((s, at_, m) :: ps)
theorem found_firsts {g : Grid} {seats stops e : Int} (hs : 1 ≤ seats) (h2 : e < stops) : ∀ (N : Nat) (at_ : Int), 0 ≤ at_ → at_ ≤ e → (e - at_).toNat ≤ N → (∀ l, at_ ≤ l → l < e → ∃ s, 0 ≤ s ∧ s < seats ∧ g s l = none) → Firsts g seats stops e at_ (foundF g seats stops e N at_)
  | 0, at_, _, h1, hN, _ => by
    have : at_ = e := by omega
    subst this; exact .nil
  | N + 1, at_, h0, h1, hN, hf => by
    unfold foundF
    split
    · rename_i q
      obtain ⟨s, s0, s1, sg⟩ := hf at_ (Int.le_refl _) q
      have bf := bestN_facts (g := g) q h2 (seats - 1).toNat
      have bg := best_gt (k := (seats - 1).toNat) q h2 s0 (by omega) sg
      have b1 := bestN_first (g := g) q h2 (seats - 1).toNat
      dsimp only
      exact .cons bf.1.2.2.1 (by omega) bg bf.1.2.1 bf.1.2.2.2.2 (fun i hi => bf.2 i (by omega)) b1 (found_firsts hs h2 N _ (by omega) bf.1.2.1 (by omega) fun l q1 q2 => hf l (by omega) q2)
    · have : at_ = e := by omega
      subst this; exact .nil
end Mine
end
section
set_option autoImplicit false
set_option linter.unusedVariables false
namespace Mine
open PySem
theorem MH.set_selfE (H : MH) (a : Addr) (k : MObj) : H.set a k a = some k := if_pos rfl
theorem MH.set_neE (H : MH) {a b : Addr} (k : MObj) (h : b ≠ a) : H.set a k b = H b := if_neg h
theorem Sto.gets (ρ : Sto) (x : String) (v : MV) : Sto.set ρ x v x = some v := if_pos rfl
theorem Sto.gn {ρ : Sto} {x : String} {v : MV} {y : String} {w : MV} (h : decide (y = x) = false) (k : ρ y = some w) : Sto.set ρ x v y = some w := (if_neg (of_decide_eq_false h)).trans k
/-! ## ranges -/
theorem rangeL_nil {a b c : Int} (hc : 0 < c) (h : b ≤ a) : rangeL a b c = [] := by
  have h0 : Builtin.Range.rangeSize a b c = 0 := by
    simp only [Builtin.Range.rangeSize]
    rw [if_pos hc, if_neg (by omega)]
  simp [rangeL, h0]
theorem rangeL_cons {a b c : Int} (hc : 0 < c) (h : a < b) : rangeL a b c = a :: rangeL (a + c) b c := by
  have h1 : (Builtin.Range.rangeSize a b c).toNat = (Builtin.Range.rangeSize (a + c) b c).toNat + 1 := by
    simp only [Builtin.Range.rangeSize]
    rw [if_pos hc, if_pos h, if_pos hc]
    split
    · rename_i q
      have e : (b - a - 1) = (b - (a + c) - 1) + c * 1 := by omega
      rw [e, Int.add_mul_ediv_left _ _ (by omega)]
      have : 0 ≤ (b - (a + c) - 1) / c := Int.ediv_nonneg (by omega) (by omega)
      omega
    · have : (b - a - 1) / c = 0 := Int.ediv_eq_zero_of_lt (by omega) (by omega)
      rw [this]; rfl
  simp only [rangeL, h1, List.range_succ_eq_map, List.map_cons, List.map_map]
  congr 1
  · simp
  · apply List.map_congr_left
    intro k _
    simp only [Function.comp]
    rw [Int.natCast_succ, Int.mul_add, Int.mul_one]
    omega
theorem rangeL_mem {a b c x : Int} (hc : 0 < c) (h : x ∈ rangeL a b c) : a ≤ x ∧ x < b := by
  generalize hn : (b - a).toNat = n
  induction n using Nat.strongRecOn generalizing a with
  | ind n ih =>
    by_cases q : a < b
    · rw [rangeL_cons hc q] at h
      cases h with
      | head => omega
      | tail _ h =>
        have := ih (b - (a + c)).toNat (by omega) h rfl
        omega
    · rw [rangeL_nil hc (by omega)] at h; cases h
theorem rangeL_len1 {a b : Int} : (rangeL a b 1).length = (b - a).toNat := by
  generalize hn : (b - a).toNat = n
  induction n generalizing a with
  | zero => rw [rangeL_nil (by omega) (by omega)]; rfl
  | succ n ih => rw [rangeL_cons (by omega) (by omega), List.length_cons, ih (a := a + 1) (by omega)]

/-! ## expressions that leave the heap as it is -/
noncomputable def Ev (Δ : CallT) (hd : Bool) (e : ME) (ρ : Sto) (H : MH) (v : MV) : Prop := ∀ (Q : MV → MH → Prop) (X : String → MH → Prop), Q v H → wE Δ hd e ρ H Q X
noncomputable def Evs (Δ : CallT) (hd : Bool) (e : MEs) (ρ : Sto) (H : MH) (v : List MV) : Prop := ∀ (Q : List MV → MH → Prop) (X : String → MH → Prop), Q v H → wEs Δ hd e ρ H Q X
noncomputable def EvA (Δ : CallT) (hd : Bool) (e : MEs) (ρ : Sto) (H : MH) (b : Bool) : Prop := ∀ (Q : MV → MH → Prop) (X : String → MH → Prop), Q (.bool b) H → wAnd Δ hd e ρ H Q X
noncomputable def EvO (Δ : CallT) (hd : Bool) (e : MEs) (ρ : Sto) (H : MH) (b : Bool) : Prop := ∀ (Q : MV → MH → Prop) (X : String → MH → Prop), Q (.bool b) H → wOr Δ hd e ρ H Q X
noncomputable def EvC (Δ : CallT) (hd : Bool) (e : MCs) (a : MV) (ρ : Sto) (H : MH) (b : Bool) : Prop := ∀ (Q : MV → MH → Prop) (X : String → MH → Prop), Q (.bool b) H → wC Δ hd e a ρ H Q X
section
variable {Δ : CallT} {hd : Bool} {ρ : Sto} {H : MH}
theorem Ev.var {x : String} {v : MV} (h : ρ x = some v) : Ev Δ hd (.var x) ρ H v := fun Q X q => ⟨v, h, q⟩
theorem Ev.none : Ev Δ hd .none ρ H .none := fun Q X q => q
theorem Ev.int {i : Int} : Ev Δ hd (.int i) ρ H (.int i) := fun Q X q => q
theorem Ev.bool {i : Bool} : Ev Δ hd (.bool i) ρ H (.bool i) := fun Q X q => q
theorem Ev.str {i : String} : Ev Δ hd (.str i) ρ H (.str (Str.ofString i)) := fun Q X q => q
theorem Ev.gconst {x : String} {v : MV} : Ev Δ hd (.gconst x v) ρ H v := fun Q X q => q
theorem Ev.add {l r : ME} {a b : Int} (hl : Ev Δ hd l ρ H (.int a)) (hr : Ev Δ hd r ρ H (.int b)) : Ev Δ hd (.bin .add l r) ρ H (.int (a + b)) := fun Q X q => hl _ X (hr _ X (.add q))
theorem Ev.sub {l r : ME} {a b : Int} (hl : Ev Δ hd l ρ H (.int a)) (hr : Ev Δ hd r ρ H (.int b)) : Ev Δ hd (.bin .sub l r) ρ H (.int (a - b)) := fun Q X q => hl _ X (hr _ X (.sub q))
theorem Ev.mul {l r : ME} {a b : Int} (hl : Ev Δ hd l ρ H (.int a)) (hr : Ev Δ hd r ρ H (.int b)) (h : mulOk a b) : Ev Δ hd (.bin .mul l r) ρ H (.int (a * b)) := fun Q X q => hl _ X (hr _ X (.mul h q))
theorem Ev.fdiv {l r : ME} {a b : Int} (hl : Ev Δ hd l ρ H (.int a)) (hr : Ev Δ hd r ρ H (.int b)) (h : b ≠ 0) (h2 : b.natAbs < 1073741824) : Ev Δ hd (.bin .fdiv l r) ρ H (.int (a.fdiv b)) := fun Q X q => hl _ X (hr _ X (.fdiv h h2 q))
theorem Ev.mod {l r : ME} {a b : Int} (hl : Ev Δ hd l ρ H (.int a)) (hr : Ev Δ hd r ρ H (.int b)) (h : b ≠ 0) : Ev Δ hd (.bin .mod l r) ρ H (.int (a.fmod b)) := fun Q X q => hl _ X (hr _ X (.mod h q))
theorem Ev.neg {e : ME} {a : Int} (he : Ev Δ hd e ρ H (.int a)) : Ev Δ hd (.neg e) ρ H (.int (-a)) := fun Q X q => he _ X ⟨a, rfl, q⟩
theorem Ev.not {e : ME} {b : Bool} (he : Ev Δ hd e ρ H (.bool b)) : Ev Δ hd (.not e) ρ H (.bool (!b)) := fun Q X q => he _ X q
theorem Ev.attr {e : ME} {f : String} {a : Addr} {fs : List (String × MV)} {x : MV} (he : Ev Δ hd e ρ H (.ref a)) (ha : H a = some (.inst fs)) (hf : fsGet fs f = some x) : Ev Δ hd (.attr e f) ρ H x := fun Q X q => he _ X ⟨x, .mk ha hf, q⟩
theorem Ev.item {e i : ME} {a : Addr} {k : Int} {vs : List MV} {x : MV} (he : Ev Δ hd e ρ H (.ref a)) (hi : Ev Δ hd i ρ H (.int k)) (ha : H a = some (.lst vs)) (hx : atIdx vs k = some x) : Ev Δ hd (.sub e i) ρ H x := fun Q X q => he _ X (hi _ X ⟨x, .lst (.inl ha) hx, q⟩)
theorem Ev.itemR {e i : ME} {a : Addr} {k : Int} {vs : List MV} {x : MV} (he : Ev Δ hd e ρ H (.ref a)) (hi : Ev Δ hd i ρ H (.int k)) (ha : H a = some (.ro vs)) (hx : atIdx vs k = some x) : Ev Δ hd (.sub e i) ρ H x := fun Q X q => he _ X (hi _ X ⟨x, .lst (.inr ha) hx, q⟩)
theorem Ev.itemT {e i : ME} {k : Int} {vs : List MV} {x : MV} (he : Ev Δ hd e ρ H (.tup vs)) (hi : Ev Δ hd i ρ H (.int k)) (hx : atIdx vs k = some x) : Ev Δ hd (.sub e i) ρ H x := fun Q X q => he _ X (hi _ X ⟨x, .tup hx, q⟩)
theorem Ev.itemD {e i : ME} {a : Addr} {k : Int} {es : List (Int × MV)} {x : MV} (he : Ev Δ hd e ρ H (.ref a)) (hi : Ev Δ hd i ρ H (.int k)) (ha : H a = some (.dct es)) (hx : dGet es k = some x) : Ev Δ hd (.sub e i) ρ H x := fun Q X q => he _ X (hi _ X ⟨x, .dct ha hx, q⟩)
theorem Ev.tup {es : MEs} {vs : List MV} (h : Evs Δ hd es ρ H vs) : Ev Δ hd (.tup es) ρ H (.tup vs) := fun Q X q => h _ X q
theorem Ev.isi {e : ME} {t : String} {v : MV} {b : Bool} (he : Ev Δ hd e ρ H v) (h : IsiR H v t b) : Ev Δ hd (.isinst e t) ρ H (.bool b) := fun Q X q => he _ X ⟨b, h, q⟩
theorem Ev.lenL {e : ME} {a : Addr} {vs : List MV} (he : Ev Δ hd e ρ H (.ref a)) (ha : H a = some (.lst vs)) : Ev Δ hd (.bi "len" (.cons e .nil)) ρ H (.int vs.length) := fun Q X q => he _ X (.lenL (.inl ha) q)
theorem Ev.lenR {e : ME} {a : Addr} {vs : List MV} (he : Ev Δ hd e ρ H (.ref a)) (ha : H a = some (.ro vs)) : Ev Δ hd (.bi "len" (.cons e .nil)) ρ H (.int vs.length) := fun Q X q => he _ X (.lenL (.inr ha) q)
theorem Ev.lenT {e : ME} {vs : List MV} (he : Ev Δ hd e ρ H (.tup vs)) : Ev Δ hd (.bi "len" (.cons e .nil)) ρ H (.int vs.length) := fun Q X q => he _ X (.lenT q)
theorem Ev.min {e f : ME} {a b : Int} (he : Ev Δ false e ρ H (.int a)) (hf : Ev Δ false f ρ H (.int b)) : Ev Δ false (.bi "min" (.cons e (.cons f .nil))) ρ H (.int (minI a b)) := fun Q X q => he _ X (hf _ X (.min2 rfl q))
theorem Ev.max {e f : ME} {a b : Int} (he : Ev Δ false e ρ H (.int a)) (hf : Ev Δ false f ρ H (.int b)) : Ev Δ false (.bi "max" (.cons e (.cons f .nil))) ρ H (.int (maxI a b)) := fun Q X q => he _ X (hf _ X (.max2 rfl q))
theorem Ev.range1 {e : ME} {b : Int} (he : Ev Δ hd e ρ H (.int b)) (h : smallI b) : Ev Δ hd (.bi "range" (.cons e .nil)) ρ H (.rng 0 b 1) := fun Q X q => he _ X (.range1 h q)
theorem Ev.range2 {e f : ME} {a b : Int} (he : Ev Δ hd e ρ H (.int a)) (hf : Ev Δ hd f ρ H (.int b)) (h0 : smallI a) (h : smallI b) : Ev Δ hd (.bi "range" (.cons e (.cons f .nil))) ρ H (.rng a b 1) := fun Q X q => he _ X (hf _ X (.range2 h0 h q))
theorem Evs.nil : Evs Δ hd .nil ρ H [] := fun Q X q => q
theorem Evs.cons {e : ME} {es : MEs} {v : MV} {vs : List MV} (he : Ev Δ hd e ρ H v) (hes : Evs Δ hd es ρ H vs) : Evs Δ hd (.cons e es) ρ H (v :: vs) := fun Q X q => he _ X (hes _ X q)
/-! rows of truths -/
theorem Ev.and {es : MEs} {b : Bool} (h : EvA Δ hd es ρ H b) : Ev Δ hd (.and es) ρ H (.bool b) := fun Q X q => h _ X q
theorem Ev.or {es : MEs} {b : Bool} (h : EvO Δ hd es ρ H b) : Ev Δ hd (.or es) ρ H (.bool b) := fun Q X q => h _ X q
theorem EvA.one {e : ME} {b : Bool} (h : Ev Δ hd e ρ H (.bool b)) : EvA Δ hd (.cons e .nil) ρ H b := fun Q X q => h _ X q
theorem EvO.one {e : ME} {b : Bool} (h : Ev Δ hd e ρ H (.bool b)) : EvO Δ hd (.cons e .nil) ρ H b := fun Q X q => h _ X q
theorem EvA.f {e f : ME} {es : MEs} (h : Ev Δ hd e ρ H (.bool false)) : EvA Δ hd (.cons e (.cons f es)) ρ H false := fun Q X q => h _ X q
theorem EvA.t {e f : ME} {es : MEs} {b : Bool} (h : Ev Δ hd e ρ H (.bool true)) (hs : EvA Δ hd (.cons f es) ρ H b) : EvA Δ hd (.cons e (.cons f es)) ρ H b := fun Q X q => h _ X (hs _ X q)
theorem EvO.t {e f : ME} {es : MEs} (h : Ev Δ hd e ρ H (.bool true)) : EvO Δ hd (.cons e (.cons f es)) ρ H true := fun Q X q => h _ X q
theorem EvO.f {e f : ME} {es : MEs} {b : Bool} (h : Ev Δ hd e ρ H (.bool false)) (hs : EvO Δ hd (.cons f es) ρ H b) : EvO Δ hd (.cons e (.cons f es)) ρ H b := fun Q X q => h _ X (hs _ X q)
theorem EvA.any {e f : ME} {es : MEs} {a b : Bool} (h : Ev Δ hd e ρ H (.bool a)) (hs : EvA Δ hd (.cons f es) ρ H b) : EvA Δ hd (.cons e (.cons f es)) ρ H (a && b) := by cases a with | true => exact .t h hs | false => exact .f h
theorem EvO.any {e f : ME} {es : MEs} {a b : Bool} (h : Ev Δ hd e ρ H (.bool a)) (hs : EvO Δ hd (.cons f es) ρ H b) : EvO Δ hd (.cons e (.cons f es)) ρ H (a || b) := by cases a with | false => exact .f h hs | true => exact .t h
/-! comparisons -/
theorem Ev.chain {l : ME} {c : MCs} {a : MV} {b : Bool} (hl : Ev Δ hd l ρ H a) (hc : EvC Δ hd c a ρ H b) : Ev Δ hd (.cmp l c) ρ H (.bool b) := fun Q X q => hl _ X (hc _ X q)
theorem EvC.one {e : ME} {op : COp} {a b : MV} {c : Bool} (he : Ev Δ hd e ρ H b) (h : CmpR H op a b c) : EvC Δ hd (.cons op e .nil) a ρ H c := fun Q X q => he _ X ⟨c, h, q⟩
theorem EvC.t {e e' : ME} {op op' : COp} {a b : MV} {c : MCs} {r : Bool} (he : Ev Δ hd e ρ H b) (h : CmpR H op a b true) (hc : EvC Δ hd (.cons op' e' c) b ρ H r) : EvC Δ hd (.cons op e (.cons op' e' c)) a ρ H r := fun Q X q => he _ X ⟨true, h, hc _ X q⟩
theorem EvC.f {e e' : ME} {op op' : COp} {a b : MV} {c : MCs} (he : Ev Δ hd e ρ H b) (h : CmpR H op a b false) : EvC Δ hd (.cons op e (.cons op' e' c)) a ρ H false := fun Q X q => he _ X ⟨false, h, q⟩
theorem EvC.any {e e' : ME} {op op' : COp} {a b : MV} {c : MCs} {r r' : Bool} (he : Ev Δ hd e ρ H b) (h : CmpR H op a b r') (hc : EvC Δ hd (.cons op' e' c) b ρ H r) : EvC Δ hd (.cons op e (.cons op' e' c)) a ρ H (r' && r) := by cases r' with | true => exact .t he h hc | false => exact .f he h
theorem Ev.cmp {l r : ME} {op : COp} {a b : MV} {c : Bool} (hl : Ev Δ hd l ρ H a) (hr : Ev Δ hd r ρ H b) (h : CmpR H op a b c) : Ev Δ hd (.cmp l (.cons op r .nil)) ρ H (.bool c) := .chain hl (.one hr h)

/-! ## steps -/
variable {Q : MV → MH → Prop} {QL : List MV → MH → Prop} {Y : String → MH → Prop}
theorem w_ev {e : ME} {v : MV} (he : Ev Δ hd e ρ H v) (h : Q v H) : wE Δ hd e ρ H Q Y := he _ _ h
theorem w_call {f : String} {es : MEs} {vs : List MV} (he : Evs Δ hd es ρ H vs) (h : Δ hd f vs H Q Y) : wE Δ hd (.call f es) ρ H Q Y := he _ _ h
theorem w_meth {e : ME} {m : String} {es : MEs} {a : Addr} {fs : List (String × MV)} {vs : List MV} (he : Ev Δ hd e ρ H (.ref a)) (ha : H a = some (.inst fs)) (hm : fsGet fs m = none) (hes : Evs Δ hd es ρ H vs) (h : Δ hd m (.ref a :: vs) H Q Y) : wE Δ hd (.meth e m es) ρ H Q Y :=
  he _ _ ⟨a, fs, rfl, ha, hm, hes _ _ h⟩
theorem w_list {es : MEs} {vs : List MV} (he : Evs Δ hd es ρ H vs) (h : New H Q vs) : wE Δ hd (.list es) ρ H Q Y := he _ _ h
theorem w_append {e x : ME} {a : Addr} {l : List MV} {v : MV} (he : Ev Δ hd e ρ H (.ref a)) (ha : H a = some (.lst l)) (hx : Ev Δ hd x ρ H v) (hl : l.length < bigList) (h : Q .none (H.set a (.lst (l ++ [v])))) : wE Δ hd (.bm e "append" (.cons x .nil)) ρ H Q Y :=
  he _ _ ⟨true, .lst ha rfl, hx _ _ ⟨.lst ha rfl, .append ha hl h⟩⟩
theorem w_bi1 {b : String} {e : ME} (h : wE Δ hd e ρ H (fun v H₁ => BiR hd H₁ Q b [v]) Y) : wE Δ hd (.bi b (.cons e .nil)) ρ H Q Y := h
theorem w_sub {e i : ME} (h : wE Δ hd e ρ H (fun v H₁ => wE Δ hd i ρ H₁ (fun k H₂ => ∃ x, SubR H₂ v k x ∧ Q x H₂) Y) Y) : wE Δ hd (.sub e i) ρ H Q Y := h
theorem w_tup {es : MEs} (h : wEs Δ hd es ρ H (fun vs H₁ => Q (.tup vs) H₁) Y) : wE Δ hd (.tup es) ρ H Q Y := h
theorem w_cons {e : ME} {es : MEs} (h : wE Δ hd e ρ H (fun v H₁ => wEs Δ hd es ρ H₁ (fun vs H₂ => QL (v :: vs) H₂) Y) Y) : wEs Δ hd (.cons e es) ρ H QL Y := h
theorem w_evs {es : MEs} {vs : List MV} (he : Evs Δ hd es ρ H vs) (h : QL vs H) : wEs Δ hd es ρ H QL Y := he _ _ h
theorem w_bin {op : BOp} {l r : ME} (h : wE Δ hd l ρ H (fun a H₁ => wE Δ hd r ρ H₁ (fun b H₂ => BinR H₂ Q op a b) Y) Y) : wE Δ hd (.bin op l r) ρ H Q Y := h
theorem w_not {e : ME} (h : wE Δ hd e ρ H (asTruth fun b H₁ => Q (.bool (!b)) H₁) Y) : wE Δ hd (.not e) ρ H Q Y := h
theorem w_callw {f : String} {es : MEs} (h : wEs Δ hd es ρ H (fun vs H₁ => Δ hd f vs H₁ Q Y) Y) : wE Δ hd (.call f es) ρ H Q Y := h
theorem w_slice {e lo hi : ME} {a : Addr} {l h' : MV} {ol oh : Option Int} {vs : List MV} (he : Ev Δ hd e ρ H (.ref a)) (ha : LstAt H a vs) (h1 : Ev Δ hd lo ρ H l) (h2 : Ev Δ hd hi ρ H h') (o1 : OptI l ol) (o2 : OptI h' oh) (h : New H Q (cut vs ol oh)) : wE Δ hd (.slice e lo hi) ρ H Q Y :=
  he _ _ (h1 _ _ (h2 _ _ ⟨_, .lst ha o1 o2, h⟩))
theorem w_bi2 {b : String} {e f : ME} (h : wE Δ hd e ρ H (fun v H₁ => wE Δ hd f ρ H₁ (fun u H₂ => BiR hd H₂ Q b [v, u]) Y) Y) : wE Δ hd (.bi b (.cons e (.cons f .nil))) ρ H Q Y := h
variable {N : Sto → MH → Prop} {R : MV → MH → Prop} {X : String → Sto → MH → Prop} {ss : MSs}
theorem s_done (h : N ρ H) : wSs Δ hd .nil ρ H N R X := h
theorem s_let {x : String} {e : ME} (h : wE Δ hd e ρ H (fun v H₁ => wSs Δ hd ss (ρ.set x v) H₁ N R X) (fun c H₁ => X c ρ H₁)) : wSs Δ hd (.cons (.assign x e) ss) ρ H N R X := h
theorem s_assign {x : String} {e : ME} {v : MV} (he : Ev Δ hd e ρ H v) (h : wSs Δ hd ss (ρ.set x v) H N R X) : wSs Δ hd (.cons (.assign x e) ss) ρ H N R X := he _ _ h
theorem s_expr {e : ME} (h : wE Δ hd e ρ H (fun _ H₁ => wSs Δ hd ss ρ H₁ N R X) (fun c H₁ => X c ρ H₁)) : wSs Δ hd (.cons (.expr e) ss) ρ H N R X := h
theorem s_retw {e : ME} (h : wE Δ hd e ρ H R (fun c H₁ => X c ρ H₁)) : wSs Δ hd (.cons (.ret e) ss) ρ H N R X := h
theorem s_ret {e : ME} {v : MV} (he : Ev Δ hd e ρ H v) (h : R v H) : wSs Δ hd (.cons (.ret e) ss) ρ H N R X := he _ _ h
theorem s_ite {t : ME} {a b : MSs} {c : Bool} (ht : Ev Δ hd t ρ H (.bool c)) (h1 : c = true → wSs Δ hd a ρ H (fun ρ' H' => wSs Δ hd ss ρ' H' N R X) R X) (h2 : c = false → wSs Δ hd b ρ H (fun ρ' H' => wSs Δ hd ss ρ' H' N R X) R X) : wSs Δ hd (.cons (.ite t a b) ss) ρ H N R X :=
  ht _ _ (by cases c with | true => exact h1 rfl | false => exact h2 rfl)
theorem s_iteT {t : ME} {a b : MSs} (ht : Ev Δ hd t ρ H (.bool true)) (h1 : wSs Δ hd a ρ H (fun ρ' H' => wSs Δ hd ss ρ' H' N R X) R X) : wSs Δ hd (.cons (.ite t a b) ss) ρ H N R X := ht _ _ h1
theorem s_iteF {t : ME} {a b : MSs} (ht : Ev Δ hd t ρ H (.bool false)) (h1 : wSs Δ hd b ρ H (fun ρ' H' => wSs Δ hd ss ρ' H' N R X) R X) : wSs Δ hd (.cons (.ite t a b) ss) ρ H N R X := ht _ _ h1
theorem s_skip {t : ME} {a : MSs} (ht : Ev Δ hd t ρ H (.bool false)) (h1 : wSs Δ hd ss ρ H N R X) : wSs Δ hd (.cons (.ite t a .nil) ss) ρ H N R X := ht _ _ h1
theorem s_itew {t : ME} {a b : MSs} (h : wE Δ hd t ρ H (asTruth fun c H₁ => if c = true then wSs Δ hd a ρ H₁ (fun ρ' H' => wSs Δ hd ss ρ' H' N R X) R X else wSs Δ hd b ρ H₁ (fun ρ' H' => wSs Δ hd ss ρ' H' N R X) R X) (fun c H₁ => X c ρ H₁)) : wSs Δ hd (.cons (.ite t a b) ss) ρ H N R X := h
theorem it_t {A B : MH → Prop} {b : Bool} (h : b = true) (z : A H) : asTruth (fun c H₁ => if c = true then A H₁ else B H₁) (.bool b) H := by subst h; exact z
theorem it_f {A B : MH → Prop} {b : Bool} (h : b = false) (z : B H) : asTruth (fun c H₁ => if c = true then A H₁ else B H₁) (.bool b) H := by subst h; exact z
theorem s_raise {c m : String} (h : X c ρ H) : wSs Δ false (.cons (.raise c m) ss) ρ H N R X := ⟨rfl, h⟩
theorem s_setIdx {e i v : ME} {a : Addr} {l : List MV} {k : Int} {x : MV} (hv : Ev Δ hd v ρ H x) (he : Ev Δ hd e ρ H (.ref a)) (hi : Ev Δ hd i ρ H (.int k)) (ha : H a = some (.lst l)) (h0 : 0 ≤ k) (h1 : k < l.length) (h : wSs Δ hd ss ρ (H.set a (.lst (l.set k.toNat x))) N R X) : wSs Δ hd (.cons (.setIdx e i v) ss) ρ H N R X :=
  hv _ _ (he _ _ (hi _ _ (.lst ha h0 h1 h)))
theorem s_setIdxD {e i v : ME} {a : Addr} {l : List (Int × MV)} {k : Int} {x : MV} (hv : Ev Δ hd v ρ H x) (he : Ev Δ hd e ρ H (.ref a)) (hi : Ev Δ hd i ρ H (.int k)) (ha : H a = some (.dct l)) (h1 : l.length < bigList) (h : wSs Δ hd ss ρ (H.set a (.dct (dSet l k x))) N R X) : wSs Δ hd (.cons (.setIdx e i v) ss) ρ H N R X :=
  hv _ _ (he _ _ (hi _ _ (.dct ha h1 h)))
theorem s_setIdxw {e i v : ME} (h : wE Δ hd v ρ H (fun x H₁ => wE Δ hd e ρ H₁ (fun o H₂ => wE Δ hd i ρ H₂ (fun k H₃ => SetIdxR H₃ (fun H' => wSs Δ hd ss ρ H' N R X) o k x) (fun c H₁ => X c ρ H₁)) (fun c H₁ => X c ρ H₁)) (fun c H₁ => X c ρ H₁)) : wSs Δ hd (.cons (.setIdx e i v) ss) ρ H N R X := h
theorem s_setAttrw {e v : ME} {f : String} (h : wE Δ hd v ρ H (fun x H₁ => wE Δ hd e ρ H₁ (fun o H₂ => SetAttrR H₂ (fun H' => wSs Δ hd ss ρ H' N R X) o f x) (fun c H₁ => X c ρ H₁)) (fun c H₁ => X c ρ H₁)) : wSs Δ hd (.cons (.setAttr e f v) ss) ρ H N R X := h
theorem s_setAttr {e v : ME} {f : String} {a : Addr} {fs : List (String × MV)} {x : MV} (hv : Ev Δ hd v ρ H x) (he : Ev Δ hd e ρ H (.ref a)) (ha : H a = some (.inst fs)) (hl : fs.length < 100) (h : wSs Δ hd ss ρ (H.set a (.inst (fsSet fs f x))) N R X) : wSs Δ hd (.cons (.setAttr e f v) ss) ρ H N R X :=
  hv _ _ (he _ _ (.mk ha hl h))
theorem s_try {b h : MSs} {x : String} (hb : wSs Δ false b ρ H (fun ρ' H' => wSs Δ false ss ρ' H' N R X) R (fun c ρ' H' => wSs Δ true h (ρ'.set x (.exc c)) H' (fun ρ'' H'' => wSs Δ false ss (ρ''.del x) H'' N R X) R (fun _ _ _ => False))) : wSs Δ false (.cons (.try_ b x h) ss) ρ H N R X := ⟨rfl, hb⟩
end
/-! ## loops -/
section
variable {Δ : CallT} {hd : Bool} {N : Sto → MH → Prop} {R : MV → MH → Prop} {X : String → Sto → MH → Prop} {ss : MSs}
theorem while_step {test : Sto → MH → (Bool → MH → Prop) → Prop} {body : Sto → MH → (Sto → MH → Prop) → Prop} {Q : Sto → MH → Prop} (I : Nat → Sto → MH → Prop)
    (step : ∀ n ρ H, I n ρ H → ∃ b, (∀ k, k b H → test ρ H k) ∧ (b = true → ∀ k, (∀ m ρ' H', m < n → I m ρ' H' → k ρ' H') → body ρ H k) ∧ (b = false → Q ρ H)) : ∀ n N ρ H, n < N → I n ρ H → whileW test body Q N ρ H := by
  intro n
  induction n using Nat.strongRecOn with
  | ind n ih =>
    intro N ρ H hN i
    cases N with
    | zero => exact absurd hN (Nat.not_lt_zero _)
    | succ N =>
      obtain ⟨b, ht, h1, h2⟩ := step n ρ H i
      refine ht _ ?_
      cases b with
      | false => exact h2 rfl
      | true => exact h1 rfl _ fun m ρ' H' hm i' => ih m hm N ρ' H' (Nat.lt_of_lt_of_le hm (Nat.le_of_lt_succ hN)) i'
theorem s_while {t : ME} {b : MSs} (I : Nat → Sto → MH → Prop)
    (step : ∀ n ρ H, I n ρ H → ∃ c, Ev Δ hd t ρ H (.bool c) ∧ (c = true → ∀ k, (∀ m ρ' H', m < n → I m ρ' H' → k ρ' H') → wSs Δ hd b ρ H k R X) ∧ (c = false → wSs Δ hd ss ρ H N R X)) {n : Nat} {ρ : Sto} {H : MH} (h : I n ρ H) :
    wSs Δ hd (.cons (.whil t b) ss) ρ H N R X :=
  ⟨n + 1, while_step I (fun n ρ H i => (step n ρ H i).imp fun c z => ⟨fun k hk => z.1 _ _ hk, z.2⟩) n _ _ _ (Nat.lt_succ_self n) h⟩
theorem for_inv {src : MV} {vs₀ : List MV} {body : MV → Sto → MH → (Sto → MH → Prop) → Prop} {Q : Sto → MH → Prop} {vs : List MV} {ρ : Sto} {H : MH} (I : List MV → Sto → MH → Prop)
    (hel : ∀ vs ρ H, I vs ρ H → Elems H src vs₀) (step : ∀ v vs ρ H k, I (v :: vs) ρ H → (∀ ρ' H', I vs ρ' H' → k ρ' H') → body v ρ H k) (fin : ∀ ρ H, I [] ρ H → Q ρ H) (h : I vs ρ H) : forW src vs₀ body Q vs ρ H := by
  induction vs generalizing ρ H with
  | nil => exact fin _ _ h
  | cons v vs ih => exact step v vs ρ H _ h fun ρ' H' i => ⟨hel _ _ _ i, ih i⟩
/-- a loop over a list -/
theorem s_for {x : String} {it : ME} {b : MSs} {a : Addr} {vs : List MV} {ρ : Sto} {H : MH} (I : List MV → Sto → MH → Prop) (hit : Ev Δ false it ρ H (.ref a)) (hel : ∀ vs' ρ H, I vs' ρ H → H a = some (.lst vs)) (h : I vs ρ H)
    (step : ∀ v vs ρ H k, I (v :: vs) ρ H → (∀ ρ' H', I vs ρ' H' → k ρ' H') → wSs Δ false b (ρ.set x v) H k R X) (fin : ∀ ρ H, I [] ρ H → wSs Δ false ss ρ H N R X) : wSs Δ false (.cons (.for_ x it b) ss) ρ H N R X :=
  ⟨rfl, hit _ _ ⟨vs, .lst (.inl (hel _ _ _ h)), for_inv I (fun vs ρ H i => .lst (.inl (hel _ _ _ i))) step fin h⟩⟩
theorem s_forT {xs : List String} {it : ME} {b : MSs} {a : Addr} {vs : List MV} {ρ : Sto} {H : MH} (I : List MV → Sto → MH → Prop) (hit : Ev Δ false it ρ H (.ref a)) (hel : ∀ vs' ρ H, I vs' ρ H → H a = some (.lst vs)) (h : I vs ρ H)
    (step : ∀ v vs ρ H k, I (v :: vs) ρ H → (∀ ρ' H', I vs ρ' H' → k ρ' H') → ∃ us ρ', v = .tup us ∧ BindR xs us ρ ρ' ∧ wSs Δ false b ρ' H k R X) (fin : ∀ ρ H, I [] ρ H → wSs Δ false ss ρ H N R X) : wSs Δ false (.cons (.forT xs it b) ss) ρ H N R X :=
  ⟨rfl, hit _ _ ⟨vs, .lst (.inl (hel _ _ _ h)), for_inv I (fun vs ρ H i => .lst (.inl (hel _ _ _ i))) step fin h⟩⟩
theorem range_go {a b : Int} {body : MV → Sto → MH → (Sto → MH → Prop) → Prop} {Q : Sto → MH → Prop} {vs₀ : List MV} {src : MV} (hel : ∀ H, Elems H src vs₀) (I : Int → Sto → MH → Prop)
    (step : ∀ i ρ H k, a ≤ i → i < b → I i ρ H → (∀ ρ' H', I (i + 1) ρ' H' → k ρ' H') → body (.int i) ρ H k) (fin : ∀ i ρ H, b ≤ i → I i ρ H → Q ρ H) : ∀ (n : Nat) (x : Int) (ρ : Sto) (H : MH), (b - x).toNat = n → a ≤ x → I x ρ H → forW src vs₀ body Q ((rangeL x b 1).map .int) ρ H := by
  intro n
  induction n with
  | zero => intro x ρ H hn hx i; rw [rangeL_nil (by decide) (by omega)]; exact fin _ _ _ (by omega) i
  | succ n ih => intro x ρ H hn hx i; rw [rangeL_cons (by decide) (by omega)]; exact step x ρ H _ hx (by omega) i fun ρ' H' i' => ⟨hel _, ih _ _ _ (by omega) (by omega) i'⟩
/-- a loop over a range -/
theorem s_range {x : String} {it : ME} {bd : MSs} {a b : Int} {ρ : Sto} {H : MH} (I : Int → Sto → MH → Prop) (hit : Ev Δ false it ρ H (.rng a b 1)) (h : I a ρ H)
    (step : ∀ i ρ H k, a ≤ i → i < b → I i ρ H → (∀ ρ' H', I (i + 1) ρ' H' → k ρ' H') → wSs Δ false bd (ρ.set x (.int i)) H k R X) (fin : ∀ i ρ H, b ≤ i → I i ρ H → wSs Δ false ss ρ H N R X) : wSs Δ false (.cons (.for_ x it bd) ss) ρ H N R X :=
  ⟨rfl, hit _ _ ⟨_, .rng, range_go (fun _ => .rng) I step fin _ _ _ _ rfl (Int.le_refl _) h⟩⟩
/-! comprehensions -/
theorem comp_pure {src : MV} {vs₀ : List MV} {cond : MV → MH → (Bool → MH → Prop) → Prop} {elt : MV → MH → (MV → MH → Prop) → Prop} {Q : MV → MH → Prop} {H : MH} (p : MV → Bool) (f : MV → MV) (he : Elems H src vs₀)
    : ∀ (vs acc : List MV), (∀ v ∈ vs, ∀ k, k (p v) H → cond v H k) → (∀ v ∈ vs, p v = true → ∀ k, k (f v) H → elt v H k) → acc.length + vs.length ≤ bigList → New H Q (acc ++ (vs.filter p).map f) → compW src vs₀ cond elt Q vs acc H := by
  intro vs
  induction vs with
  | nil => intro acc _ _ _ q c hc; have := q c hc; rwa [List.filter_nil, List.map_nil, List.append_nil] at this
  | cons v vs ih =>
    intro acc hc hf hl q
    rw [List.length_cons] at hl
    refine ⟨Nat.lt_of_lt_of_le (Nat.lt_add_of_pos_right (Nat.succ_pos _)) hl, hc v (.head _) _ ?_⟩
    cases hp : p v with
    | true =>
      rw [List.filter_cons_of_pos hp, List.map_cons] at q
      exact hf v (.head _) hp _ ⟨he, ih _ (fun w hw => hc w (.tail _ hw)) (fun w hw => hf w (.tail _ hw)) (by rw [List.length_append]; simp only [List.length_cons, List.length_nil]; omega) (by rw [List.append_assoc]; exact q)⟩
    | false =>
      rw [List.filter_cons_of_neg (by rw [hp]; exact Bool.noConfusion)] at q
      exact ⟨he, ih _ (fun w hw => hc w (.tail _ hw)) (fun w hw => hf w (.tail _ hw)) (by omega) q⟩
/-- a comprehension by an invariant -/
theorem comp_inv {src : MV} {vs₀ : List MV} {cond : MV → MH → (Bool → MH → Prop) → Prop} {elt : MV → MH → (MV → MH → Prop) → Prop} {Q : MV → MH → Prop} (I : List MV → List MV → MH → Prop)
    (he : ∀ vs acc H, I vs acc H → Elems H src vs₀) (hc : ∀ v H k, k true H → cond v H k) (step : ∀ v vs acc H k, I (v :: vs) acc H → (∀ r H', I vs (acc ++ [r]) H' → k r H') → elt v H k) (fin : ∀ acc H c, I [] acc H → H c = none → Q (.ref c) (H.set c (.lst acc)))
    : ∀ (vs acc : List MV) (H : MH), acc.length + vs.length ≤ bigList → I vs acc H → compW src vs₀ cond elt Q vs acc H := by
  intro vs
  induction vs with
  | nil => intro acc H _ h c hc; exact fin _ _ _ h hc
  | cons v vs ih =>
    intro acc H hl h
    rw [List.length_cons] at hl
    exact ⟨Nat.lt_of_lt_of_le (Nat.lt_add_of_pos_right (Nat.succ_pos _)) hl, hc v _ _ (step v vs acc H _ h fun r H' i => ⟨he _ _ _ i, ih _ _ (by rw [List.length_append]; simp only [List.length_cons, List.length_nil]; omega) i⟩)⟩
/-- a comprehension over a range, each item by itself -/
theorem w_compR {elt it cond : ME} {x : String} {b : Int} {ρ : Sto} {H : MH} {Q : MV → MH → Prop} {Y : String → MH → Prop} (p : Int → Bool) (f : Int → MV) (hit : Ev Δ false it ρ H (.rng 0 b 1)) (hb : b ≤ 100000) (hc : ∀ i, 0 ≤ i → i < b → Ev Δ false cond (ρ.set x (.int i)) H (.bool (p i)))
    (hf : ∀ i, 0 ≤ i → i < b → p i = true → Ev Δ false elt (ρ.set x (.int i)) H (f i)) (q : New H Q (((rangeL 0 b 1).filter p).map f)) : wE Δ false (.comp elt x it cond) ρ H Q Y := by
  refine ⟨rfl, hit _ _ ⟨_, .rng, comp_pure (fun v => match v with | .int i => p i | _ => false) (fun v => match v with | .int i => f i | _ => .none) .rng _ _ (fun v hv k hk => ?_) (fun v hv hp k hk => ?_) ?_ ?_⟩⟩
  · obtain ⟨i, hi, rfl⟩ := List.mem_map.mp hv
    have := rangeL_mem (by decide) hi
    exact hc i this.1 this.2 _ _ hk
  · obtain ⟨i, hi, rfl⟩ := List.mem_map.mp hv
    have := rangeL_mem (by decide) hi
    exact hf i this.1 this.2 hp _ _ hk
  · rw [List.length_nil, List.length_map, rangeL_len1, Nat.zero_add]; unfold bigList; omega
  · rw [List.nil_append, List.filter_map, List.map_map]; exact q
/-- a comprehension over a list -/
theorem w_compL {elt it cond : ME} {x : String} {a : Addr} {vs : List MV} {ρ : Sto} {H : MH} {Q : MV → MH → Prop} {Y : String → MH → Prop} (p : MV → Bool) (f : MV → MV) (hit : Ev Δ false it ρ H (.ref a)) (ha : H a = some (.lst vs)) (hl : vs.length ≤ bigList) (hc : ∀ v ∈ vs, Ev Δ false cond (ρ.set x v) H (.bool (p v)))
    (hf : ∀ v ∈ vs, p v = true → Ev Δ false elt (ρ.set x v) H (f v)) (q : New H Q ((vs.filter p).map f)) : wE Δ false (.comp elt x it cond) ρ H Q Y :=
  ⟨rfl, hit _ _ ⟨_, .lst (.inl ha), comp_pure p f (.lst (.inl ha)) _ _ (fun v hv k hk => hc v hv _ _ hk) (fun v hv hp k hk => hf v hv hp _ _ hk) (by rw [List.length_nil, Nat.zero_add]; exact hl) q⟩⟩
theorem call_of {P : MProg} {n : Nat} {f : String} {d : MFn} {vs : List MV} {H : MH} {Q : MV → MH → Prop} {Y : String → MH → Prop} (h : P.fn f = some d) (hl : d.params.length = vs.length)
    (hw : wSs (callW P n) hd d.body (Sto.ofArgs d.params vs) H (fun _ H' => Q .none H') Q (fun c _ H' => Y c H')) : callW P (n + 1) hd f vs H Q Y := ⟨d, h, hl, hw⟩
theorem atIdx_nn {vs : List MV} {i : Int} {x : MV} (h : 0 ≤ i) (e : vs[i.toNat]? = some x) : atIdx vs i = some x := (if_pos h).trans e
theorem smallOf {i : Int} (h : 0 ≤ i) (h2 : i ≤ 1000000) : smallI i := ⟨Int.le_trans (by decide) h, Int.le_trans h2 (by decide)⟩
end
end Mine
end
-- macros begin
local macro_rules | `(tactic| sizeOf_list_dec) => `(tactic| first | assumption | rfl | exact Mine.Sto.gets _ _ _ | (apply Mine.Sto.gn; rfl; sizeOf_list_dec))
local macro_rules | `(tactic| array_get_dec) => `(tactic| first
  | exact Mine.Ev.int | exact Mine.Ev.str | exact Mine.Ev.none | exact Mine.Ev.bool | exact Mine.Ev.gconst
  | (apply Mine.Ev.var; sizeOf_list_dec)
  | (apply Mine.Ev.add <;> array_get_dec)
  | (apply Mine.Ev.sub <;> array_get_dec)
  | (apply Mine.Ev.attr; array_get_dec; assumption; rfl)
  | (apply Mine.Ev.item; array_get_dec; array_get_dec; assumption; assumption)
  | (apply Mine.Ev.itemT; array_get_dec; array_get_dec; rfl)
  | (apply Mine.Ev.not; array_get_dec)
  | exact Mine.Evs.nil
  | (apply Mine.Evs.cons <;> array_get_dec)
  | (apply Mine.Ev.tup; array_get_dec)
  | (apply Mine.Ev.neg; array_get_dec)
  | (apply Mine.Ev.cmp; array_get_dec; array_get_dec; constructor))
-- macros end

section
set_option autoImplicit false
set_option linter.unusedVariables false
namespace Mine
open PySem

noncomputable def Ext (H H' : MH) : Prop := ∀ a o, H a = some o → H' a = some o
theorem Ext.refl (H : MH) : Ext H H := fun _ _ h => h
theorem Ext.trans {H H' H'' : MH} (x : Ext H H') (y : Ext H' H'') : Ext H H'' := fun a o h => y a o (x a o h)
theorem mne {H : MH} {a c : Addr} {o : MObj} (h : H c = none) (e : H a = some o) : a ≠ c := fun q => by rw [q, h] at e; cases e
theorem Ext.newer {H H' : MH} {c : Addr} (o : MObj) (x : Ext H H') (h : H c = none) : Ext H (H'.set c o) := fun a y e => (MH.set_neE _ _ (mne h e)).trans (x a y e)
theorem Ext.new {H : MH} {c : Addr} (o : MObj) (h : H c = none) : Ext H (H.set c o) := Ext.newer o (.refl H) h
/-! ## the train's state -/
noncomputable def mvo : Option Int → MV
  | none => .none
  | some i => .int i
noncomputable def rowOf (g : Grid) (i : Int) (m : Nat) : List MV := (List.range m).map fun (j : Nat) => mvo (g i (j : Int))
noncomputable def refsOf (ra : Int → Addr) (n : Nat) : List MV := (List.range n).map fun (i : Nat) => .ref (ra (i : Int))
noncomputable def upd (g : Grid) (s l : Int) (v : Option Int) : Grid := fun s' l' => if s' = s ∧ l' = l then v else g s' l'
theorem tab_at {f : Int → MV} {j : Int} {m : Int} (h0 : 0 ≤ j) (h1 : j < m) : ((List.range m.toNat).map fun (i : Nat) => f (i : Int))[j.toNat]? = some (f j) := by
  have h2 : j.toNat < m.toNat := (Int.toNat_lt_toNat (Int.lt_of_le_of_lt h0 h1)).mpr h1
  rw [List.getElem?_map, List.getElem?_range h2]
  exact congrArg some (congrArg f (Int.toNat_of_nonneg h0))
theorem rowOf_at {g : Grid} {i j m : Int} (h0 : 0 ≤ j) (h1 : j < m) : atIdx (rowOf g i m.toNat) j = some (mvo (g i j)) := atIdx_nn h0 (tab_at (f := fun j => mvo (g i j)) h0 h1)
theorem refsOf_at {ra : Int → Addr} {i n : Int} (h0 : 0 ≤ i) (h1 : i < n) : atIdx (refsOf ra n.toNat) i = some (.ref (ra i)) := atIdx_nn h0 (tab_at (f := fun i => .ref (ra i)) h0 h1)
theorem rowOf_length {g : Grid} {i : Int} {m : Nat} : (rowOf g i m).length = m := by rw [rowOf, List.length_map, List.length_range]
theorem row_lt {g : Grid} {i k m : Int} (h : k < m) (h0 : 0 ≤ k) : k < ((rowOf g i m.toNat).length : Int) := by rw [rowOf_length, Int.toNat_of_nonneg (Int.le_of_lt (Int.lt_of_le_of_lt h0 h))]; exact h
theorem rowOf_set {g : Grid} {i j : Int} {m : Nat} {v : Option Int} (h0 : 0 ≤ j) : (rowOf g i m).set j.toNat (mvo v) = rowOf (upd g i j v) i m := by
  apply List.ext_getElem?
  intro k
  rw [List.getElem?_set, rowOf_length]
  unfold rowOf upd
  rw [List.getElem?_map, List.getElem?_map]
  by_cases q : j.toNat = k
  · subst q
    rw [if_pos rfl]
    by_cases h : j.toNat < m
    · rw [if_pos h, List.getElem?_range h, Option.map_some, Int.toNat_of_nonneg h0, if_pos ⟨rfl, rfl⟩]
    · rw [if_neg h, List.getElem?_eq_none (by rw [List.length_range]; exact Nat.le_of_not_lt h)]; rfl
  · rw [if_neg q]
    refine Option.map_congr fun x hx => ?_
    have : x = k := by
      rw [List.getElem?_eq_some_iff] at hx; obtain ⟨_, hx⟩ := hx; rw [List.getElem_range] at hx; exact hx.symm
    subst this
    rw [if_neg fun z => q (by rw [← z.2]; rfl)]
theorem rowOf_upd_ne {g : Grid} {i i' j : Int} {m : Nat} {v : Option Int} (h : i' ≠ i) : rowOf (upd g i j v) i' m = rowOf g i' m := List.map_congr_left fun k _ => congrArg mvo (if_neg fun z => h z.1)

noncomputable def trFs (seats stops coming : Int) (rd hl : Addr) : List (String × MV) := [("seats", .int seats), ("stops", .int stops), ("coming", .int coming), ("rides", .ref rd), ("held", .ref hl)]
/-- a grid of cells in the heap -/
structure Gd (H : MH) (hl : Addr) (ra : Int → Addr) (seats stops : Int) (g : Grid) : Prop where
  hseats : 1 ≤ seats ∧ seats ≤ 60
  hstops : 2 ≤ stops ∧ stops ≤ 60
  hl_ : H hl = some (.lst (refsOf ra seats.toNat))
  row : ∀ i, 0 ≤ i → i < seats → H (ra i) = some (.lst (rowOf g i (stops - 1).toNat))
  inj : ∀ i j, 0 ≤ i → i < seats → 0 ≤ j → j < seats → ra i = ra j → i = j
  nhl : ∀ i, 0 ≤ i → i < seats → ra i ≠ hl
/-- the cells of a grid -/
noncomputable def Cel (ra : Int → Addr) (seats : Int) (a : Addr) : Prop := ∃ i, 0 ≤ i ∧ i < seats ∧ a = ra i
structure Tr (H : MH) (t rd hl : Addr) (ra : Int → Addr) (seats stops coming : Int) (rides : List (Int × MV)) (g : Grid) : Prop where
  gd : Gd H hl ra seats stops g
  at_ : H t = some (.inst (trFs seats stops coming rd hl))
  rd_ : H rd = some (.dct rides)
noncomputable def Own (t rd hl : Addr) (ra : Int → Addr) (seats : Int) (a : Addr) : Prop := a = t ∨ a = rd ∨ a = hl ∨ Cel ra seats a
/-- all but the train stands -/
noncomputable def Frm (own : Addr → Prop) (H H' : MH) : Prop := ∀ a o, ¬ own a → H a = some o → H' a = some o
theorem Ext.frm {H H' : MH} {own : Addr → Prop} (e : Ext H H') : Frm own H H' := fun a o _ h => e a o h
theorem Frm.trans {H H' : MH} {own : Addr → Prop} {H'' : MH} (x : Frm own H H') (y : Frm own H' H'') : Frm own H H'' := fun a o n h => y a o n (x a o n h)

section
variable {n : Nat} {hd : Bool} {H H' : MH} {Q : MV → MH → Prop} {X : String → MH → Prop} {t rd hl : Addr} {ra : Int → Addr} {seats stops coming : Int} {rides : List (Int × MV)} {g : Grid}
theorem Tr.hseats (T : Tr H t rd hl ra seats stops coming rides g) : 1 ≤ seats ∧ seats ≤ 60 := T.gd.hseats
theorem Tr.hstops (T : Tr H t rd hl ra seats stops coming rides g) : 2 ≤ stops ∧ stops ≤ 60 := T.gd.hstops
theorem Tr.hl_ (T : Tr H t rd hl ra seats stops coming rides g) : H hl = some (.lst (refsOf ra seats.toNat)) := T.gd.hl_
theorem Tr.row (T : Tr H t rd hl ra seats stops coming rides g) : ∀ i, 0 ≤ i → i < seats → H (ra i) = some (.lst (rowOf g i (stops - 1).toNat)) := T.gd.row
theorem Gd.keep (G : Gd H hl ra seats stops g) (k : ∀ a o, (a = hl ∨ Cel ra seats a) → H a = some o → H' a = some o) : Gd H' hl ra seats stops g :=
  ⟨G.hseats, G.hstops, k _ _ (.inl rfl) G.hl_, fun i h0 h1 => k _ _ (.inr ⟨i, h0, h1, rfl⟩) (G.row i h0 h1), G.inj, G.nhl⟩
theorem Tr.keep (T : Tr H t rd hl ra seats stops coming rides g) (k : ∀ a o, Own t rd hl ra seats a → H a = some o → H' a = some o) : Tr H' t rd hl ra seats stops coming rides g :=
  ⟨T.gd.keep fun a o z => k a o (.inr (.inr z)), k _ _ (.inl rfl) T.at_, k _ _ (.inr (.inl rfl)) T.rd_⟩
theorem Tr.ext (T : Tr H t rd hl ra seats stops coming rides g) (e : Ext H H') : Tr H' t rd hl ra seats stops coming rides g := T.keep fun a o _ => e a o
theorem Gd.setCell (G : Gd H hl ra seats stops g) {s l : Int} {v : Option Int} (h0 : 0 ≤ s) (h1 : s < seats) (h2 : 0 ≤ l) : Gd (H.set (ra s) (.lst ((rowOf g s (stops - 1).toNat).set l.toNat (mvo v)))) hl ra seats stops (upd g s l v) := by
  refine ⟨G.hseats, G.hstops, (MH.set_neE _ _ (G.nhl s h0 h1).symm).trans G.hl_, fun i hi0 hi1 => ?_, G.inj, G.nhl⟩
  by_cases q : i = s
  · subst q; rw [MH.set_selfE, rowOf_set h2]
  · rw [MH.set_neE _ _ fun z => q (G.inj i s hi0 hi1 h0 h1 z), rowOf_upd_ne q]; exact G.row i hi0 hi1
theorem s_need_stretch (T : Tr H t rd hl ra seats stops coming rides g) {b e : Int} (hok : 0 ≤ b → b < e → e < stops → Q .none H) (hbad : ¬ (0 ≤ b ∧ b < e ∧ e < stops) → X "NoStretch" H) : callW theP (n + 1) false "need_stretch" [.ref t, .int b, .int e] H Q X := by
  refine call_of (d := f_Train_need_stretch) rfl rfl ?_
  have a1 := T.at_
  refine s_ite (Ev.not (Ev.chain Ev.int (EvC.any (by array_get_dec) .le (EvC.any (by array_get_dec) .lt (EvC.one (by array_get_dec) .lt))))) (fun c => s_raise (hbad fun z => ?_)) (fun c => s_done (s_done ?_))
  · rw [decide_eq_true z.1, decide_eq_true z.2.1, decide_eq_true z.2.2] at c; exact Bool.noConfusion c
  · obtain ⟨c1, c⟩ := Bool.and_eq_true_iff.mp ((Bool.not_eq_false' _) ▸ c)
    obtain ⟨c2, c3⟩ := Bool.and_eq_true_iff.mp c
    exact hok (of_decide_eq_true c1) (of_decide_eq_true c2) (of_decide_eq_true c3)
theorem isNil_mvo {o : Option Int} : isNil (mvo o) = o.isNone := by cases o <;> rfl
theorem tn {a b : Int} (h : b < a) : (a - b).toNat = (a - (b + 1)).toNat + 1 := by omega
theorem tn_lt {a b c : Int} (h : b < c) (h2 : b < a) : (a - c).toNat < (a - b).toNat := by omega
theorem lead_go {g : Grid} {stops seat stop : Int} (h : stop < stops - 1) : lead g stops seat stop = if (g seat stop).isNone then lead g stops seat (stop + 1) else stop := by
  unfold lead
  rw [tn h]
  rfl
theorem lead_end {g : Grid} {stops seat stop : Int} (h : ¬ stop < stops - 1) : lead g stops seat stop = stop := by
  unfold lead
  rw [Int.toNat_eq_zero.mpr (Int.sub_nonpos_of_le (Int.not_lt.mp h))]
  rfl
theorem s_leads (T : Tr H t rd hl ra seats stops coming rides g) {seat stop : Int} (h0 : 0 ≤ seat) (h1 : seat < seats) (h2 : 0 ≤ stop) (h3 : stop < stops) (h : Q (.int (lead g stops seat stop)) H) : callW theP (n + 1) hd "leads" [.ref t, .int seat, .int stop] H Q X := by
  refine call_of (d := f_Train_leads) rfl rfl ?_
  have a1 := T.at_
  have a2 := T.hl_
  have a3 := T.row _ h0 h1
  have a4 := refsOf_at (ra := ra) h0 h1
  refine s_while (fun k ρ H' => ∃ stop, H' = H ∧ ρ "self" = some (.ref t) ∧ ρ "seat" = some (.int seat) ∧ ρ "stop" = some (.int stop) ∧ 0 ≤ stop ∧ k = (stops - 1 - stop).toNat ∧ Q (.int (lead g stops seat stop)) H) ?_ (n := (stops - 1 - stop).toNat) ⟨stop, rfl, rfl, rfl, rfl, h2, rfl, h⟩
  rintro k ρ H' ⟨stop, rfl, g1, g2, g3, h2, rfl, h⟩
  by_cases q : stop < stops - 1
  · have a5 := rowOf_at (g := g) (i := seat) h2 q
    rw [lead_go q] at h
    refine ⟨(g seat stop).isNone, Ev.and (EvA.t (by rw [← decide_eq_true q]; array_get_dec) (EvA.one (by rw [← isNil_mvo]; array_get_dec))), fun c kk hkk => ?_, fun c => ?_⟩
    · rw [if_pos c] at h
      exact s_assign (by array_get_dec) (s_done (hkk _ _ _ (tn_lt (Int.lt_succ stop) q) ⟨stop + 1, rfl, Sto.gn rfl g1, Sto.gn rfl g2, Sto.gets _ _ _, Int.le_add_one h2, rfl, h⟩))
    · rw [if_neg (by rw [c]; exact Bool.noConfusion)] at h
      exact s_ret (by array_get_dec) h
  · rw [lead_end q] at h
    exact ⟨false, Ev.and (EvA.f (by rw [← decide_eq_false q]; array_get_dec)), fun c => Bool.noConfusion c, fun c => s_ret (by array_get_dec) h⟩
end
end Mine
end
section
set_option autoImplicit false
set_option linter.unusedVariables false
namespace Mine
open PySem
section
variable {n : Nat} {hd : Bool} {H H' : MH} {Q : MV → MH → Prop} {X : String → MH → Prop} {t rd hl : Addr} {ra : Int → Addr} {seats stops coming : Int} {rides : List (Int × MV)} {g : Grid}
/-! blocked legs -/
noncomputable def full (g : Grid) (seats leg : Int) : Bool := (rangeL 0 seats 1).all fun i => (g i leg).isSome
noncomputable def blockF (g : Grid) (seats : Int) : Nat → Int → Option Int
  | 0, _ => none
  | k + 1, leg => if full g seats leg then some leg else blockF g seats k (leg + 1)
theorem not_nil_mvo {o : Option Int} : (!isNil (mvo o)) = o.isSome := by cases o <;> rfl
theorem filter_true {α : Type} (l : List α) : l.filter (fun _ => true) = l := List.filter_eq_self.mpr fun _ _ => rfl
/-- all of a row of truths -/
theorem b_all {l : List Int} {f : Int → Bool} {c : Addr} (q : Q (.bool (l.all f)) (H.set c (.lst (l.map fun i => .bool (f i))))) : BiR false (H.set c (.lst (l.map fun i => MV.bool (f i)))) Q "all" [.ref c] :=
  .allL (bs := l.map f) rfl (.inl ((MH.set_selfE _ _ _).trans (by rw [List.map_map]; rfl))) (by rw [List.all_map]; exact q)
theorem block_end {b e : Int} (h : e ≤ b) : blockF g seats (e - b).toNat b = none := by rw [Int.toNat_eq_zero.mpr (Int.sub_nonpos_of_le h)]; rfl
theorem block_go {b e : Int} (h : b < e) : blockF g seats (e - b).toNat b = if full g seats b then some b else blockF g seats (e - (b + 1)).toNat (b + 1) := by rw [tn h]; rfl
theorem s_blocking (T : Tr H t rd hl ra seats stops coming rides g) {b e : Int} (h0 : 0 ≤ b) (h1 : b < e) (h2 : e < stops) (h : ∀ H', Ext H H' → Q (mvo (blockF g seats (e - b).toNat b)) H') : callW theP (n + 1) false "blocking" [.ref t, .int b, .int e] H Q X := by
  refine call_of (d := f_Train_blocking) rfl rfl ?_
  have p2 := T.hstops
  have p1 := T.hseats
  have ub : e ≤ 60 := Int.le_of_lt (Int.lt_of_lt_of_le h2 p2.2)
  refine s_range (fun i ρ H' => ρ "self" = some (.ref t) ∧ Ext H H' ∧ blockF g seats (e - b).toNat b = blockF g seats (e - i).toNat i) (Ev.range2 (by array_get_dec) (by array_get_dec) (smallOf h0 (by omega)) (smallOf (by omega) (by omega))) ⟨rfl, .refl _, rfl⟩ ?_ ?_
  · rintro i ρ H' k hi1 hi2 ⟨g1, E, hb⟩ hk
    have T := T.ext E
    have a1 := T.at_
    have a2 := T.hl_
    have h2' : 0 ≤ i := Int.le_trans h0 hi1
    refine s_itew (w_bi1 (w_compR (fun _ => true) (fun j => .bool (g j i).isSome) (Ev.range1 (by array_get_dec) (smallOf (by omega) (by omega))) (by omega) (fun _ _ _ => Ev.bool) (fun j hj0 hj1 _ => ?_) fun x hx => ?_))
    · have a3 := T.row _ hj0 hj1
      have a4 := refsOf_at (ra := ra) hj0 hj1
      have a5 := rowOf_at (g := g) (i := j) (m := stops - 1) h2' (by omega)
      rw [← not_nil_mvo]
      array_get_dec
    · rw [filter_true]
      refine b_all ?_
      rw [block_go hi2] at hb
      show if full g seats i = true then _ else _
      have E2 := E.trans (Ext.new (.lst ((rangeL 0 seats 1).map fun j => MV.bool (g j i).isSome)) hx)
      by_cases c : full g seats i = true
      · rw [if_pos c] at hb ⊢
        have := h _ E2
        rw [hb] at this
        exact s_ret (by array_get_dec) this
      · rw [if_neg c] at hb ⊢
        exact s_done (s_done (hk _ _ ⟨Sto.gn rfl g1, E2, hb⟩))
  · rintro i ρ H' hi ⟨_, E, hb⟩
    have := h _ E
    rw [hb, block_end hi] at this
    exact s_ret Ev.none this
/-! the row found -/
noncomputable def partMV (p : Int × Int × Int) : MV := .tup [.int p.1, .int p.2.1, .int p.2.2]
theorem min_le {a b : Int} : minI a b ≤ b := by unfold minI; split <;> omega
/-- how the parts found go on -/
theorem found_go {e at_ : Int} {N : Nat} (h : at_ < e) : foundF g seats stops e (N + 1) at_ = ((bestN g stops e at_ (seats - 1).toNat).1, at_, (bestN g stops e at_ (seats - 1).toNat).2) :: foundF g seats stops e N (bestN g stops e at_ (seats - 1).toNat).2 := if_pos h
theorem found_end {e : Int} {N : Nat} : foundF g seats stops e N e = [] := by
  cases N with
  | zero => rfl
  | succ N => exact if_neg (Int.lt_irrefl e)
theorem best_go {e at_ i : Int} (h : 1 ≤ i) : bestN g stops e at_ (i + 1 - 1).toNat = if (bestN g stops e at_ (i - 1).toNat).2 < minI (lead g stops i at_) e then (i, minI (lead g stops i at_) e) else bestN g stops e at_ (i - 1).toNat := by
  have e1 : (i + 1 - 1).toNat = (i - 1).toNat + 1 := by omega
  have e2 : (((i - 1).toNat : Nat) : Int) + 1 = i := by omega
  have e3 : ∀ k : Nat, bestN g stops e at_ (k + 1) = if (bestN g stops e at_ k).2 < minI (lead g stops ((k : Int) + 1) at_) e then ((k : Int) + 1, minI (lead g stops ((k : Int) + 1) at_) e) else bestN g stops e at_ k := fun _ => rfl
  rw [e1, e3, e2]
theorem s_found (T : Tr H t rd hl ra seats stops coming rides g) {b e : Int} (h0 : 0 ≤ b) (h1 : b < e) (h2 : e < stops) (hfree : ∀ leg, b ≤ leg → leg < e → ∃ seat, 0 ≤ seat ∧ seat < seats ∧ g seat leg = none)
    (h : ∀ c H', H c = none → Ext H H' → H' c = some (.lst ((foundF g seats stops e (e - b).toNat b).map partMV)) → Q (.ref c) H') : callW theP (n + 2) false "found" [.ref t, .int b, .int e] H Q X := by
  refine call_of (d := f_Train_found) rfl rfl ?_
  have p2 := T.hstops
  have p1 := T.hseats
  refine s_let (w_list Evs.nil fun c hc => s_assign (by array_get_dec) ?_)
  refine s_while (fun k ρ H' => ∃ at_ acc N, ρ "self" = some (.ref t) ∧ ρ "end" = some (.int e) ∧ ρ "told" = some (.ref c) ∧ ρ "at" = some (.int at_) ∧ b ≤ at_ ∧ at_ ≤ e ∧ k = (e - at_).toNat ∧ Ext H H' ∧ H' c = some (.lst (acc.map partMV)) ∧ (acc.length : Int) ≤ at_ - b ∧ (e - at_).toNat ≤ N ∧ foundF g seats stops e (e - b).toNat b = acc ++ foundF g seats stops e N at_)
    ?_ (n := (e - b).toNat) ⟨b, [], _, rfl, rfl, rfl, rfl, Int.le_refl _, Int.le_of_lt h1, rfl, Ext.new _ hc, MH.set_selfE _ _ _, Int.le_of_eq (Int.sub_self b).symm, Nat.le_refl _, rfl⟩
  rintro k ρ H' ⟨at_, acc, N, g1, g2, g3, g4, i1, i2, rfl, E, hcc, i4, i5, i6⟩
  refine ⟨decide (at_ < e), by array_get_dec, fun hlt k hk => ?_, fun hge => ?_⟩
  · replace hlt := of_decide_eq_true hlt
    have T := T.ext E
    have a1 := T.at_
    obtain ⟨seat, hs0, hs1, hsg⟩ := hfree at_ i1 hlt
    have q0 : 0 ≤ at_ := Int.le_trans h0 i1
    have q1 : at_ < stops := Int.lt_trans hlt h2
    refine s_assign (by array_get_dec) (s_let (w_bi2 (w_meth (by array_get_dec) a1 rfl (by array_get_dec) (s_leads T (Int.le_refl _) (by omega) q0 q1 (w_ev (by array_get_dec) (.min2 rfl ?_))))))
    refine s_range (fun i ρ H2 => H2 = H' ∧ ρ "self" = some (.ref t) ∧ ρ "end" = some (.int e) ∧ ρ "told" = some (.ref c) ∧ ρ "at" = some (.int at_) ∧ 1 ≤ i ∧ ρ "best" = some (.int (bestN g stops e at_ (i - 1).toNat).1) ∧ ρ "to" = some (.int (bestN g stops e at_ (i - 1).toNat).2) ∧ i ≤ seats)
      (Ev.range2 (by array_get_dec) (by array_get_dec) (smallOf (by decide) (by decide)) (smallOf (by omega) (by omega))) ⟨rfl, by sizeOf_list_dec, by sizeOf_list_dec, by sizeOf_list_dec, by sizeOf_list_dec, Int.le_refl _, by sizeOf_list_dec, by sizeOf_list_dec, p1.1⟩ ?_ ?_
    · rintro i ρ H2 k hi1 hi2 ⟨rfl, f1, f2, f3, f4, _, f5, f6, _⟩ hk
      refine s_let (w_bi2 (w_meth (by array_get_dec) a1 rfl (by array_get_dec) (s_leads T (by omega) hi2 q0 q1 (w_ev (by array_get_dec) (.min2 rfl ?_)))))
      refine s_ite (by array_get_dec) (fun q => ?_) (fun q => ?_)
      · have bg := best_go (g := g) (stops := stops) (e := e) (at_ := at_) hi1
        rw [if_pos (of_decide_eq_true q)] at bg
        refine s_assign (by array_get_dec) (s_assign (by array_get_dec) (s_done (s_done (hk _ _ ⟨rfl, by sizeOf_list_dec, by sizeOf_list_dec, by sizeOf_list_dec, by sizeOf_list_dec, Int.le_add_one hi1, ?_, ?_, hi2⟩))))
        · rw [bg]; sizeOf_list_dec
        · rw [bg]; sizeOf_list_dec
      · have bg := best_go (g := g) (stops := stops) (e := e) (at_ := at_) hi1
        rw [if_neg (of_decide_eq_false q)] at bg
        refine s_done (s_done (hk _ _ ⟨rfl, by sizeOf_list_dec, by sizeOf_list_dec, by sizeOf_list_dec, by sizeOf_list_dec, Int.le_add_one hi1, ?_, ?_, hi2⟩))
        · rw [bg]; sizeOf_list_dec
        · rw [bg]; sizeOf_list_dec
    · rintro i ρ H2 hi ⟨rfl, f1, f2, f3, f4, _, f5, f6, fi⟩
      obtain rfl : i = seats := Int.le_antisymm fi hi
      have bf := (bestN_facts (g := g) hlt h2 (i - 1).toNat).1
      have bg := best_gt (k := (i - 1).toNat) hlt h2 hs0 (by omega) hsg
      cases N with
      | zero => exact absurd i5 (by omega)
      | succ N =>
        rw [found_go hlt] at i6
        refine s_expr (w_append (by array_get_dec) hcc (by array_get_dec) (by rw [List.length_map]; unfold bigList; omega) (s_assign (by array_get_dec) (s_done (hk _ _ _ (tn_lt bg hlt) ⟨_, acc ++ [((bestN g stops e at_ (i - 1).toNat).1, at_, (bestN g stops e at_ (i - 1).toNat).2)], N, by sizeOf_list_dec, by sizeOf_list_dec, by sizeOf_list_dec, Sto.gets _ _ _, by omega, bf.2.1, rfl, E.newer _ hc, ?_, ?_, by omega, ?_⟩))))
        · rw [MH.set_selfE, List.map_append]; rfl
        · rw [List.length_append]; simp only [List.length_cons, List.length_nil]; omega
        · rw [i6, List.append_assoc]; rfl
  · obtain rfl : at_ = e := by have := of_decide_eq_false hge; omega
    refine s_ret (by array_get_dec) (h c _ hc E ?_)
    rw [hcc, i6, found_end, List.append_nil]
end
end Mine
end
section
set_option autoImplicit false
set_option linter.unusedVariables false
namespace Mine
open PySem
/-! marks in a grid -/
theorem markP_step {g : Grid} {s b i : Int} {k : Option Int} (h : b ≤ i) : upd (markP g (s, b, i) k) s i k = markP g (s, b, i + 1) k := by
  funext s' l'
  unfold upd markP
  by_cases q : s' = s ∧ l' = i
  · rw [if_pos q, if_pos ⟨q.1, q.2 ▸ h, q.2 ▸ Int.lt_succ i⟩]
  · rw [if_neg q]
    by_cases q2 : s' = s ∧ b ≤ l' ∧ l' < i
    · rw [if_pos q2, if_pos ⟨q2.1, q2.2.1, Int.lt_trans q2.2.2 (Int.lt_succ i)⟩]
    · rw [if_neg q2, if_neg]
      rintro ⟨h1, h2, h3⟩
      rcases Int.lt_or_eq_of_le (Int.le_of_lt_add_one h3) with z | z
      · exact q2 ⟨h1, h2, z⟩
      · exact q ⟨h1, z⟩
theorem markP_nil {g : Grid} {s b : Int} {k : Option Int} : markP g (s, b, b) k = g := by
  funext s' l'
  exact if_neg fun z => Int.lt_irrefl _ (Int.lt_of_le_of_lt z.2.1 z.2.2)
theorem marks_snoc {g : Grid} {ps : List Part} {p : Part} {k : Option Int} : marks g (ps ++ [p]) k = markP (marks g ps k) p k := List.foldl_append
noncomputable def PartsIn (seats stops : Int) (ps : List (Int × Int × Int)) : Prop := ∀ p ∈ ps, 0 ≤ p.1 ∧ p.1 < seats ∧ 0 ≤ p.2.1 ∧ p.2.1 ≤ p.2.2 ∧ p.2.2 ≤ stops - 1
section
variable {n : Nat} {hd : Bool} {H H' : MH} {Q : MV → MH → Prop} {X : String → MH → Prop} {t rd hl : Addr} {ra : Int → Addr} {seats stops coming : Int} {rides : List (Int × MV)} {g : Grid}
theorem Cel.frm {s : Int} {o : MObj} (h0 : 0 ≤ s) (h1 : s < seats) : Frm (Cel ra seats) H (H.set (ra s) o) := fun a x hn h => (MH.set_neE _ _ fun q => hn ⟨s, h0, h1, q⟩).trans h
theorem inst_ne {a b : Addr} {fs : List (String × MV)} {o : MObj} (h : H a = some (.inst fs)) (e : H b = some o) (n : ∀ fs, o ≠ .inst fs) : a ≠ b := fun q => n fs (Option.some.inj (e.symm.trans (q ▸ h)))
theorem dct_ne {a b : Addr} {es : List (Int × MV)} {l : List MV} (h : H a = some (.dct es)) (e : H b = some (.lst l)) : a ≠ b := fun q => MObj.noConfusion (Option.some.inj (e.symm.trans (q ▸ h)))
/-- what the train holds besides its cells lies apart from them -/
theorem Tr.notCel (T : Tr H t rd hl ra seats stops coming rides g) : ¬ Cel ra seats t ∧ ¬ Cel ra seats rd :=
  ⟨fun ⟨i, h0, h1, q⟩ => inst_ne T.at_ (T.row i h0 h1) (fun _ => MObj.noConfusion) q, fun ⟨i, h0, h1, q⟩ => dct_ne T.rd_ (T.row i h0 h1) q⟩
theorem Tr.regrid (T : Tr H t rd hl ra seats stops coming rides g) {g' : Grid} (G : Gd H' hl ra seats stops g') (f : Frm (Cel ra seats) H H') : Tr H' t rd hl ra seats stops coming rides g' := ⟨G, f _ _ T.notCel.1 T.at_, f _ _ T.notCel.2 T.rd_⟩
/-- cells of a part are set, one by one -/
theorem s_cells_set {Δ : CallT} {ρ : Sto} {N : Sto → MH → Prop} {R : MV → MH → Prop} {Y : String → Sto → MH → Prop} {ss : MSs} {x : String} {it v e i : ME} {s b e' : Int} {kv : Option Int} (K : Sto → Prop) (G : Gd H hl ra seats stops g) (h0 : 0 ≤ s) (h1 : s < seats) (h2 : 0 ≤ b) (h3 : b ≤ e') (h4 : e' ≤ stops - 1) (hK : K ρ)
    (hit : Ev Δ false it ρ H (.rng b e' 1)) (hKs : ∀ ρ j, K ρ → K (ρ.set x (.int j))) (hv : ∀ ρ H', K ρ → Ev Δ false v ρ H' (mvo kv)) (hi : ∀ ρ H' j, K ρ → Ev Δ false i (ρ.set x (.int j)) H' (.int j))
    (he : ∀ ρ H' g', K ρ → Gd H' hl ra seats stops g' → Frm (Cel ra seats) H H' → Ev Δ false e ρ H' (.ref (ra s)))
    (fin : ∀ ρ H', K ρ → Gd H' hl ra seats stops (markP g (s, b, e') kv) → Frm (Cel ra seats) H H' → wSs Δ false ss ρ H' N R Y) : wSs Δ false (.cons (.for_ x it (.cons (.setIdx e i v) .nil)) ss) ρ H N R Y := by
  refine s_range (fun j ρ H' => K ρ ∧ j ≤ e' ∧ Gd H' hl ra seats stops (markP g (s, b, j) kv) ∧ Frm (Cel ra seats) H H') hit ⟨hK, h3, markP_nil ▸ G, fun _ _ _ q => q⟩ ?_ ?_
  · rintro j ρ H' k hj1 hj2 ⟨k1, _, G', f⟩ hk
    have j0 : 0 ≤ j := Int.le_trans h2 hj1
    exact s_setIdx (hv _ _ (hKs _ _ k1)) (he _ _ _ (hKs _ _ k1) G' f) (hi _ _ _ k1) (G'.row s h0 h1) j0 (row_lt (Int.lt_of_lt_of_le hj2 h4) j0) (s_done (hk _ _ ⟨hKs _ _ k1, hj2, markP_step hj1 ▸ G'.setCell h0 h1 j0, f.trans (Cel.frm h0 h1)⟩))
  · rintro j ρ H' hj ⟨k1, hj2, G', f⟩
    obtain rfl := Int.le_antisymm hj2 hj
    exact fin _ _ k1 G' f
theorem s_mark (T : Tr H t rd hl ra seats stops coming rides g) {c : Addr} {ps : List (Int × Int × Int)} {kv : Option Int} (hc : H c = some (.lst (ps.map partMV))) (hn : ¬ Own t rd hl ra seats c) (hp : PartsIn seats stops ps)
    (h : ∀ H', Tr H' t rd hl ra seats stops coming rides (marks g ps kv) → Frm (Cel ra seats) H H' → Q .none H') : callW theP (n + 1) false "mark" [.ref t, .ref c, mvo kv] H Q X := by
  refine call_of (d := f_Train_mark) rfl rfl ?_
  have nc : ¬ Cel ra seats c := fun z => hn (.inr (.inr (.inr z)))
  refine s_forT (fun vs ρ H' => ρ "self" = some (.ref t) ∧ ρ "ticket" = some (mvo kv) ∧ Frm (Cel ra seats) H H' ∧ ∃ done rest, ps = done ++ rest ∧ vs = rest.map partMV ∧ Gd H' hl ra seats stops (marks g done kv)) (by array_get_dec) (fun vs ρ H' z => z.2.2.1 _ _ nc hc) ⟨rfl, rfl, fun _ _ _ q => q, [], ps, rfl, rfl, T.gd⟩ ?_ ?_
  · rintro v vs ρ H' k ⟨g1, g2, f, done, rest, e1, e2, G⟩ hk
    cases rest with
    | nil => cases e2
    | cons p rest =>
      obtain ⟨rfl, rfl⟩ := List.cons.inj e2
      obtain ⟨q0, q1, q2, q3, q4⟩ := hp p (e1 ▸ List.mem_append_right _ (.head _))
      refine ⟨_, _, rfl, .cons (.cons (.cons .nil)), ?_⟩
      have p2 := G.hstops
      refine s_cells_set (fun ρ => ρ "self" = some (.ref t) ∧ ρ "ticket" = some (mvo kv) ∧ ρ "seat" = some (.int p.1)) G q0 q1 q2 q3 q4 ⟨by sizeOf_list_dec, by sizeOf_list_dec, by sizeOf_list_dec⟩ (Ev.range2 (by array_get_dec) (by array_get_dec) (smallOf q2 (by omega)) (smallOf (by omega) (by omega)))
        (fun ρ j z => ⟨Sto.gn rfl z.1, Sto.gn rfl z.2.1, Sto.gn rfl z.2.2⟩) (fun ρ H' z => Ev.var z.2.1) (fun ρ H' j z => Ev.var (Sto.gets _ _ _)) (fun ρ H'' g' z G' f' => ?_) (fun ρ H'' z G' f' => s_done (hk _ _ ⟨z.1, z.2.1, f.trans f', done ++ [p], rest, by rw [e1, List.append_assoc]; rfl, rfl, marks_snoc ▸ G'⟩))
      exact Ev.item (Ev.attr (Ev.var z.1) ((f.trans f') _ _ T.notCel.1 T.at_) rfl) (Ev.var z.2.2) G'.hl_ (refsOf_at q0 q1)
  · rintro ρ H' ⟨_, _, f, done, rest, e1, e2, G⟩
    cases rest with
    | nil => rw [List.append_nil] at e1; subst e1; exact s_done (h _ (T.regrid G f) f)
    | cons p rest => cases e2

/-! facts of the parts found -/
theorem foundF_in {g : Grid} {seats stops e : Int} (hs : 1 ≤ seats) (h2 : e < stops) : ∀ (N : Nat) (at_ : Int), 0 ≤ at_ → PartsIn seats stops (foundF g seats stops e N at_) := by
  intro N
  induction N with
  | zero => intro at_ _ p hp; cases hp
  | succ N ih =>
    intro at_ h0 p hp
    by_cases q : at_ < e
    · rw [found_go q] at hp
      have bf := (bestN_facts (g := g) q h2 (seats - 1).toNat).1
      rcases List.mem_cons.mp hp with rfl | hp
      · dsimp only; omega
      · exact ih _ (by omega) p hp
    · rw [foundF, if_neg q] at hp; cases hp
theorem foundF_len {g : Grid} {seats stops e : Int} : ∀ (N : Nat) (at_ : Int), (foundF g seats stops e N at_).length ≤ N := by
  intro N
  induction N with
  | zero => intro at_; exact Nat.le_refl _
  | succ N ih =>
    intro at_
    by_cases q : at_ < e
    · rw [found_go q]; exact Nat.succ_le_succ (ih _)
    · rw [foundF, if_neg q]; exact Nat.zero_le _
theorem full_free {g : Grid} {seats leg : Int} (h : full g seats leg = false) : ∃ seat, 0 ≤ seat ∧ seat < seats ∧ g seat leg = none := by
  obtain ⟨i, hi, hg⟩ := List.all_eq_false.mp h
  have := rangeL_mem (by decide) hi
  exact ⟨i, this.1, this.2, Option.not_isSome_iff_eq_none.mp hg⟩
theorem block_none {g : Grid} {seats e : Int} : ∀ (k : Nat) (leg : Int), (e - leg).toNat = k → blockF g seats (e - leg).toNat leg = none → ∀ l, leg ≤ l → l < e → full g seats l = false := by
  intro k
  induction k with
  | zero => intro leg hk _ l h1 h2; omega
  | succ k ih =>
    intro leg hk h l h1 h2
    have hlt : leg < e := by omega
    rw [block_go hlt] at h
    by_cases c : full g seats leg = true
    · rw [if_pos c] at h; cases h
    · rw [if_neg c] at h
      rcases Int.lt_or_eq_of_le h1 with z | z
      · exact ih (leg + 1) (by rw [tn hlt] at hk; exact Nat.succ.inj hk) h l z h2
      · rw [← z]; exact Bool.not_eq_true _ ▸ c
theorem none_of_ext (E : Ext H H') {c : Addr} (h : H' c = none) : H c = none := by
  cases q : H c with
  | none => rfl
  | some o => exact absurd (E _ _ q) (by rw [h]; exact fun z => by cases z)
noncomputable def offer (g : Grid) (seats stops b e : Int) : List Part := foundF g seats stops e (e - b).toNat b
theorem s_row (T : Tr H t rd hl ra seats stops coming rides g) {b e : Int} (hok : 0 ≤ b → b < e → e < stops → blockF g seats (e - b).toNat b = none → ∀ c H', H c = none → Ext H H' → H' c = some (.lst ((offer g seats stops b e).map partMV)) → Q (.ref c) H')
    (hfull : ∀ x H', 0 ≤ b → b < e → e < stops → blockF g seats (e - b).toNat b = some x → Ext H H' → X "Full" H') (hbad : ¬ (0 ≤ b ∧ b < e ∧ e < stops) → X "NoStretch" H) : callW theP (n + 3) false "row" [.ref t, .int b, .int e] H Q X := by
  refine call_of (d := f_Train_row) rfl rfl ?_
  have a1 := T.at_
  refine s_expr (w_meth (by array_get_dec) a1 rfl (by array_get_dec) (s_need_stretch T (fun h0 h1 h2 => ?_) hbad))
  refine s_itew (w_meth (by array_get_dec) a1 rfl (by array_get_dec) (s_blocking T h0 h1 h2 fun H1 E1 => ?_))
  refine ⟨_, .isnotN, ?_⟩
  cases hb : blockF g seats (e - b).toNat b with
  | some x => exact it_t rfl (s_raise (hfull x _ h0 h1 h2 hb E1))
  | none =>
    have T1 := T.ext E1
    exact it_f rfl (s_done (s_retw (w_meth (by array_get_dec) T1.at_ rfl (by array_get_dec) (s_found T1 h0 h1 h2 (fun leg q1 q2 => full_free (block_none _ _ rfl hb leg q1 q2)) fun c H2 c1 E2 hc => hok h0 h1 h2 hb c H2 (none_of_ext E1 c1) (E1.trans E2) hc))))
theorem Tr.setT (T : Tr H t rd hl ra seats stops coming rides g) (k : Int) : Tr (H.set t (.inst (trFs seats stops k rd hl))) t rd hl ra seats stops k rides g := by
  have ne : ∀ a, (a = hl ∨ Cel ra seats a) → a ≠ t := fun a z q => z.elim (fun z => inst_ne T.at_ T.hl_ (fun _ => MObj.noConfusion) (q ▸ z)) (fun z => T.notCel.1 (q ▸ z))
  exact ⟨T.gd.keep fun a o z h => (MH.set_neE _ _ (ne a z)).trans h, MH.set_selfE _ _ _, (MH.set_neE _ _ (inst_ne T.at_ T.rd_ fun _ => MObj.noConfusion).symm).trans T.rd_⟩
theorem Tr.setRides (T : Tr H t rd hl ra seats stops coming rides g) (rides' : List (Int × MV)) : Tr (H.set rd (.dct rides')) t rd hl ra seats stops coming rides' g := by
  have ne : ∀ a, (a = hl ∨ Cel ra seats a) → a ≠ rd := fun a z q => z.elim (fun z => dct_ne T.rd_ T.hl_ (q ▸ z)) (fun z => T.notCel.2 (q ▸ z))
  exact ⟨T.gd.keep fun a o z h => (MH.set_neE _ _ (ne a z)).trans h, (MH.set_neE _ _ (inst_ne T.at_ T.rd_ fun _ => MObj.noConfusion)).trans T.at_, MH.set_selfE _ _ _⟩
theorem frm_set {own : Addr → Prop} {c : Addr} {o : MObj} (h : own c) : Frm own H (H.set c o) := fun a x hn e => (MH.set_neE _ _ fun (q : a = c) => hn (q.symm ▸ h)).trans e
theorem Frm.cel (f : Frm (Cel ra seats) H H') : Frm (Own t rd hl ra seats) H H' := fun a o n => f a o fun z => n (.inr (.inr (.inr z)))
theorem Tr.not_own (T : Tr H t rd hl ra seats stops coming rides g) {c : Addr} (h : H c = none) : ¬ Own t rd hl ra seats c := by
  rintro (rfl | rfl | rfl | ⟨i, h0, h1, rfl⟩)
  · exact mne h T.at_ rfl
  · exact mne h T.rd_ rfl
  · exact mne h T.hl_ rfl
  · exact mne h (T.row i h0 h1) rfl
theorem s_sell (T : Tr H t rd hl ra seats stops coming rides g) (hr : rides.length < 100000) {b e : Int} (hok : 0 ≤ b → b < e → e < stops → blockF g seats (e - b).toNat b = none → ∀ c H', H c = none → Frm (Own t rd hl ra seats) H H' → H' c = some (.lst ((offer g seats stops b e).map partMV)) →
      Tr H' t rd hl ra seats stops (coming + 1) (dSet rides coming (.ref c)) (marks g (offer g seats stops b e) (some coming)) → Q (.int coming) H')
    (hfull : ∀ x H', 0 ≤ b → b < e → e < stops → blockF g seats (e - b).toNat b = some x → Ext H H' → X "Full" H') (hbad : ¬ (0 ≤ b ∧ b < e ∧ e < stops) → X "NoStretch" H) : callW theP (n + 4) false "sell" [.ref t, .int b, .int e] H Q X := by
  refine call_of (d := f_Train_sell) rfl rfl ?_
  have a1 := T.at_
  refine s_let (w_meth (by array_get_dec) a1 rfl (by array_get_dec) (s_row T (fun h0 h1 h2 hb c H1 hc E1 h1c => ?_) hfull hbad))
  have T1 := T.ext E1
  have hno := T.not_own hc
  have a2 := T1.at_
  have T2 := T1.setT (coming + 1)
  have a3 := T2.at_
  have T3 := T2.setRides (dSet rides coming (.ref c))
  have cf : Frm (Own t rd hl ra seats) H1 ((H1.set t (.inst (trFs seats stops (coming + 1) rd hl))).set rd (.dct (dSet rides coming (.ref c)))) := (frm_set (.inl rfl)).trans (frm_set (.inr (.inl rfl)))
  refine s_assign (by array_get_dec) (s_setAttr (by array_get_dec) (by array_get_dec) a2 (by show 5 < 100; decide) (s_setIdxD (by array_get_dec) (Ev.attr (by array_get_dec) a3 rfl) (by array_get_dec) T2.rd_ (by unfold bigList; omega) ?_))
  refine s_expr (w_meth (by array_get_dec) T3.at_ rfl (vs := [.ref c, mvo (some coming)]) (Evs.cons (by array_get_dec) (Evs.cons (Ev.var (by sizeOf_list_dec)) Evs.nil)) (s_mark T3 (cf _ _ hno h1c) hno (foundF_in T.hseats.1 h2 _ _ h0) fun H4 T4 f4 => ?_))
  exact s_ret (by array_get_dec) (hok h0 h1 h2 hb c H4 hc ((E1.frm.trans cf).trans f4.cel) (f4.cel _ _ hno (cf _ _ hno h1c)) T4)
end
end Mine
end
section
set_option autoImplicit false
set_option linter.unusedVariables false
namespace Mine
open PySem
theorem big_pos : (0 : Nat) < bigList := by decide
/-- the rides, as the dict holds them -/
inductive RidesAt (H : MH) (own : Addr → Prop) : List (Int × MV) → Rides → Prop
  | nil : RidesAt H own [] []
  | cons {k : Int} {c : Addr} {ps : List Part} {rs : List (Int × MV)} {R : Rides} (h : H c = some (.lst (ps.map partMV))) (n : ¬ own c) (t : RidesAt H own rs R) : RidesAt H own ((k, .ref c) :: rs) ((k, ps) :: R)
section
variable {H H' : MH} {own own' : Addr → Prop} {rs : List (Int × MV)} {R : Rides}
theorem RidesAt.keep (x : RidesAt H own rs R) (f : ∀ a o, ¬ own a → H a = some o → H' a = some o) : RidesAt H' own rs R := by
  induction x with
  | nil => exact .nil
  | cons h n _ ih => exact .cons (f _ _ n h) n ih
theorem RidesAt.len (x : RidesAt H own rs R) : rs.length = R.length := by
  induction x with
  | nil => rfl
  | cons _ _ _ ih => exact congrArg Nat.succ ih
theorem RidesAt.get (x : RidesAt H own rs R) (a : R.Pairwise fun x y => x.1 < y.1) {k : Int} {ps : List Part} (h : (k, ps) ∈ R) : ∃ c, dGet rs k = some (.ref c) ∧ H c = some (.lst (ps.map partMV)) ∧ ¬ own c := by
  induction x with
  | nil => cases h
  | @cons k' c ps' rs R hc n t ih =>
    obtain ⟨a1, a2⟩ := List.pairwise_cons.mp a
    rcases List.mem_cons.mp h with e | h'
    · obtain ⟨rfl, rfl⟩ := Prod.mk.inj e; exact ⟨c, if_pos rfl, hc, n⟩
    · have e : dGet ((k', .ref c) :: rs) k = dGet rs k := if_neg (Int.ne_of_gt (a1 _ h'))
      rw [e]; exact ih a2 h'
theorem RidesAt.miss (x : RidesAt H own rs R) {k : Int} (h : ∀ ps, (k, ps) ∉ R) : dGet rs k = none := by
  induction x with
  | nil => rfl
  | @cons k' c ps' rs R hc n t ih => exact (if_neg fun (z : k = k') => h ps' (z ▸ .head _)).trans (ih fun ps hp => h ps (.tail _ hp))
theorem RidesAt.key (x : RidesAt H own rs R) {e : Int × MV} (h : e ∈ rs) : ∃ ps, (e.1, ps) ∈ R := by
  induction x with
  | nil => cases h
  | @cons k' c ps' rs R hc n t ih =>
    rcases List.mem_cons.mp h with rfl | h
    · exact ⟨ps', .head _⟩
    · exact (ih h).imp fun ps z => .tail _ z
theorem RidesAt.app (x : RidesAt H own rs R) {k : Int} {c : Addr} {ps : List Part} (hc : H c = some (.lst (ps.map partMV))) (n : ¬ own c) : RidesAt H own (rs ++ [(k, .ref c)]) (R ++ [(k, ps)]) := by
  induction x with
  | nil => exact .cons hc n .nil
  | cons h n' _ ih => exact .cons h n' ih
theorem RidesAt.new (x : RidesAt H own rs R) {k : Int} {ps : List Part} {c : Addr} (h : ∀ x ∈ R, x.1 < k) (hc : H c = some (.lst (ps.map partMV))) (n : ¬ own c) : RidesAt H own (dSet rs k (.ref c)) (R ++ [(k, ps)]) := by
  unfold dSet
  rw [if_neg fun z => ?_]
  · exact x.app hc n
  · obtain ⟨e, he, hk⟩ := List.any_eq_true.mp z
    obtain ⟨ps', hp⟩ := x.key he
    exact Int.ne_of_lt (h _ hp) (of_decide_eq_true hk)
theorem RidesAt.set (x : RidesAt H own rs R) {k : Int} {ps qs : List Part} {c : Addr} (h : (k, ps) ∈ R) (hc : H c = some (.lst (qs.map partMV))) (n : ¬ own c) : RidesAt H own (dSet rs k (.ref c)) (rSet R k qs) := by
  have hany : rs.any (fun e => decide (e.1 = k)) = true := by
    induction x with
    | nil => cases h
    | @cons k' c ps' rs R hc n t ih =>
      rw [List.any_cons]
      rcases List.mem_cons.mp h with e | h
      · obtain ⟨rfl, rfl⟩ := Prod.mk.inj e; rw [decide_eq_true (rfl : k = k)]; rfl
      · rw [ih h, Bool.or_true]
  unfold dSet
  rw [if_pos hany]
  clear hany h
  induction x with
  | nil => exact .nil
  | @cons k' c' ps' rs R hc' n' t ih =>
    unfold rSet
    rw [List.map_cons, List.map_cons]
    by_cases q : k' = k
    · rw [if_pos q, if_pos q]; subst q; exact .cons hc n ih
    · rw [if_neg q, if_neg q]; exact .cons hc' n' ih
theorem RidesAt.del (x : RidesAt H own rs R) (k : Int) : RidesAt H own (dDel rs k) (rDel R k) := by
  induction x with
  | nil => exact .nil
  | @cons k' c' ps' rs R hc' n' t ih =>
    unfold dDel rDel
    rw [List.filter_cons, List.filter_cons]
    by_cases q : k' ≠ k
    · rw [if_pos (decide_eq_true q), if_pos (decide_eq_true q)]; exact .cons hc' n' ih
    · rw [if_neg (by rw [decide_eq_false q]; exact Bool.noConfusion), if_neg (by rw [decide_eq_false q]; exact Bool.noConfusion)]; exact ih
end

/-- the train and its books; Z: what the law turns itself -/
structure Trn (H : MH) (Z : Addr → Prop) (t rd hl : Addr) (ra : Int → Addr) (seats stops coming : Int) (R : Rides) (g : Grid) : Prop where
  tr : ∃ rides, Tr H t rd hl ra seats stops coming rides g ∧ RidesAt H (fun a => Own t rd hl ra seats a ∨ Z a) rides R
  inv : Inv seats stops coming R g
  co : 0 ≤ coming
  len : R.length ≤ 5000
  apart : ∀ a, Z a → ¬ Own t rd hl ra seats a
  there : ∀ a, Z a → H a ≠ none

section
variable {n : Nat} {hd : Bool} {H H' : MH} {Z : Addr → Prop} {Q : MV → MH → Prop} {X : String → MH → Prop} {t rd hl : Addr} {ra : Int → Addr} {seats stops coming : Int} {R : Rides} {g : Grid}
theorem some_kept {a : Addr} (h : H a ≠ none) (k : ∀ o, H a = some o → H' a = some o) : H' a ≠ none := by
  cases q : H a with
  | none => exact absurd q h
  | some o => rw [k o q]; exact fun z => by cases z
theorem Trn.ext (T : Trn H Z t rd hl ra seats stops coming R g) (e : Ext H H') : Trn H' Z t rd hl ra seats stops coming R g :=
  ⟨T.tr.imp fun rides z => ⟨z.1.ext e, z.2.keep fun a o _ => e a o⟩, T.inv, T.co, T.len, T.apart, fun a z => some_kept (T.there a z) (e a)⟩
/-- the law turns what is its own -/
theorem Trn.turn (T : Trn H Z t rd hl ra seats stops coming R g) (f : Frm Z H H') (th : ∀ a, Z a → H' a ≠ none) : Trn H' Z t rd hl ra seats stops coming R g :=
  ⟨T.tr.imp fun rides z => ⟨z.1.keep fun a o h => f a o fun q => T.apart a q h, z.2.keep fun a o h => f a o fun q => h (.inr q)⟩, T.inv, T.co, T.len, T.apart, th⟩
theorem Trn.hseats (T : Trn H Z t rd hl ra seats stops coming R g) : 1 ≤ seats ∧ seats ≤ 60 := T.tr.elim fun _ z => z.1.hseats
theorem Trn.hstops (T : Trn H Z t rd hl ra seats stops coming R g) : 2 ≤ stops ∧ stops ≤ 60 := T.tr.elim fun _ z => z.1.hstops
theorem Trn.at_ (T : Trn H Z t rd hl ra seats stops coming R g) : H t = some (.inst (trFs seats stops coming rd hl)) := T.tr.elim fun _ z => z.1.at_
theorem Trn.not_own (T : Trn H Z t rd hl ra seats stops coming R g) {c : Addr} (h : H c = none) : ¬ Own t rd hl ra seats c := T.tr.elim fun _ z => z.1.not_own h
theorem Trn.not_z (T : Trn H Z t rd hl ra seats stops coming R g) {c : Addr} (h : H c = none) : ¬ (Own t rd hl ra seats c ∨ Z c) := fun q => q.elim (T.not_own h) fun z => T.there c z h
theorem fresh_frm {rides : List (Int × MV)} (T : Tr H' t rd hl ra seats stops coming rides g) (f : Frm (Own t rd hl ra seats) H H') {c : Addr} (h : H' c = none) : H c = none := by
  cases q : H c with
  | none => rfl
  | some o => exact absurd (f c o (T.not_own h) q) (by rw [h]; exact fun z => by cases z)
theorem Trn.kept (T : Trn H Z t rd hl ra seats stops coming R g) (f : Frm (Own t rd hl ra seats) H H') : ∀ a, Z a → H' a ≠ none := fun a z => some_kept (T.there a z) fun o => f a o (T.apart a z)
theorem rides_frm {rs : List (Int × MV)} (x : RidesAt H (fun a => Own t rd hl ra seats a ∨ Z a) rs R) (f : Frm (Own t rd hl ra seats) H H') : RidesAt H' (fun a => Own t rd hl ra seats a ∨ Z a) rs R := x.keep fun a o n => f a o fun q => n (.inl q)

theorem RidesAt.mono' {own own' : Addr → Prop} {rs : List (Int × MV)} (x : RidesAt H own rs R) (h : ∀ a o, H a = some o → ¬ own a → ¬ own' a) : RidesAt H own' rs R := by
  induction x with
  | nil => exact .nil
  | cons e n _ ih => exact .cons e (h _ _ e n) ih
theorem rides_more {rs : List (Int × MV)} {c : Addr} (x : RidesAt H (fun a => Own t rd hl ra seats a ∨ Z a) rs R) (hc : H c = none) : RidesAt H (fun a => Own t rd hl ra seats a ∨ (Z a ∨ a = c)) rs R :=
  x.mono' fun a o e n z => z.elim (fun z => n (.inl z)) fun z => z.elim (fun z => n (.inr z)) fun q => mne hc e q
/-- a new object is the law's own -/
theorem Trn.adds (T : Trn H Z t rd hl ra seats stops coming R g) {c : Addr} {o : MObj} (hc : H c = none) : Trn (H.set c o) (fun a => Z a ∨ a = c) t rd hl ra seats stops coming R g :=
  ⟨T.tr.imp fun rides z => ⟨z.1.ext (Ext.new o hc), (rides_more z.2 hc).keep fun a x _ => Ext.new o hc a x⟩, T.inv, T.co, T.len, fun a z => z.elim (T.apart a) fun z => z ▸ T.not_own hc, fun a z => z.elim (fun z => some_kept (T.there a z) (Ext.new o hc a)) fun z => by rw [z, MH.set_selfE]; exact fun z => (by cases z)⟩
theorem Trn.less {Z' : Addr → Prop} (T : Trn H Z' t rd hl ra seats stops coming R g) (h : ∀ a, Z a → Z' a) : Trn H Z t rd hl ra seats stops coming R g :=
  ⟨T.tr.imp fun _ z => ⟨z.1, z.2.mono' fun a _ _ n q => n (q.imp id (h a))⟩, T.inv, T.co, T.len, fun a z => T.apart a (h a z), fun a z => T.there a (h a z)⟩
theorem s_need_ticket (T : Trn H Z t rd hl ra seats stops coming R g) {k : Int} (hok : ∀ ps, (k, ps) ∈ R → Q .none H) (hbad : (∀ ps, (k, ps) ∉ R) → X "NoTicket" H) : callW theP (n + 1) false "need_ticket" [.ref t, .int k] H Q X := by
  refine call_of (d := f_Train_need_ticket) rfl rfl ?_
  obtain ⟨rides, T1, T2⟩ := T.tr
  have a1 := T1.at_
  by_cases h : ∃ ps, (k, ps) ∈ R
  · obtain ⟨ps, h⟩ := h
    obtain ⟨c, h1, _⟩ := T2.get T.inv.asc h
    refine s_skip (Ev.cmp (by array_get_dec) (Ev.attr (by array_get_dec) a1 rfl) ?_) (s_done (hok ps h))
    have := CmpR.notind (x := k) T1.rd_
    rw [h1] at this; exact this
  · have h' : ∀ ps, (k, ps) ∉ R := fun ps q => h ⟨ps, q⟩
    refine s_iteT (Ev.cmp (by array_get_dec) (Ev.attr (by array_get_dec) a1 rfl) ?_) (s_raise (hbad h'))
    have := CmpR.notind (x := k) T1.rd_
    rw [T2.miss h'] at this; exact this
theorem Inv.partsIn (I : Inv seats stops coming R g) {k : Int} {ps : List Part} (h : (k, ps) ∈ R) : PartsIn seats stops ps := by
  obtain ⟨b, e, h0, he, G⟩ := I.goes _ h
  intro p hp
  obtain ⟨a1, a2, a3, a4, a5⟩ := G.mem p hp
  exact ⟨a1, a2, Int.le_trans h0 a3, Int.le_of_lt a4, Int.le_trans a5 he⟩
theorem goes_len {b e : Int} {ps : List Part} (G : Goes seats b ps e) : (ps.length : Int) ≤ e - b := by
  induction G with
  | one _ _ h => simp; omega
  | cons _ _ h _ _ ih => simp at ih ⊢; omega
/-- a list is copied -/
theorem w_copy {Δ : CallT} {ρ : Sto} {e : ME} {a : Addr} {l : List MV} {Y : String → MH → Prop} (he : Ev Δ false e ρ H (.ref a)) (ha : H a = some (.lst l)) (h : New H Q l) : wE Δ false (.bi "list" (.cons e .nil)) ρ H Q Y := he _ _ (.listL rfl (.inl ha) h)
theorem w_dpop {Δ : CallT} {ρ : Sto} {e x : ME} {a : Addr} {es : List (Int × MV)} {k : Int} {v : MV} {Y : String → MH → Prop} (he : Ev Δ hd e ρ H (.ref a)) (hx : Ev Δ hd x ρ H (.int k)) (ha : H a = some (.dct es)) (hl : es.length ≤ bigList) (hv : dGet es k = some v) (h : Q v (H.set a (.dct (dDel es k)))) : wE Δ hd (.bm e "pop" (.cons x .nil)) ρ H Q Y :=
  he _ _ ⟨false, .dct ha rfl, hx _ _ ⟨.dct ha rfl, .dpop ha hl hv h⟩⟩
theorem s_back (T : Trn H Z t rd hl ra seats stops coming R g) {k : Int} (hok : ∀ ps c H', (k, ps) ∈ R → Trn H' (fun a => Z a ∨ a = c) t rd hl ra seats stops coming (rDel R k) (marks g ps none) → Frm (Own t rd hl ra seats) H H' → H c = none → H' c = some (.lst (ps.map partMV)) → Q (.ref c) H')
    (hbad : (∀ ps, (k, ps) ∉ R) → X "NoTicket" H) : callW theP (n + 2) false "back" [.ref t, .int k] H Q X := by
  refine call_of (d := f_Train_back) rfl rfl ?_
  have a1 := T.at_
  refine s_expr (w_meth (by array_get_dec) a1 rfl (by array_get_dec) (s_need_ticket T (fun ps hk => ?_) hbad))
  obtain ⟨rides, T1, T2⟩ := T.tr
  obtain ⟨c, h1, h2, hn⟩ := T2.get T.inv.asc hk
  have hn' : ¬ Own t rd hl ra seats c := fun q => hn (.inl q)
  have T3 := T1.setRides (dDel rides k)
  have fr : Frm (Own t rd hl ra seats) H (H.set rd (.dct (dDel rides k))) := frm_set (.inr (.inl rfl))
  have hb := T.len
  refine s_let (w_dpop (Ev.attr (by array_get_dec) a1 rfl) (by array_get_dec) T1.rd_ (by rw [T2.len]; exact Nat.le_trans hb (by decide)) h1 ?_)
  refine s_expr (w_meth (by array_get_dec) T3.at_ rfl (vs := [.ref c, mvo none]) (Evs.cons (by array_get_dec) (Evs.cons Ev.none Evs.nil)) (s_mark T3 (fr _ _ hn' h2) hn' (T.inv.partsIn hk) fun H4 T4 f4 => ?_))
  have fr4 := fr.trans f4.cel
  refine s_retw (w_copy (by array_get_dec) (fr4 _ _ hn' h2) fun c5 hc5 => ?_)
  have E5 := Ext.new (.lst (ps.map partMV)) hc5
  exact hok ps c5 _ hk (Trn.adds ⟨⟨_, T4, (rides_frm T2 fr4).del k⟩, inv_back T.inv hk, T.co, Nat.le_trans (List.length_filter_le _ _) T.len, T.apart, T.kept fr4⟩ hc5) (fr4.trans E5.frm) (fresh_frm T4 fr4 hc5) (MH.set_selfE _ _ _)
end
end Mine
end
section
set_option autoImplicit false
set_option linter.unusedVariables false
namespace Mine
open PySem
section
variable {n : Nat} {hd : Bool} {H H' : MH} {Z : Addr → Prop} {Q : MV → MH → Prop} {X : String → MH → Prop} {t rd hl : Addr} {ra : Int → Addr} {seats stops coming : Int} {R : Rides} {g : Grid}
theorem goes_first {b e : Int} {ps : List Part} (G : Goes seats b ps e) : ∃ p, ps[0]? = some p ∧ p.2.1 = b := by cases G <;> exact ⟨_, rfl, rfl⟩
theorem goes_last {b e : Int} {ps : List Part} (G : Goes seats b ps e) : ∃ p, ps[ps.length - 1]? = some p ∧ p.2.2 = e := by
  induction G with
  | one _ _ _ => exact ⟨_, rfl, rfl⟩
  | @cons s b m e p ps _ _ _ _ t ih => exact ih
/-- told[0][1], told[-1][2] -/
theorem ev_first {Δ : CallT} {ρ : Sto} {x : ME} {c : Addr} {ps : List Part} {b e : Int} (G : Goes seats b ps e) (hx : Ev Δ hd x ρ H (.ref c)) (hc : H c = some (.lst (ps.map partMV))) : Ev Δ hd (.sub (.sub x (.int 0)) (.int 1)) ρ H (.int b) := by
  obtain ⟨p, h1, h2⟩ := goes_first G
  exact Ev.itemT (vs := [.int p.1, .int p.2.1, .int p.2.2]) (Ev.item hx Ev.int hc (atIdx_nn (by decide) (by rw [List.getElem?_map]; exact congrArg _ h1))) Ev.int (h2 ▸ rfl)
theorem ev_last {Δ : CallT} {ρ : Sto} {x : ME} {c : Addr} {ps : List Part} {b e : Int} (G : Goes seats b ps e) (hx : Ev Δ hd x ρ H (.ref c)) (hc : H c = some (.lst (ps.map partMV))) : Ev Δ hd (.sub (.sub x (.neg (.int 1))) (.int 2)) ρ H (.int e) := by
  obtain ⟨p, h1, h2⟩ := goes_last G
  have hne : 0 < ps.length := List.length_pos_iff.mpr G.ne
  have e2 : atIdx (ps.map partMV) (-1) = some (partMV p) := by
    unfold atIdx
    rw [if_neg (by decide), List.length_map, if_pos (by omega), show (-1 + (ps.length : Int)).toNat = ps.length - 1 by omega, List.getElem?_map, h1]; rfl
  exact Ev.itemT (vs := [.int p.1, .int p.2.1, .int p.2.2]) (Ev.item hx (Ev.neg Ev.int) hc e2) Ev.int (h2 ▸ rfl)
theorem goes_leg {b e l : Int} {ps : List Part} (G : Goes seats b ps e) (q1 : b ≤ l) (q2 : l < e) : ∃ s, Covs ps s l := by
  induction G with
  | @one s b e _ _ _ => exact ⟨s, _, .head _, rfl, q1, q2⟩
  | @cons s b m e p ps _ _ _ _ t ih =>
    by_cases hm : l < m
    · exact ⟨s, _, .head _, rfl, q1, hm⟩
    · obtain ⟨x, y, hy, hc⟩ := ih (Int.not_lt.mp hm) q2
      exact ⟨x, y, .tail _ hy, hc⟩
/-- the parts of a ticket that is seated anew -/
noncomputable def anew (g : Grid) (seats stops : Int) (ps : List Part) (b e : Int) : List Part := offer (marks g ps none) seats stops b e
theorem s_reseat (T : Trn H Z t rd hl ra seats stops coming R g) {k : Int} (hok : ∀ ps b e c H', (k, ps) ∈ R → Goes seats b ps e → 0 ≤ b → e ≤ stops - 1 → Trn H' Z t rd hl ra seats stops coming (rSet R k (anew g seats stops ps b e)) (marks (marks g ps none) (anew g seats stops ps b e) (some k)) →
      Frm (Own t rd hl ra seats) H H' → H c = none → H' c = some (.lst ((anew g seats stops ps b e).map partMV)) → Q (.ref c) H')
    (hbad : (∀ ps, (k, ps) ∉ R) → X "NoTicket" H) : callW theP (n + 3) false "reseat" [.ref t, .int k] H Q X := by
  refine call_of (d := f_Train_reseat) rfl rfl ?_
  have a1 := T.at_
  refine s_expr (w_meth (by array_get_dec) a1 rfl (by array_get_dec) (s_need_ticket T (fun ps hk => ?_) hbad))
  obtain ⟨rides, T1, T2⟩ := T.tr
  obtain ⟨c, h1, h2, hn⟩ := T2.get T.inv.asc hk
  have hn' : ¬ Own t rd hl ra seats c := fun q => hn (.inl q)
  obtain ⟨b, e, h0, he, G⟩ := T.inv.goes _ hk
  have p1 := T1.hseats
  have p2 := T1.hstops
  have es : e < stops := Int.lt_of_le_of_lt he (Int.sub_lt_self _ (by decide))
  refine s_assign (Ev.itemD (Ev.attr (by array_get_dec) a1 rfl) (by array_get_dec) T1.rd_ h1) ?_
  refine s_expr (w_meth (by array_get_dec) a1 rfl (vs := [.ref c, mvo none]) (Evs.cons (by array_get_dec) (Evs.cons Ev.none Evs.nil)) (s_mark T1 h2 hn' (T.inv.partsIn hk) fun H2 T3 f2 => ?_))
  have h2' := f2.cel _ _ hn' h2
  have hfree : ∀ leg, b ≤ leg → leg < e → ∃ seat, 0 ≤ seat ∧ seat < seats ∧ marks g ps none seat leg = none := fun l q1 q2 => by
    obtain ⟨s, hc⟩ := goes_leg G q1 q2
    obtain ⟨c1, c2, _, _⟩ := G.cov hc
    exact ⟨s, c1, c2, marks_in hc⟩
  refine s_let (w_meth (by array_get_dec) T3.at_ rfl (Evs.cons (ev_first G (by array_get_dec) h2') (Evs.cons (ev_last G (by array_get_dec) h2') Evs.nil)) (s_found T3 h0 G.lt es hfree fun c2 H3 hc2 E3 h3 => ?_))
  have T4 := T3.ext E3
  have hno2 := T3.not_own hc2
  have T5 := T4.setRides (dSet rides k (.ref c2))
  have fr3 : Frm (Own t rd hl ra seats) H H3 := f2.cel.trans E3.frm
  have fr5 : Frm (Own t rd hl ra seats) H3 (H3.set rd (.dct (dSet rides k (.ref c2)))) := frm_set (.inr (.inl rfl))
  have hb := T.len
  refine s_setIdxD (by array_get_dec) (Ev.attr (by array_get_dec) T4.at_ rfl) (by array_get_dec) T4.rd_ (by rw [T2.len]; exact Nat.lt_of_le_of_lt hb (by decide)) ?_
  refine s_expr (w_meth (by array_get_dec) T5.at_ rfl (vs := [.ref c2, mvo (some k)]) (Evs.cons (by array_get_dec) (Evs.cons (Ev.var (by sizeOf_list_dec)) Evs.nil)) (s_mark T5 (fr5 _ _ hno2 h3) hno2 (foundF_in p1.1 es _ _ h0) fun H6 T6 f6 => ?_))
  have h6 := f6.cel _ _ hno2 (fr5 _ _ hno2 h3)
  refine s_retw (w_copy (by array_get_dec) h6 fun c7 hc7 => ?_)
  have fr : Frm (Own t rd hl ra seats) H H6 := (fr3.trans fr5).trans f6.cel
  have E7 := Ext.new (.lst ((anew g seats stops ps b e).map partMV)) hc7
  have nz : ¬ (Own t rd hl ra seats c2 ∨ Z c2) := fun q => q.elim hno2 fun z => T.kept f2.cel c2 z hc2
  exact hok ps b e c7 _ hk G h0 he (Trn.ext ⟨⟨_, T6, (rides_frm T2 fr).set hk h6 nz⟩, (inv_reseat T.inv p1.1 hk G h0 he rfl).2, T.co, by unfold rSet; rw [List.length_map]; exact hb, T.apart, T.kept fr⟩ E7) (fr.trans E7.frm) (fresh_frm T6 fr hc7) (MH.set_selfE _ _ _)

theorem gone_eq {ps : List Part} {stop : Int} (f : MV → MV) (p : MV → Bool) (hf : ∀ x, f (partMV x) = partMV (x.1, maxI x.2.1 stop, x.2.2)) (hp : ∀ x, p (partMV x) = decide (stop < x.2.2)) : ((ps.map partMV).filter p).map f = (goneL ps stop).map partMV := by
  unfold goneL
  rw [List.filter_map, List.map_map, List.map_map]
  rw [show (p ∘ partMV) = fun x => decide (stop < x.2.2) from funext hp, show (f ∘ partMV) = _ from funext hf]
  rfl
theorem keep_eq {ps : List Part} {stop : Int} (f : MV → MV) (p : MV → Bool) (hf : ∀ x, f (partMV x) = partMV (x.1, x.2.1, minI x.2.2 stop)) (hp : ∀ x, p (partMV x) = decide (x.2.1 < stop)) : ((ps.map partMV).filter p).map f = (keepL ps stop).map partMV := by
  unfold keepL
  rw [List.filter_map, List.map_map, List.map_map]
  rw [show (p ∘ partMV) = fun x => decide (x.2.1 < stop) from funext hp, show (f ∘ partMV) = _ from funext hf]
  rfl
/-- a part's three figures -/
noncomputable def pt1 : MV → Int | .tup [.int a, _, _] => a | _ => 0
noncomputable def pt2 : MV → Int | .tup [_, .int a, _] => a | _ => 0
noncomputable def pt3 : MV → Int | .tup [_, _, .int a] => a | _ => 0
theorem gone_in {ps : List Part} {stop : Int} (h : PartsIn seats stops ps) (h0 : 0 ≤ stop) : PartsIn seats stops (goneL ps stop) := fun x hx => by
  obtain ⟨p, hp, rfl⟩ := List.mem_map.mp hx
  obtain ⟨hp, hs⟩ := List.mem_filter.mp hp
  have hs := of_decide_eq_true hs
  obtain ⟨a1, a2, a3, a4, a5⟩ := h p hp
  refine ⟨a1, a2, ?_, ?_, a5⟩ <;> (dsimp only; split <;> omega)
theorem s_leave (T : Trn H Z t rd hl ra seats stops coming R g) {k stop : Int} (hok : ∀ ps b e c H', (k, ps) ∈ R → Goes seats b ps e → b < stop → stop < e → Trn H' (fun a => Z a ∨ a = c) t rd hl ra seats stops coming (rSet R k (keepL ps stop)) (marks g (goneL ps stop) none) → Frm (Own t rd hl ra seats) H H' → H c = none → H' c = some (.lst ((goneL ps stop).map partMV)) → Q (.ref c) H')
    (hstop : ∀ ps b e, (k, ps) ∈ R → Goes seats b ps e → ¬ (b < stop ∧ stop < e) → X "NoStop" H) (hbad : (∀ ps, (k, ps) ∉ R) → X "NoTicket" H) : callW theP (n + 2) false "leave" [.ref t, .int k, .int stop] H Q X := by
  refine call_of (d := f_Train_leave) rfl rfl ?_
  have a1 := T.at_
  refine s_expr (w_meth (by array_get_dec) a1 rfl (by array_get_dec) (s_need_ticket T (fun ps hk => ?_) hbad))
  obtain ⟨rides, T1, T2⟩ := T.tr
  obtain ⟨c, h1, h2, hn⟩ := T2.get T.inv.asc hk
  have hn' : ¬ Own t rd hl ra seats c := fun q => hn (.inl q)
  obtain ⟨b, e, h0, he, G⟩ := T.inv.goes _ hk
  have p2 := T1.hstops
  have hb := T.len
  have hgl := goes_len G
  have plen : (ps.map partMV).length ≤ bigList := by rw [List.length_map]; unfold bigList; dsimp only at hgl; omega
  refine s_assign (Ev.itemD (Ev.attr (by array_get_dec) a1 rfl) (by array_get_dec) T1.rd_ h1) ?_
  refine s_ite (Ev.not (Ev.chain (ev_first G (by array_get_dec) h2) (EvC.any (by array_get_dec) .lt (EvC.one (ev_last G (by array_get_dec) h2) .lt)))) (fun z => s_raise (hstop ps b e hk G fun w => ?_)) (fun z => s_done ?_)
  · rw [decide_eq_true w.1, decide_eq_true w.2] at z; exact Bool.noConfusion z
  obtain ⟨z1, z2⟩ := Bool.and_eq_true_iff.mp ((Bool.not_eq_false' _) ▸ z)
  have q1 := of_decide_eq_true z1
  have q2 := of_decide_eq_true z2
  refine s_let (w_compL (fun v => decide (stop < pt3 v)) (fun v => .tup [.int (pt1 v), .int (maxI (pt2 v) stop), .int (pt3 v)]) (by array_get_dec) h2 plen (fun v hv => ?_) (fun v hv _ => ?_) ?_)
  · obtain ⟨p, hp, rfl⟩ := List.mem_map.mp hv; array_get_dec
  · obtain ⟨p, hp, rfl⟩ := List.mem_map.mp hv
    exact Ev.tup (Evs.cons (by array_get_dec) (Evs.cons (Ev.max (by array_get_dec) (by array_get_dec)) (Evs.cons (by array_get_dec) Evs.nil)))
  rw [gone_eq (stop := stop) _ _ (fun _ => rfl) (fun _ => rfl)]
  intro c2 hc2
  have E1 := Ext.new (.lst ((goneL ps stop).map partMV)) hc2
  have T3 := T1.ext E1
  have hno2 := T1.not_own hc2
  refine s_expr (w_meth (by array_get_dec) T3.at_ rfl (vs := [.ref c2, mvo none]) (Evs.cons (by array_get_dec) (Evs.cons Ev.none Evs.nil)) (s_mark T3 (MH.set_selfE _ _ _) hno2 (gone_in (T.inv.partsIn hk) (by omega)) fun H4 T4 f4 => ?_))
  have h4 : H4 c = some (.lst (ps.map partMV)) := f4.cel _ _ hn' (E1 _ _ h2)
  have h42 : H4 c2 = some (.lst ((goneL ps stop).map partMV)) := f4.cel _ _ hno2 (MH.set_selfE _ _ _)
  refine s_setIdxw (w_compL (fun v => decide (pt2 v < stop)) (fun v => .tup [.int (pt1 v), .int (pt2 v), .int (minI (pt3 v) stop)]) (by array_get_dec) h4 plen (fun v hv => ?_) (fun v hv _ => ?_) ?_)
  · obtain ⟨p, hp, rfl⟩ := List.mem_map.mp hv; array_get_dec
  · obtain ⟨p, hp, rfl⟩ := List.mem_map.mp hv
    exact Ev.tup (Evs.cons (by array_get_dec) (Evs.cons (by array_get_dec) (Evs.cons (Ev.min (by array_get_dec) (by array_get_dec)) Evs.nil)))
  rw [keep_eq (stop := stop) _ _ (fun _ => rfl) (fun _ => rfl)]
  intro c5 hc5
  have E5 := Ext.new (.lst ((keepL ps stop).map partMV)) hc5
  have T5 := T4.ext E5
  have hno5 := T4.not_own hc5
  have T6 := T5.setRides (dSet rides k (.ref c5))
  have fr4 : Frm (Own t rd hl ra seats) H H4 := E1.frm.trans f4.cel
  have fr6 : Frm (Own t rd hl ra seats) (H4.set c5 (.lst ((keepL ps stop).map partMV))) ((H4.set c5 (.lst ((keepL ps stop).map partMV))).set rd (.dct (dSet rides k (.ref c5)))) := frm_set (.inr (.inl rfl))
  have fr := (fr4.trans E5.frm).trans fr6
  have nz : ¬ (Own t rd hl ra seats c5 ∨ (Z c5 ∨ c5 = c2)) := fun q => q.elim hno5 fun z => z.elim (fun z => T.kept fr4 c5 z hc5) fun q => mne hc5 h42 q.symm
  refine Ev.attr (x := .ref rd) (by array_get_dec) T5.at_ rfl _ _ (Ev.var (v := .int k) (by sizeOf_list_dec) _ _ (SetIdxR.dct T5.rd_ (by rw [T2.len]; exact Nat.lt_of_le_of_lt hb (by decide)) ?_))
  have hfin := fr6 _ _ hno2 (E5 _ _ h42)
  exact s_ret (by array_get_dec) (hok ps b e c2 _ hk G q1 q2 ⟨⟨_, T6, (rides_frm (rides_more T2 hc2) fr).set hk (fr6 _ _ hno5 (MH.set_selfE _ _ _)) nz⟩, inv_leave T.inv hk G q1 q2, T.co, by unfold rSet; rw [List.length_map]; exact hb, fun a z => z.elim (T.apart a) fun z => z ▸ hno2, fun a z => z.elim (T.kept fr a) fun z => by rw [z, hfin]; exact fun z => (by cases z)⟩ fr hc2 hfin)
theorem offer_goes {b e : Int} (p1 : 1 ≤ seats) (h0 : 0 ≤ b) (h1 : b < e) (h2 : e < stops) (hb : blockF g seats (e - b).toNat b = none) : Goes seats b (offer g seats stops b e) e ∧ ∀ s l, Covs (offer g seats stops b e) s l → g s l = none :=
  found_goes p1 h2 _ b h0 h1 (Nat.le_refl _) fun l q1 q2 => full_free (block_none _ _ rfl hb l q1 q2)
theorem t_sell (T : Trn H Z t rd hl ra seats stops coming R g) (hl5 : R.length < 5000) {b e : Int} (hok : 0 ≤ b → b < e → e < stops → blockF g seats (e - b).toNat b = none → ∀ H', Frm (Own t rd hl ra seats) H H' →
      Trn H' Z t rd hl ra seats stops (coming + 1) (R ++ [(coming, offer g seats stops b e)]) (marks g (offer g seats stops b e) (some coming)) → Q (.int coming) H')
    (hfull : ∀ x H', 0 ≤ b → b < e → e < stops → blockF g seats (e - b).toNat b = some x → Ext H H' → X "Full" H') (hbad : ¬ (0 ≤ b ∧ b < e ∧ e < stops) → X "NoStretch" H) : callW theP (n + 4) false "sell" [.ref t, .int b, .int e] H Q X := by
  obtain ⟨rides, T1, T2⟩ := T.tr
  refine s_sell T1 (by rw [T2.len]; omega) (fun h0 h1 h2 hb c H' hc f h' T' => ?_) hfull hbad
  obtain ⟨G, hf⟩ := offer_goes (stops := stops) T1.hseats.1 h0 h1 h2 hb
  exact hok h0 h1 h2 hb H' f ⟨⟨_, T', (rides_frm T2 f).new (fun x hx => (T.inv.rng x hx).2) h' (T.not_z hc)⟩, inv_sell T.inv T.co G h0 (Int.le_sub_one_of_lt h2) hf, Int.le_add_one T.co, by rw [List.length_append]; exact hl5, T.apart, T.kept f⟩
end
end Mine
end
section
set_option autoImplicit false
set_option linter.unusedVariables false
namespace Mine
open PySem
section
variable {n : Nat} {hd : Bool} {H H' : MH} {Z : Addr → Prop} {Q : MV → MH → Prop} {X : String → MH → Prop} {t rd hl : Addr} {ra : Int → Addr} {seats stops coming : Int} {R : Rides} {g : Grid}
theorem ext_ne {c1 : Addr} {o1 o : MObj} {a c : Addr} (h1 : H c1 = none) (hc : H.set c1 o1 c = none) (h : H a = some o) : a ≠ c := mne hc (Ext.new o1 h1 _ _ h)
theorem rows_at {rows : List Addr} {i : Int} (h0 : 0 ≤ i) (h1 : i < rows.length) : ∃ h : i.toNat < rows.length, rows.getD i.toNat 0 = rows[i.toNat] := by
  have hh : i.toNat < rows.length := (Int.toNat_lt h0).mpr h1
  exact ⟨hh, by rw [List.getD_eq_getElem?_getD, List.getElem?_eq_getElem hh]; rfl⟩
theorem rows_refs {rows : List Addr} {m : Nat} (h : rows.length = m) : rows.map MV.ref = refsOf (fun i => rows.getD i.toNat 0) m := by
  apply List.ext_getElem?
  intro k
  unfold refsOf
  rw [List.getElem?_map, List.getElem?_map]
  by_cases hk : k < m
  · rw [List.getElem?_range hk, List.getElem?_eq_getElem (h ▸ hk), Option.map_some, Option.map_some]; show _ = some (MV.ref (rows.getD k 0)); rw [List.getD_eq_getElem?_getD, List.getElem?_eq_getElem (h ▸ hk)]; rfl
  · rw [List.getElem?_eq_none (Nat.le_of_not_lt (h ▸ hk)), List.getElem?_eq_none (by rw [List.length_range]; exact Nat.le_of_not_lt hk)]; rfl
theorem row_none {i : Int} {m : Nat} : List.replicate m MV.none = rowOf (fun _ _ => none) i m := by
  unfold rowOf; rw [List.map_const', List.length_range]; rfl
/-- a new grid of cells -/
theorem w_grid {Δ : CallT} {ρ : Sto} {x : String} {it m : ME} {Y : String → MH → Prop} (hit : Ev Δ false it ρ H (.rng 0 seats 1)) (p1 : 1 ≤ seats ∧ seats ≤ 60) (p2 : 2 ≤ stops ∧ stops ≤ 60) (hm : ∀ v H', Ev Δ false m (ρ.set x v) H' (.int (stops - 1)))
    (h : ∀ c rb H', Ext H H' → Gd H' c rb seats stops (fun _ _ => none) → H c = none → (∀ i, 0 ≤ i → i < seats → H (rb i) = none) → Q (.ref c) H') : wE Δ false (.comp (.bin .mul (.list (.cons .none .nil)) m) x it (.bool true)) ρ H Q Y := by
  refine ⟨rfl, hit _ _ ⟨_, .rng, comp_inv (fun vs acc H' => ∃ rows : List Addr, acc = rows.map .ref ∧ rows.length + vs.length = seats.toNat ∧ rows.Nodup ∧ (∀ x ∈ rows, H x = none ∧ H' x = some (.lst (List.replicate (stops - 1).toNat .none))) ∧ Ext H H') (fun _ _ _ _ => .rng) (fun _ _ _ h => h) ?_ ?_ _ _ _ ?_ ⟨[], rfl, ?_, .nil, ⟨fun _ h => (by cases h), Ext.refl _⟩⟩⟩⟩
  · rintro v vs acc H' k ⟨rows, e1, e2, e0, e3, E⟩ hk c1 hc1
    refine hm _ _ _ _ (BinR.rep (MH.set_selfE _ _ _) (by omega) (by unfold bigList; omega) fun c2 hc2 => ?_)
    have hE : Ext H' ((H'.set c1 (.lst [MV.none])).set c2 (.lst (List.replicate (stops - 1).toNat .none))) := (Ext.new _ hc1).trans (Ext.new _ hc2)
    have c0 : H c2 = none := none_of_ext (E.trans (Ext.new _ hc1)) hc2
    refine hk _ _ ⟨rows ++ [c2], by rw [e1, List.map_append]; rfl, by rw [List.length_cons] at e2; rw [List.length_append, List.length_singleton]; omega, ?_, fun y hy => ?_, E.trans hE⟩
    · rw [List.nodup_append]
      exact ⟨e0, List.pairwise_singleton _ _, fun y hy z hz => List.mem_singleton.mp hz ▸ ext_ne hc1 hc2 (e3 y hy).2⟩
    · rcases List.mem_append.mp hy with hy | hy
      · exact ⟨(e3 y hy).1, hE _ _ (e3 y hy).2⟩
      · obtain rfl := List.mem_singleton.mp hy; exact ⟨c0, MH.set_selfE _ _ _⟩
  · rintro acc H' c ⟨rows, e1, e2, e0, e3, E⟩ hc
    have e2 : rows.length = seats.toNat := e2
    have el : (rows.length : Int) = seats := by rw [e2]; exact Int.toNat_of_nonneg (by omega)
    have E2 := Ext.new (.lst acc) hc
    have mem : ∀ i, 0 ≤ i → i < seats → rows.getD i.toNat 0 ∈ rows := fun i h0 h1 => by obtain ⟨q, e⟩ := rows_at (rows := rows) h0 (el ▸ h1); rw [e]; exact List.getElem_mem q
    refine h c (fun i => rows.getD i.toNat 0) _ (E.trans E2) ⟨p1, p2, (MH.set_selfE _ _ _).trans (by rw [e1, rows_refs e2]), fun i h0 h1 => (E2 _ _ (e3 _ (mem i h0 h1)).2).trans (by rw [row_none]), fun i j h0 h1 h2 h3 q => ?_, fun i h0 h1 => mne hc (e3 _ (mem i h0 h1)).2⟩ (none_of_ext E hc) fun i h0 h1 => (e3 _ (mem i h0 h1)).1
    obtain ⟨i2, i3⟩ := rows_at (rows := rows) h0 (el ▸ h1)
    obtain ⟨j2, j3⟩ := rows_at (rows := rows) h2 (el ▸ h3)
    have q' : rows[i.toNat] = rows[j.toNat] := i3.symm.trans (q.trans j3)
    have := (List.getElem_inj e0).mp q'
    omega
  · rw [List.length_map, rangeL_len1, List.length_nil, Nat.zero_add]; unfold bigList; omega
  · rw [List.length_map, rangeL_len1, List.length_nil, Nat.zero_add, Int.sub_zero]
theorem t_init {a : Addr} {seats stops : Int} (ha : H a = some (.inst [])) (p1 : 1 ≤ seats ∧ seats ≤ 60) (p2 : 2 ≤ stops ∧ stops ≤ 60)
    (hok : ∀ H' rd hl ra, Trn H' (fun _ => False) a rd hl ra seats stops 0 [] (fun _ _ => none) → (∀ b, Own a rd hl ra seats b → b = a ∨ H b = none) → (∀ b o, b ≠ a → H b = some o → H' b = some o) → Q .none H') : callW theP (n + 1) false "__init__" [.ref a, .int seats, .int stops] H Q X := by
  refine call_of (d := f_Train_init) rfl rfl ?_
  have o1 : ∀ {lo v : Int} {e : ME} {ρ : Sto}, lo ≤ v → v ≤ 60 → Ev (callW theP n) false e ρ H (.int v) → Ev (callW theP n) false (.not (.cmp (.int lo) (.cons .le e (.cons .le (.gconst "MOST" (.int 60)) .nil)))) ρ H (.bool false) := fun h1 h2 he =>
    Ev.not (b := true) (Ev.chain Ev.int (EvC.t he (decide_eq_true h1 ▸ .le) (EvC.one Ev.gconst (decide_eq_true h2 ▸ .le))))
  refine s_skip (Ev.or (EvO.f (o1 p1.1 p1.2 (by array_get_dec)) (EvO.one (o1 p2.1 p2.2 (by array_get_dec))))) ?_
  have sa : ∀ {H1 : MH} {fs : List (String × MV)} {e : ME} {f : String} {v : MV} {ρ : Sto} {ss : MSs} {N : Sto → MH → Prop} {R : MV → MH → Prop} {Y : String → Sto → MH → Prop}, ρ "self" = some (.ref a) → fs.length < 100 → Ev (callW theP n) false e ρ (H1.set a (.inst fs)) v → wSs (callW theP n) false ss ρ ((H1.set a (.inst fs)).set a (.inst (fsSet fs f v))) N R Y → wSs (callW theP n) false (.cons (.setAttr (.var "self") f e) ss) ρ (H1.set a (.inst fs)) N R Y :=
    fun hs hl he h => s_setAttr he (Ev.var hs) (MH.set_selfE _ _ _) hl h
  refine s_setAttr (by array_get_dec) (by array_get_dec) ha (by decide) (sa rfl (by show 1 < 100; decide) (by array_get_dec) (sa rfl (by show 2 < 100; decide) (by array_get_dec) ?_))
  refine s_setAttrw fun r hr => ?_
  have nr : ∀ {b : Addr} {o : MObj}, H b = some o → b ≠ a → b ≠ r := fun h n => mne hr ((MH.set_neE _ _ n).trans ((MH.set_neE _ _ n).trans ((MH.set_neE _ _ n).trans h)))
  have ra : a ≠ r := mne hr (MH.set_selfE _ _ _)
  have r0 : H r = none := by
    cases q : H r with
    | none => rfl
    | some o => exact absurd rfl (nr q ra.symm)
  refine Ev.var (v := .ref a) rfl _ _ (SetAttrR.mk ((MH.set_neE _ _ ra).trans (MH.set_selfE _ _ _)) (by show 3 < 100; decide) ?_)
  refine s_setAttrw (w_grid (seats := seats) (stops := stops) (Ev.range1 (by array_get_dec) (smallOf (by omega) (by omega))) p1 p2 (fun v H' => by array_get_dec) fun c rb H4 E4 G hc hrb => ?_)
  have a4 := E4 _ _ (MH.set_selfE _ _ _)
  have r4 : H4 r = some (.dct []) := E4 _ _ ((MH.set_neE _ _ ra.symm).trans (MH.set_selfE _ _ _))
  have keep : ∀ {b : Addr} {o : MObj}, b ≠ a → H b = some o → H4 b = some o := fun n h => E4 _ _ ((MH.set_neE _ _ n).trans ((MH.set_neE _ _ (nr h n)).trans ((MH.set_neE _ _ n).trans ((MH.set_neE _ _ n).trans ((MH.set_neE _ _ n).trans h)))))
  refine Ev.var (v := .ref a) rfl _ _ (SetAttrR.mk a4 (by show 4 < 100; decide) ?_)
  have ca : c ≠ a := fun q => mne hc (MH.set_selfE _ _ _) q.symm
  have cela : ∀ i, 0 ≤ i → i < seats → rb i ≠ a := fun i h0 h1 q => mne (hrb i h0 h1) (MH.set_selfE _ _ _) q.symm
  have old : ∀ {b : Addr} {o1 o2 o3 o4 : MObj}, b ≠ a → (((((H.set a o1).set a o2).set a o3).set r (.dct [])).set a o4) b = none → H b = none := fun {b o1 o2 o3 o4} n h => by
    cases q : H b with
    | none => rfl
    | some o => exact absurd ((MH.set_neE _ _ n).trans ((MH.set_neE _ _ (nr q n)).trans ((MH.set_neE _ _ n).trans ((MH.set_neE _ _ n).trans ((MH.set_neE _ _ n).trans q))))) (by rw [h]; exact fun z => by cases z)
  have G' : Gd (H4.set a (.inst (trFs seats stops 0 r c))) c rb seats stops (fun _ _ => none) := G.keep fun b o z h => (MH.set_neE _ _ (z.elim (fun z => z ▸ ca) fun ⟨i, h0, h1, e⟩ => e ▸ cela i h0 h1)).trans h
  exact hok _ r c rb ⟨⟨[], ⟨G', MH.set_selfE _ _ _, (MH.set_neE _ _ ra.symm).trans r4⟩, .nil⟩, inv_init, Int.le_refl _, Nat.zero_le _, fun _ z => z.elim, fun _ z => z.elim⟩
    (fun b z => by
      rcases z with z | z | z | ⟨i, h0, h1, z⟩
      · exact .inl z
      · exact .inr (z ▸ r0)
      · exact .inr (z ▸ old ca hc)
      · exact .inr (z ▸ old (cela i h0 h1) (hrb i h0 h1))) (fun b o n h => (MH.set_neE _ _ n).trans (keep n h))
end
end Mine
end
section
set_option autoImplicit false
set_option linter.unusedVariables false
namespace Mine
open PySem
section
variable {n : Nat} {hd : Bool} {H H' : MH} {Z : Addr → Prop} {Q : MV → MH → Prop} {X : String → MH → Prop} {t rd hl : Addr} {ra : Int → Addr} {seats stops coming : Int} {R : Rides} {g : Grid}
theorem fm_pos (a : Int) {m : Int} (h : 0 < m) : 0 ≤ a.fmod m ∧ a.fmod m < m := ⟨Int.fmod_nonneg_of_pos _ h, Int.fmod_lt_of_pos _ h⟩
theorem at_pick {ls : List MV} {i : Int} (h0 : 0 ≤ i) (h1 : i < ls.length) : ∃ v, v ∈ ls ∧ atIdx ls i = some v := by
  have hh : i.toNat < ls.length := (Int.toNat_lt h0).mpr h1
  exact ⟨ls[i.toNat], List.getElem_mem hh, atIdx_nn h0 (List.getElem?_eq_getElem hh)⟩
/-- a figure over another, by constants -/
theorem ev_dm {Δ : CallT} {ρ : Sto} {e : ME} {a : Int} (d m : Int) (he : Ev Δ hd e ρ H (.int a)) (h : d ≠ 0) (h2 : d.natAbs < 1073741824) (h3 : m ≠ 0) : Ev Δ hd (.bin .mod (.bin .fdiv e (.int d)) (.int m)) ρ H (.int ((a.fdiv d).fmod m)) := Ev.mod (Ev.fdiv he Ev.int h h2) Ev.int h3
theorem s_cell_at {script : Addr} {is : List Int} {k : Int} (hH : H script = some (.ro (is.map .int))) (hk : 0 ≤ k) (h : ∀ v, Q (.int v) H) : callW theP (n + 1) hd "_law_cell_at" [.ref script, .int k] H Q X := by
  refine call_of (d := f__law_cell_at) rfl rfl ?_
  refine s_ite (Ev.cmp (by array_get_dec) (Ev.lenR (by array_get_dec) hH) .lt) (fun q => ?_) (fun _ => s_done (s_ret Ev.int (h _)))
  obtain ⟨v, hv, e⟩ := at_pick hk (of_decide_eq_true q)
  obtain ⟨i, _, rfl⟩ := List.mem_map.mp hv
  exact s_ret (Ev.itemR (by array_get_dec) (by array_get_dec) hH e) (h _)
theorem s_seats {c : Int} (h : ∀ v, 1 ≤ v → v ≤ 60 → Q (.int v) H) : callW theP (n + 1) hd "_law_seats" [.int c] H Q X := by
  refine call_of (d := f__law_seats) rfl rfl ?_
  have e1 := fm_pos (c.fdiv 40) (m := 11) (by decide)
  have e2 := fm_pos (c.fdiv 40) (m := 44) (by decide)
  have e3 := fm_pos c (m := 5) (by decide)
  refine s_ite (Ev.cmp (ev_dm 5 8 (by array_get_dec) (by decide) (by decide) (by decide)) Ev.int .eqi) (fun _ => s_ret (Ev.add Ev.int (ev_dm 40 11 (by array_get_dec) (by decide) (by decide) (by decide))) (h _ (by omega) (by omega))) (fun _ => s_done ?_)
  refine s_ite (Ev.cmp (ev_dm 5 8 (by array_get_dec) (by decide) (by decide) (by decide)) Ev.int .eqi) (fun _ => s_ret (Ev.add Ev.int (ev_dm 40 44 (by array_get_dec) (by decide) (by decide) (by decide))) (h _ (by omega) (by omega))) (fun _ => s_done ?_)
  exact s_ret (Ev.add Ev.int (Ev.mod (by array_get_dec) Ev.int (by decide))) (h _ (by omega) (by omega))
theorem s_stops {c : Int} (h : ∀ v, 2 ≤ v → v ≤ 60 → Q (.int v) H) : callW theP (n + 1) hd "_law_stops" [.int c] H Q X := by
  refine call_of (d := f__law_stops) rfl rfl ?_
  have e1 := fm_pos (c.fdiv 64) (m := 11) (by decide)
  have e2 := fm_pos (c.fdiv 64) (m := 40) (by decide)
  have e3 := fm_pos c (m := 8) (by decide)
  refine s_ite (Ev.cmp (ev_dm 8 8 (by array_get_dec) (by decide) (by decide) (by decide)) Ev.int .eqi) (fun _ => s_ret (Ev.add Ev.int (ev_dm 64 11 (by array_get_dec) (by decide) (by decide) (by decide))) (h _ (by omega) (by omega))) (fun _ => s_done ?_)
  refine s_ite (Ev.cmp (ev_dm 8 8 (by array_get_dec) (by decide) (by decide) (by decide)) Ev.int .eqi) (fun _ => s_ret (Ev.add Ev.int (ev_dm 64 40 (by array_get_dec) (by decide) (by decide) (by decide))) (h _ (by omega) (by omega))) (fun _ => s_done ?_)
  exact s_ret (Ev.add Ev.int (Ev.mod (by array_get_dec) Ev.int (by decide))) (h _ (by omega) (by omega))
noncomputable def someL : List Int := [99991, 99989, 99971, 99961, 99929, 99923, 99907, 99901, 99881, 99877, 99871]
theorem some_ok : ∀ d ∈ someL, 0 < d ∧ d ≤ 100000 := by decide
theorem s_mixed {c k m : Int} (hk : 0 ≤ k) (hm : 0 < m) (h : ∀ v H', 0 ≤ v → v < m → Ext H H' → Q (.int v) H') : callW theP (n + 1) hd "_law_mixed" [.int c, .int k, .int m] H Q X := by
  refine call_of (d := f__law_mixed) rfl rfl ?_
  refine s_let (w_list (vs := someL.map .int) (by array_get_dec) fun a ha => ?_)
  have e := fm_pos k (m := 11) (by decide)
  obtain ⟨v, hv, ev⟩ := at_pick (ls := someL.map .int) e.1 e.2
  obtain ⟨d, hd', rfl⟩ := List.mem_map.mp hv
  obtain ⟨d0, d1⟩ := some_ok d hd'
  have md := fm_pos ((c + 7 * k) * 48271) d0
  have mk : mulOk (((c + 7 * k) * 48271).fmod d) (((c + 7 * k) * 48271).fmod d) := .inl (by omega)
  refine s_assign (Ev.mod (Ev.mul (Ev.add (by array_get_dec) (Ev.mul Ev.int (by array_get_dec) (.inl (by decide)))) Ev.int (.inr (by decide))) (Ev.item (by array_get_dec) (Ev.mod (by array_get_dec) Ev.int (by decide)) (MH.set_selfE _ _ _) ev) (Int.ne_of_gt d0)) ?_
  have fin := fm_pos ((((((c + 7 * k) * 48271).fmod d) * (((c + 7 * k) * 48271).fmod d)) * 7 + (((c + 7 * k) * 48271).fmod d) + k).fmod 1000003) hm
  exact s_ret (Ev.mod (Ev.mod (Ev.add (Ev.add (Ev.mul (Ev.mul (by array_get_dec) (by array_get_dec) mk) Ev.int (.inr (by decide))) (by array_get_dec)) (by array_get_dec)) Ev.int (by decide)) (by array_get_dec) (Int.ne_of_gt hm)) (h _ _ fin.1 fin.2 (Ext.new _ ha))
theorem s_stretch_by {c stops : Int} (hs : 2 ≤ stops ∧ stops ≤ 60) (h : ∀ b e H', 0 ≤ b → b < e → e < stops → Ext H H' → Q (.tup [.int b, .int e]) H') : callW theP (n + 2) false "_law_stretch_by" [.int c, .int stops] H Q X := by
  refine call_of (d := f__law_stretch_by) rfl rfl ?_
  refine s_let (w_call (by array_get_dec) (s_mixed (by decide) (by omega) fun b H1 b0 b1 E1 => ?_))
  have rest : ∀ {b : Int} {ρ : Sto}, 0 ≤ b → b < stops - 1 → ρ "_law_cell" = some (.int c) → ρ "_law_stops_here" = some (.int stops) → ρ "_law_begin" = some (.int b) → wSs (callW theP (n + 1)) false
      (.cons (.assign "_law_end" (.bin .add (.bin .add (.var "_law_begin") (.int 1)) (.call "_law_mixed" (.cons (.var "_law_cell") (.cons (.int 2) (.cons (.bin .sub (.bin .sub (.var "_law_stops_here") (.int 1)) (.var "_law_begin")) .nil))))))
      (.cons (.ite (.cmp (.bin .mod (.bin .fdiv (.var "_law_cell") (.int 27)) (.int 3)) (.cons .eq (.int 1) .nil))
      (.cons (.assign "_law_end" (.bi "min" (.cons (.bin .add (.bin .add (.var "_law_begin") (.int 1)) (.bin .mod (.bin .fdiv (.var "_law_cell") (.int 81)) (.int 3))) (.cons (.bin .sub (.var "_law_stops_here") (.int 1)) .nil)))) .nil) .nil)
      (.cons (.ret (.tup (.cons (.var "_law_begin") (.cons (.var "_law_end") .nil)))) .nil))) ρ H1 (fun _ H' => Q .none H') Q (fun c _ H' => X c H') := by
    intro b ρ b0 b1 g1 g2 g3
    refine s_let (Ev.add (by array_get_dec) Ev.int _ _ (w_call (by array_get_dec) (s_mixed (by decide) (by omega) fun v H2 v0 v1 E2 => BinR.add ?_)))
    refine s_ite (Ev.cmp (ev_dm 27 3 (by array_get_dec) (by decide) (by decide) (by decide)) Ev.int .eqi) (fun _ => ?_) (fun _ => s_done (s_ret (by array_get_dec) (h _ _ _ b0 (by omega) (by omega) (E1.trans E2))))
    have f := fm_pos (c.fdiv 81) (m := 3) (by decide)
    refine s_assign (Ev.min (Ev.add (by array_get_dec) (ev_dm 81 3 (by array_get_dec) (by decide) (by decide) (by decide))) (by array_get_dec)) (s_done (s_ret (by array_get_dec) (h _ _ _ b0 ?_ ?_ (E1.trans E2))))
    · unfold minI; split <;> omega
    · unfold minI; split <;> omega
  refine s_ite (Ev.cmp (ev_dm 9 3 (by array_get_dec) (by decide) (by decide) (by decide)) Ev.int .eqi) (fun _ => s_assign Ev.int (s_done (rest (by decide) (by omega) rfl rfl rfl))) (fun _ => s_done (rest b0 b1 rfl rfl rfl))
/-! the word of an exception -/
noncomputable def clsTab : List (String × String) := [("NoTrain", "train"), ("NoStretch", "stretch"), ("NoSeat", "seat"), ("NoStop", "stop"), ("NoLeg", "leg"), ("NoTicket", "ticket"), ("Full", "full"), ("Shared", "shared"), ("NoText", "text")]
noncomputable def clsChain : List (String × String) → MSs → MSs
  | [], r => r
  | p :: l, r => .cons (.ite (.isinst (.var "_law_e") p.1) (.cons (.expr (.bm (.var "_law_words") "append" (.cons (.str p.2) .nil))) .nil) .nil) (clsChain l r)
noncomputable def wordOf (c : String) : String := ((clsTab.filter fun p => p.1 == c).map (·.2)).headD ""
theorem word_one : ∀ c ∈ excNames, (clsTab.filter fun p => p.1 == c).map (·.2) = [wordOf c] := by decide
theorem cls_names : ∀ p ∈ clsTab, excNames.contains p.1 = true := by decide
theorem chain_go {Δ : CallT} {ρ : Sto} {a : Addr} {c : String} {rest : MSs} {N : Sto → MH → Prop} {R : MV → MH → Prop} {Y : String → Sto → MH → Prop} (g1 : ρ "_law_e" = some (.exc c)) (g2 : ρ "_law_words" = some (.ref a)) :
    ∀ (l : List (String × String)) (acc : List MV) (H : MH), (∀ p ∈ l, excNames.contains p.1 = true) → acc.length + l.length ≤ 100 → H a = some (.lst acc) → (∀ H', (∀ b, b ≠ a → H' b = H b) → H' a = some (.lst (acc ++ ((l.filter fun p => p.1 == c).map fun p => MV.str (Str.ofString p.2)))) → wSs Δ hd rest ρ H' N R Y) → wSs Δ hd (clsChain l rest) ρ H N R Y := by
  intro l
  induction l with
  | nil => intro acc H _ _ ha h; exact h H (fun _ _ => rfl) (by rw [ha, List.filter_nil, List.map_nil, List.append_nil])
  | cons p l ih =>
    intro acc H hl hn ha h
    rw [List.length_cons] at hn
    refine s_ite (Ev.isi (Ev.var g1) (.exc (hl p (.head _)))) (fun q => s_expr (w_append (Ev.var g2) ha Ev.str (by unfold bigList; omega) (s_done ?_))) (fun q => s_done ?_)
    · refine ih _ _ (fun x hx => hl x (.tail _ hx)) (by rw [List.length_append, List.length_singleton]; omega) (MH.set_selfE _ _ _) fun H' k e => h H' (fun b nb => (k b nb).trans (MH.set_neE _ _ nb)) ?_
      rw [e, List.filter_cons_of_pos (p := fun (p : String × String) => p.1 == c) q, List.map_cons, List.append_assoc]; rfl
    · refine ih _ _ (fun x hx => hl x (.tail _ hx)) (by omega) ha fun H' k e => h H' k ?_
      rw [e, List.filter_cons_of_neg (p := fun (p : String × String) => p.1 == c) (by rw [q]; exact Bool.noConfusion)]
theorem s_class {c : String} (hc : excNames.contains c = true) (h : ∀ H', Ext H H' → Q (.str (Str.ofString (wordOf c))) H') : callW theP (n + 1) hd "_law_class" [.exc c] H Q X := by
  refine call_of (d := f__law_class) rfl rfl ?_
  refine s_let (w_list Evs.nil fun a ha => ?_)
  refine chain_go (l := clsTab) (c := c) (a := a) rfl rfl _ _ cls_names (by decide) (MH.set_selfE _ _ _) fun H' k e => ?_
  have e2 : H' a = some (.lst [.str (Str.ofString (wordOf c))]) := by
    have := congrArg (List.map fun w => MV.str (Str.ofString w)) (word_one c (List.contains_iff_mem.mp hc))
    rw [List.map_map] at this
    rw [e, List.nil_append]; exact congrArg (fun l => some (MObj.lst l)) this
  refine s_iteT (Ev.and (EvA.t (Ev.cmp (Ev.lenL (by array_get_dec) e2) Ev.int .eqi) (EvA.one (Ev.isi (by array_get_dec) .val)))) (s_ret (Ev.item (by array_get_dec) Ev.int e2 rfl) (h _ fun b o hb => (k b (mne ha hb)).trans (Ext.new _ ha _ _ hb)))
end
end Mine
end
section
set_option autoImplicit false
set_option linter.unusedVariables false
namespace Mine
open PySem
section
variable {n : Nat} {hd : Bool} {H H' : MH} {Z : Addr → Prop} {Q : MV → MH → Prop} {X : String → MH → Prop} {t rd hl : Addr} {ra : Int → Addr} {seats stops coming : Int} {R : Rides} {g : Grid}
theorem s_whole {i : Int} (h : Q (.bool true) H) : callW theP (n + 1) hd "_law_whole" [.int i] H Q X :=
  call_of (d := f__law_whole) rfl rfl (s_ret (Ev.and (EvA.t (Ev.isi (by array_get_dec) .ii) (EvA.one (Ev.not (Ev.isi (by array_get_dec) .bi))))) h)
end
end Mine
end
section
set_option autoImplicit false
set_option linter.unusedVariables false
namespace Mine
open PySem
/-- a deed of the law -/
noncomputable def deedMV (k : String) (a b : Int) : MV := .tup [.str (Str.ofString k), .int a, .int b]
section
variable {n : Nat} {hd : Bool} {H H' : MH} {Z : Addr → Prop} {Q : MV → MH → Prop} {X : String → MH → Prop} {t rd hl : Addr} {ra : Int → Addr} {seats stops coming : Int} {R : Rides} {g : Grid}
theorem dec_str {a b : String} : decide (Str.ofString a = Str.ofString b) = decide (a = b) := decide_eq_decide.mpr ofString_eq
theorem ev_kind {Δ : CallT} {ρ : Sto} {x : ME} {k s : String} {a b : Int} (hx : Ev Δ hd x ρ H (deedMV k a b)) : Ev Δ hd (.cmp (.sub x (.int 0)) (.cons .eq (.str s) .nil)) ρ H (.bool (decide (k = s))) := dec_str ▸ Ev.cmp (Ev.itemT hx Ev.int rfl) Ev.str .eqs
theorem ev_kindn {Δ : CallT} {ρ : Sto} {x : ME} {k s : String} {a b : Int} (hx : Ev Δ hd x ρ H (deedMV k a b)) : Ev Δ hd (.cmp (.sub x (.int 0)) (.cons .ne (.str s) .nil)) ρ H (.bool (!decide (k = s))) := dec_str ▸ Ev.cmp (Ev.itemT hx Ev.int rfl) Ev.str .nes
theorem ev_d1 {Δ : CallT} {ρ : Sto} {x : ME} {k : String} {a b : Int} (hx : Ev Δ hd x ρ H (deedMV k a b)) : Ev Δ hd (.sub x (.int 1)) ρ H (.int a) := Ev.itemT hx Ev.int rfl
theorem ev_d2 {Δ : CallT} {ρ : Sto} {x : ME} {k : String} {a b : Int} (hx : Ev Δ hd x ρ H (deedMV k a b)) : Ev Δ hd (.sub x (.int 2)) ρ H (.int b) := Ev.itemT hx Ev.int rfl
/-- why a sale or an offer fails -/
noncomputable def sellFail (g : Grid) (seats stops b e : Int) : Option String := if 0 ≤ b ∧ b < e ∧ e < stops then (if (blockF g seats (e - b).toNat b).isSome then some "Full" else none) else some "NoStretch"
theorem fail_full {b e x : Int} (h0 : 0 ≤ b) (h1 : b < e) (h2 : e < stops) (h : blockF g seats (e - b).toNat b = some x) : sellFail g seats stops b e = some "Full" := by unfold sellFail; rw [if_pos ⟨h0, h1, h2⟩, h]; rfl
theorem fail_none {b e : Int} (h0 : 0 ≤ b) (h1 : b < e) (h2 : e < stops) (h : blockF g seats (e - b).toNat b = none) : sellFail g seats stops b e = none := by unfold sellFail; rw [if_pos ⟨h0, h1, h2⟩, h]; rfl
theorem fail_bad {b e : Int} (h : ¬ (0 ≤ b ∧ b < e ∧ e < stops)) : sellFail g seats stops b e = some "NoStretch" := if_neg h
theorem fail_exc {b e : Int} {c : String} (h : sellFail g seats stops b e = some c) : excNames.contains c = true := by
  unfold sellFail at h
  split at h
  · split at h
    · obtain rfl := Option.some.inj h; rfl
    · cases h
  · obtain rfl := Option.some.inj h; rfl
theorem s_told_sell (T : Trn H Z t rd hl ra seats stops coming R g) (hl5 : R.length < 5000) {b e : Int} (hok : 0 ≤ b → b < e → e < stops → blockF g seats (e - b).toNat b = none → ∀ H', Frm (Own t rd hl ra seats) H H' →
      Trn H' Z t rd hl ra seats stops (coming + 1) (R ++ [(coming, offer g seats stops b e)]) (marks g (offer g seats stops b e) (some coming)) → Q (.int coming) H')
    (hx : ∀ c H', sellFail g seats stops b e = some c → Ext H H' → X c H') : callW theP (n + 5) false "_law_told" [.ref t, deedMV "sell" b e] H Q X :=
  call_of (d := f__law_told) rfl rfl (s_iteT (ev_kind (k := "sell") (by array_get_dec)) (s_retw (w_meth (by array_get_dec) T.at_ rfl (Evs.cons (ev_d1 (by array_get_dec)) (Evs.cons (ev_d2 (by array_get_dec)) Evs.nil)) (t_sell T hl5 hok (fun x H' h0 h1 h2 hb E => hx _ _ (fail_full h0 h1 h2 hb) E) fun h => hx _ _ (fail_bad h) (.refl _)))))
theorem s_told_back (T : Trn H Z t rd hl ra seats stops coming R g) {k z : Int} (hok : ∀ ps c H', (k, ps) ∈ R → Trn H' (fun a => Z a ∨ a = c) t rd hl ra seats stops coming (rDel R k) (marks g ps none) → Frm (Own t rd hl ra seats) H H' → H c = none → H' c = some (.lst (ps.map partMV)) → Q (.ref c) H')
    (hbad : (∀ ps, (k, ps) ∉ R) → X "NoTicket" H) : callW theP (n + 5) false "_law_told" [.ref t, deedMV "back" k z] H Q X :=
  call_of (d := f__law_told) rfl rfl (s_skip (ev_kind (k := "back") (by array_get_dec)) (s_iteT (ev_kind (k := "back") (by array_get_dec)) (s_retw (w_meth (by array_get_dec) T.at_ rfl (Evs.cons (ev_d1 (by array_get_dec)) Evs.nil) (s_back T hok hbad)))))
theorem s_told_leave (T : Trn H Z t rd hl ra seats stops coming R g) {k stop : Int} (hok : ∀ ps b e c H', (k, ps) ∈ R → Goes seats b ps e → b < stop → stop < e → Trn H' (fun a => Z a ∨ a = c) t rd hl ra seats stops coming (rSet R k (keepL ps stop)) (marks g (goneL ps stop) none) → Frm (Own t rd hl ra seats) H H' → H c = none → H' c = some (.lst ((goneL ps stop).map partMV)) → Q (.ref c) H')
    (hstop : ∀ ps b e, (k, ps) ∈ R → Goes seats b ps e → ¬ (b < stop ∧ stop < e) → X "NoStop" H) (hbad : (∀ ps, (k, ps) ∉ R) → X "NoTicket" H) : callW theP (n + 5) false "_law_told" [.ref t, deedMV "leave" k stop] H Q X :=
  call_of (d := f__law_told) rfl rfl (s_skip (ev_kind (k := "leave") (by array_get_dec)) (s_skip (ev_kind (k := "leave") (by array_get_dec)) (s_iteT (ev_kind (k := "leave") (by array_get_dec)) (s_retw (w_meth (by array_get_dec) T.at_ rfl (Evs.cons (ev_d1 (by array_get_dec)) (Evs.cons (ev_d2 (by array_get_dec)) Evs.nil)) (s_leave T hok hstop hbad))))))
theorem s_told_reseat (T : Trn H Z t rd hl ra seats stops coming R g) {k z : Int} (hok : ∀ ps b e c H', (k, ps) ∈ R → Goes seats b ps e → 0 ≤ b → e ≤ stops - 1 → Trn H' Z t rd hl ra seats stops coming (rSet R k (anew g seats stops ps b e)) (marks (marks g ps none) (anew g seats stops ps b e) (some k)) →
      Frm (Own t rd hl ra seats) H H' → H c = none → H' c = some (.lst ((anew g seats stops ps b e).map partMV)) → Q (.ref c) H')
    (hbad : (∀ ps, (k, ps) ∉ R) → X "NoTicket" H) : callW theP (n + 5) false "_law_told" [.ref t, deedMV "reseat" k z] H Q X :=
  call_of (d := f__law_told) rfl rfl (s_skip (ev_kind (k := "reseat") (by array_get_dec)) (s_skip (ev_kind (k := "reseat") (by array_get_dec)) (s_skip (ev_kind (k := "reseat") (by array_get_dec)) (s_retw (w_meth (by array_get_dec) T.at_ rfl (Evs.cons (ev_d1 (by array_get_dec)) Evs.nil) (s_reseat T hok hbad))))))
/-- the word that an exception gives -/
abbrev failMV (w : String) : MV := .tup [.str (Str.ofString w), .none]
abbrev doneMV (v : MV) : MV := .tup [.str (Str.ofString ""), v]
theorem w_hand {c : String} {ρ : Sto} {N : Sto → MH → Prop} {Y : String → Sto → MH → Prop} (hc : excNames.contains c = true) (h : ∀ H', Ext H H' → Q (failMV (wordOf c)) H') :
    wSs (callW theP (n + 1)) true (.cons (.ret (.tup (.cons (.call "_law_class" (.cons (.var "_law_e") .nil)) (.cons .none .nil)))) .nil) (ρ.set "_law_e" (.exc c)) H N Q Y :=
  s_retw (w_call (Evs.cons (Ev.var (Sto.gets _ _ _)) Evs.nil) (s_class hc h))
theorem s_word_sell (T : Trn H Z t rd hl ra seats stops coming R g) (hl5 : R.length < 5000) {b e : Int} (hok : 0 ≤ b → b < e → e < stops → blockF g seats (e - b).toNat b = none → ∀ H', Frm (Own t rd hl ra seats) H H' →
      Trn H' Z t rd hl ra seats stops (coming + 1) (R ++ [(coming, offer g seats stops b e)]) (marks g (offer g seats stops b e) (some coming)) → Q (doneMV (.int coming)) H')
    (hx : ∀ c H', sellFail g seats stops b e = some c → Ext H H' → Q (failMV (wordOf c)) H') : callW theP (n + 6) false "_law_word" [.ref t, deedMV "sell" b e] H Q X :=
  call_of (d := f__law_word) rfl rfl (s_try (s_retw (w_call (by array_get_dec) (s_told_sell T hl5 hok fun c H' hf E => w_hand (fail_exc hf) fun H'' E' => hx c H'' hf (E.trans E')))))
theorem s_word_back (T : Trn H Z t rd hl ra seats stops coming R g) {k z : Int} (hok : ∀ ps c H', (k, ps) ∈ R → Trn H' (fun a => Z a ∨ a = c) t rd hl ra seats stops coming (rDel R k) (marks g ps none) → Frm (Own t rd hl ra seats) H H' → H c = none → H' c = some (.lst (ps.map partMV)) → Q (doneMV (.ref c)) H')
    (hbad : (∀ ps, (k, ps) ∉ R) → ∀ H', Ext H H' → Q (failMV "ticket") H') : callW theP (n + 6) false "_law_word" [.ref t, deedMV "back" k z] H Q X :=
  call_of (d := f__law_word) rfl rfl (s_try (s_retw (w_call (by array_get_dec) (s_told_back T hok fun nb => w_hand rfl (hbad nb)))))
theorem s_word_leave (T : Trn H Z t rd hl ra seats stops coming R g) {k stop : Int} (hok : ∀ ps b e c H', (k, ps) ∈ R → Goes seats b ps e → b < stop → stop < e → Trn H' (fun a => Z a ∨ a = c) t rd hl ra seats stops coming (rSet R k (keepL ps stop)) (marks g (goneL ps stop) none) → Frm (Own t rd hl ra seats) H H' → H c = none → H' c = some (.lst ((goneL ps stop).map partMV)) → Q (doneMV (.ref c)) H')
    (hstop : ∀ ps b e, (k, ps) ∈ R → Goes seats b ps e → ¬ (b < stop ∧ stop < e) → ∀ H', Ext H H' → Q (failMV "stop") H') (hbad : (∀ ps, (k, ps) ∉ R) → ∀ H', Ext H H' → Q (failMV "ticket") H') : callW theP (n + 6) false "_law_word" [.ref t, deedMV "leave" k stop] H Q X :=
  call_of (d := f__law_word) rfl rfl (s_try (s_retw (w_call (by array_get_dec) (s_told_leave T hok (fun ps b e h1 h2 h3 => w_hand rfl (hstop ps b e h1 h2 h3)) fun nb => w_hand rfl (hbad nb)))))
theorem s_word_reseat (T : Trn H Z t rd hl ra seats stops coming R g) {k z : Int} (hok : ∀ ps b e c H', (k, ps) ∈ R → Goes seats b ps e → 0 ≤ b → e ≤ stops - 1 → Trn H' Z t rd hl ra seats stops coming (rSet R k (anew g seats stops ps b e)) (marks (marks g ps none) (anew g seats stops ps b e) (some k)) →
      Frm (Own t rd hl ra seats) H H' → H c = none → H' c = some (.lst ((anew g seats stops ps b e).map partMV)) → Q (doneMV (.ref c)) H')
    (hbad : (∀ ps, (k, ps) ∉ R) → ∀ H', Ext H H' → Q (failMV "ticket") H') : callW theP (n + 6) false "_law_word" [.ref t, deedMV "reseat" k z] H Q X :=
  call_of (d := f__law_word) rfl rfl (s_try (s_retw (w_call (by array_get_dec) (s_told_reseat T hok fun nb => w_hand rfl (hbad nb)))))
end
end Mine
end
section
set_option autoImplicit false
set_option linter.unusedVariables false
namespace Mine
open PySem
/-- the kinds of deeds -/
noncomputable def KindOk (k : String) : Prop := k = "sell" ∨ k = "back" ∨ k = "leave" ∨ k = "reseat"
noncomputable def DeedOk (v : MV) : Prop := ∃ k a b, KindOk k ∧ v = deedMV k a b
noncomputable def CellOk (v : MV) : Prop := (∃ c : Int, v = .int c) ∨ DeedOk v
section
variable {n : Nat} {hd : Bool} {H H' : MH} {Q : MV → MH → Prop} {X : String → MH → Prop} {seats stops : Int}
theorem s_deed_tup {k : String} {a b : Int} {sa : MV} (hk : Q (deedMV k a b) H) : callW theP (n + 1) false "_law_deed_by" [deedMV k a b, sa, .int stops] H Q X :=
  call_of (d := f__law_deed_by) rfl rfl (s_iteT (Ev.isi (v := deedMV k a b) (by array_get_dec) .tt) (s_ret (Ev.var rfl) hk))
/-- an item of a row that is written out -/
theorem w_pick {Δ : CallT} {ρ : Sto} {es : MEs} {i : ME} {vs : List MV} {k : Int} {Y : String → MH → Prop} (hes : Evs Δ hd es ρ H vs) (hi : ∀ H', Ev Δ hd i ρ H' (.int k)) (h0 : 0 ≤ k) (h1 : k < vs.length) (h : ∀ v ∈ vs, ∀ H', Ext H H' → Q v H') : wE Δ hd (.sub (.list es) i) ρ H Q Y := by
  obtain ⟨v, hv, e⟩ := at_pick h0 h1
  exact w_sub (w_list hes fun c hc => w_ev (hi _) ⟨v, .lst (.inl (MH.set_selfE _ _ _)) e, h v hv _ (Ext.new _ hc)⟩)
noncomputable def IsI (v : MV) : Prop := ∃ i : Int, v = .int i
theorem isI_all {vs : List Int} : ∀ v ∈ vs.map MV.int, IsI v := fun v hv => (List.mem_map.mp hv).imp fun _ z => z.2.symm
theorem kind_of {k : String} (hk : k ∈ ["back", "leave", "reseat"]) : KindOk k := by
  rcases List.mem_cons.mp hk with z | hk
  · exact .inr (.inl z)
  · rcases List.mem_cons.mp hk with z | hk
    · exact .inr (.inr (.inl z))
    · exact .inr (.inr (.inr (List.mem_singleton.mp hk)))
theorem s_deed_int {c : Int} {sa : Addr} {sold : List Int} (hs : 2 ≤ stops ∧ stops ≤ 60) (hsa : H sa = some (.lst (sold.map .int))) (hl : sold.length ≤ 5000) (h : ∀ k a b H', KindOk k → Ext H H' → Q (deedMV k a b) H') :
    callW theP (n + 3) false "_law_deed_by" [.int c, .ref sa, .int stops] H Q X := by
  refine call_of (d := f__law_deed_by) rfl rfl ?_
  refine s_skip (Ev.isi (by array_get_dec) .ti) ?_
  have f9 := fm_pos c (m := 9) (by decide)
  refine s_let (w_pick (vs := [0, 0, 0, 0, 1, 2, 3, 0, 4].map .int) (by array_get_dec) (fun H' => Ev.mod (by array_get_dec) Ev.int (by decide)) f9.1 f9.2 fun v hv H1 E1 => ?_)
  obtain ⟨way, rfl⟩ := isI_all v hv
  have hsa1 := E1 _ _ hsa
  have sl : (sold.map MV.int).length ≤ 5000 := by rw [List.length_map]; exact hl
  refine s_let (w_bin (w_ev (by array_get_dec) (w_list (vs := [0].map .int) (by array_get_dec) fun c1 hc1 => BinR.app (Ext.new _ hc1 _ _ hsa1) (MH.set_selfE _ _ _) ?_ fun c2 hc2 => ?_)))
  · rw [List.length_map (as := [(0 : Int)])]; unfold bigList; show _ + 1 ≤ _; omega
  generalize hH2 : MH.set _ c2 _ = H2
  have E2 : Ext H H2 := hH2 ▸ (E1.trans (Ext.new _ hc1)).trans (Ext.new _ hc2)
  have h2 : H2 c2 = some (.lst ((sold ++ [0]).map .int)) := hH2 ▸ (MH.set_selfE _ _ _).trans (by rw [List.map_append])
  clear hH2 hc1 hc2 E1 hsa1
  have hsa2 := E2 _ _ hsa
  have m1 : maxI 1 ((sold.map MV.int).length : Int) ≤ ((sold ++ [0]).map MV.int).length ∧ 0 < maxI 1 ((sold.map MV.int).length : Int) := by
    rw [List.length_map, List.length_map, List.length_append, List.length_singleton]; unfold maxI; split <;> omega
  refine s_let (w_sub (w_ev (by array_get_dec) (w_call (Evs.cons (by array_get_dec) (Evs.cons Ev.int (Evs.cons (Ev.max Ev.int (Ev.lenL (by array_get_dec) hsa2)) Evs.nil))) (s_mixed (by decide) m1.2 fun i H3 i0 i1 E3 => ?_))))
  obtain ⟨v, hv, e⟩ := at_pick i0 (Int.lt_of_lt_of_le i1 m1.1)
  obtain ⟨tk, rfl⟩ := isI_all v hv
  refine ⟨.int tk, .lst (.inl (E3 _ _ h2)) e, ?_⟩
  have E := E2.trans E3
  have hsa3 := E _ _ hsa
  refine s_ite (by array_get_dec) (fun _ => s_ret (by array_get_dec) (h "back" _ _ _ (.inr (.inl rfl)) E)) (fun _ => s_done ?_)
  refine s_ite (by array_get_dec) (fun _ => ?_) (fun _ => s_done ?_)
  · refine s_retw (w_tup (w_cons (w_ev Ev.str (w_cons (w_ev (v := .int tk) (by array_get_dec) (w_cons ?_))))))
    refine w_bin (w_call (by array_get_dec) (s_mixed (by decide) (by omega) fun i H4 i0 i1 E4 => ?_))
    exact w_ev Ev.int (.sub (w_evs Evs.nil (h "leave" tk (i - 1) _ (.inr (.inr (.inl rfl))) (E.trans E4))))
  refine s_ite (by array_get_dec) (fun _ => s_ret (by array_get_dec) (h "reseat" _ _ _ (.inr (.inr (.inr rfl))) E)) (fun _ => s_done ?_)
  refine s_ite (Ev.and (EvA.any (by array_get_dec) (EvA.one (Ev.cmp (ev_dm 9 2 (by array_get_dec) (by decide) (by decide) (by decide)) Ev.int .eqi)))) (fun _ => ?_) (fun _ => s_done ?_)
  · have f3 := fm_pos (c.fdiv 18) (m := 3) (by decide)
    have f4 := fm_pos (c.fdiv 54) (m := 4) (by decide)
    refine s_let (w_pick (vs := ["back", "leave", "reseat"].map fun k => .str (Str.ofString k)) (by array_get_dec) (fun H' => ev_dm 18 3 (by array_get_dec) (by decide) (by decide) (by decide)) f3.1 f3.2 fun v hv H4 E4 => ?_)
    obtain ⟨k, hk, rfl⟩ := List.mem_map.mp hv
    have kk : KindOk k := kind_of hk
    refine s_retw (w_tup (w_cons (w_ev (v := .str (Str.ofString k)) (by array_get_dec) (w_cons (w_pick (vs := [-1, ((sold.map MV.int).length : Int) + 400, tk + 1, 10 ^ 12].map .int) (Evs.cons (by array_get_dec) (Evs.cons (Ev.add (Ev.lenL (by array_get_dec) (E4 _ _ hsa3)) Ev.int) (Evs.cons (by array_get_dec) (Evs.cons ?_ Evs.nil)))) (fun H' => ev_dm 54 4 (by array_get_dec) (by decide) (by decide) (by decide)) f4.1 f4.2 fun v hv H5 E5 => ?_)))))
    · exact fun Q X q => .pow (by decide) (by decide) (by decide) q
    · obtain ⟨i, rfl⟩ := isI_all v hv
      exact w_evs (vs := [.int 1]) (by array_get_dec) (h k i 1 _ kk ((E.trans E4).trans E5))
  refine s_let (w_call (by array_get_dec) (s_stretch_by hs fun b e H4 _ _ _ E4 => ?_))
  have f4 := fm_pos (c.fdiv 18) (m := 4) (by decide)
  have f2 := fm_pos (c.fdiv 72) (m := 2) (by decide)
  refine s_ite (by array_get_dec) (fun _ => ?_) (fun _ => s_done (s_ret (by array_get_dec) (h "sell" _ _ _ (.inl rfl) (E.trans E4))))
  refine s_let (w_pick (vs := [b, b - 1, stops, 10 ^ 12].map .int) (Evs.cons (by array_get_dec) (Evs.cons (by array_get_dec) (Evs.cons (by array_get_dec) (Evs.cons ?_ Evs.nil)))) (fun H' => ev_dm 18 4 (by array_get_dec) (by decide) (by decide) (by decide)) f4.1 f4.2 fun v hv H5 E5 => ?_)
  · exact fun Q X q => .pow (by decide) (by decide) (by decide) q
  obtain ⟨i, rfl⟩ := isI_all v hv
  refine s_retw (w_tup (w_cons (w_ev Ev.str (w_cons (w_pick (vs := [b, -1].map .int) (by array_get_dec) (fun H' => ev_dm 72 2 (by array_get_dec) (by decide) (by decide) (by decide)) f2.1 f2.2 fun v hv H6 E6 => ?_)))))
  obtain ⟨j, rfl⟩ := isI_all v hv
  exact w_evs (vs := [.int i]) (by array_get_dec) (h "sell" j i _ (.inl rfl) (((E.trans E4).trans E5).trans E6))
end
end Mine
end
section
set_option autoImplicit false
set_option linter.unusedVariables false
namespace Mine
open PySem
section
variable {n : Nat} {hd : Bool} {H H' : MH} {Q : MV → MH → Prop} {X : String → MH → Prop} {seats stops : Int}
/-- a row of deeds that grows -/
structure Deeds (H H' : MH) (c : Addr) (m : Int) : Prop where
  ext : Ext H H'
  at_ : ∃ ls, H' c = some (.lst ls) ∧ (ls.length : Int) ≤ m ∧ ∀ v ∈ ls, DeedOk v
theorem Deeds.app {Δ : CallT} {ρ : Sto} {e x : ME} {c : Addr} {m : Int} {k : String} {a b : Int} {Y : String → MH → Prop} (hc : H c = none) (D : Deeds H H' c m) (hm : m ≤ 10000) (he : Ev Δ hd e ρ H' (.ref c)) (hx : Ev Δ hd x ρ H' (deedMV k a b)) (hk : KindOk k) (q : ∀ H'', Deeds H H'' c (m + 1) → Q .none H'') : wE Δ hd (.bm e "append" (.cons x .nil)) ρ H' Q Y := by
  obtain ⟨ls, h1, h2, h3⟩ := D.at_
  refine w_append he h1 hx (by unfold bigList; omega) (q _ ⟨D.ext.newer _ hc, _, MH.set_selfE _ _ _, by rw [List.length_append, List.length_singleton]; omega, fun v hv => ?_⟩)
  rcases List.mem_append.mp hv with hv | hv
  · exact h3 v hv
  · exact List.mem_singleton.mp hv ▸ ⟨k, a, b, hk, rfl⟩
theorem Deeds.le {c : Addr} {m m' : Int} (D : Deeds H H' c m) (h : m ≤ m') : Deeds H H' c m' := ⟨D.ext, D.at_.imp fun _ z => ⟨z.1, Int.le_trans z.2.1 h, z.2.2⟩⟩
theorem s_laid {far : Int} (p1 : 1 ≤ seats ∧ seats ≤ 60) (p2 : 2 ≤ stops ∧ stops ≤ 60) (h : ∀ c H' ls, H c = none → Ext H H' → H' c = some (.lst ls) → ls.length ≤ 3700 → (∀ v ∈ ls, DeedOk v) → Q (.ref c) H') : callW theP (n + 1) false "_law_laid" [.int seats, .int stops, .int far] H Q X := by
  refine call_of (d := f__law_laid) rfl rfl (s_let (w_list Evs.nil fun c hc => ?_))
  refine s_range (fun i ρ H' => i ≤ 60 ∧ 0 ≤ i ∧ ρ "_law_seats_here" = some (.int seats) ∧ ρ "_law_stops_here" = some (.int stops) ∧ ρ "_law_far" = some (.int far) ∧ ρ "_law_deeds" = some (.ref c) ∧ Deeds H H' c (i * 60)) (Ev.range1 (by array_get_dec) (smallOf (by omega) (by omega))) ⟨by decide, by decide, rfl, rfl, rfl, rfl, Ext.new _ hc, [], MH.set_selfE _ _ _, by decide, fun _ h => by cases h⟩ ?_ ?_
  · rintro i ρ H1 k i0 i1 ⟨_, _, g1, g2, g3, g4, D⟩ hk
    refine s_range (fun j ρ H' => j ≤ seats ∧ ρ "_law_seats_here" = some (.int seats) ∧ ρ "_law_stops_here" = some (.int stops) ∧ ρ "_law_far" = some (.int far) ∧ ρ "_law_deeds" = some (.ref c) ∧ ρ "_law_leg" = some (.int i) ∧ Deeds H H' c (i * 60 + j)) (Ev.range1 (by array_get_dec) (smallOf (by omega) (by omega))) ⟨by omega, by sizeOf_list_dec, by sizeOf_list_dec, by sizeOf_list_dec, by sizeOf_list_dec, by sizeOf_list_dec, D.le (Int.le_of_eq (Int.add_zero _).symm)⟩ ?_ ?_
    · rintro j σ H2 kk j0 j1 ⟨_, f1, f2, f3, f4, f5, D⟩ hkk
      exact s_expr (Deeds.app (k := "sell") (a := i) (b := i + 1) hc D (by omega) (by array_get_dec) (by array_get_dec) (.inl rfl) fun H3 D => s_done (hkk _ _ ⟨j1, by sizeOf_list_dec, by sizeOf_list_dec, by sizeOf_list_dec, by sizeOf_list_dec, by sizeOf_list_dec, D.le (Int.le_of_eq (Int.add_assoc _ _ _))⟩))
    · rintro j σ H2 hj ⟨hj2, f1, f2, f3, f4, f5, D⟩
      exact s_done (hk _ _ ⟨by omega, by omega, f1, f2, f3, f4, D.le (by omega)⟩)
  · rintro i ρ H1 hi ⟨hi2, _, g1, g2, g3, g4, D⟩
    refine s_range (fun j ρ H' => 0 ≤ j ∧ j ≤ 60 ∧ ρ "_law_seats_here" = some (.int seats) ∧ ρ "_law_stops_here" = some (.int stops) ∧ ρ "_law_far" = some (.int far) ∧ ρ "_law_deeds" = some (.ref c) ∧ Deeds H H' c (3600 + j)) (Ev.range1 (by array_get_dec) (smallOf (by omega) (by omega))) ⟨by decide, by decide, g1, g2, g3, g4, D.le (by omega)⟩ ?_ ?_
    · rintro j σ H2 kk j0 j1 ⟨_, _, f1, f2, f3, f4, D⟩ hkk
      refine s_expr (Deeds.app (k := "back") (b := 0) hc D (by omega) (by array_get_dec) (Ev.tup (Evs.cons Ev.str (Evs.cons (Ev.add (Ev.mul (by array_get_dec) (by array_get_dec) (.inl (by omega))) (Ev.mod (Ev.add (Ev.mul (by array_get_dec) (Ev.add Ev.int (Ev.mod (by array_get_dec) Ev.int (by decide))) (.inl (by omega))) (Ev.fdiv (by array_get_dec) Ev.int (by decide) (by decide))) (by array_get_dec) (by omega))) (Evs.cons Ev.int Evs.nil)))) (.inr (.inl rfl)) fun H3 D => s_done (hkk _ _ ⟨by omega, by omega, by sizeOf_list_dec, by sizeOf_list_dec, by sizeOf_list_dec, by sizeOf_list_dec, D.le (Int.le_of_eq (Int.add_assoc _ _ _))⟩))
    · rintro j σ H2 hj ⟨_, hj2, f1, f2, f3, f4, D⟩
      obtain ⟨ls, h1, h2, h3⟩ := D.at_
      refine s_assign (Ev.mul (by array_get_dec) (by array_get_dec) (.inl (by omega))) (s_retw (w_bin (w_ev (by array_get_dec) (w_list (vs := [deedMV "sell" ((far.fdiv 9).fmod 2) (stops - 1), deedMV "leave" (seats * (stops - 1)) ((far.fdiv 18).fmod stops), deedMV "reseat" (seats * (stops - 1)) 0]) ?_ fun c1 hc1 => BinR.app (Ext.new _ hc1 _ _ h1) (MH.set_selfE _ _ _) (by show _ + 3 ≤ _; unfold bigList; omega) fun c2 hc2 => ?_))))
      · exact Evs.cons (Ev.tup (Evs.cons Ev.str (Evs.cons (ev_dm 9 2 (by array_get_dec) (by decide) (by decide) (by decide)) (Evs.cons (by array_get_dec) Evs.nil)))) (Evs.cons (Ev.tup (Evs.cons Ev.str (Evs.cons (by array_get_dec) (Evs.cons (Ev.mod (Ev.fdiv (by array_get_dec) Ev.int (by decide) (by decide)) (by array_get_dec) (by omega)) Evs.nil)))) (Evs.cons (by array_get_dec) Evs.nil))
      · refine h c2 _ _ (none_of_ext (D.ext.trans (Ext.new _ hc1)) hc2) ((D.ext.trans (Ext.new _ hc1)).trans (Ext.new _ hc2)) (MH.set_selfE _ _ _) (by rw [List.length_append]; show _ + 3 ≤ _; omega) fun v hv => ?_
        rcases List.mem_append.mp hv with hv | hv
        · exact h3 v hv
        · rcases List.mem_cons.mp hv with rfl | hv
          · exact ⟨_, _, _, .inl rfl, rfl⟩
          · rcases List.mem_cons.mp hv with rfl | hv
            · exact ⟨_, _, _, .inr (.inr (.inl rfl)), rfl⟩
            · exact List.mem_singleton.mp hv ▸ ⟨_, _, _, .inr (.inr (.inr rfl)), rfl⟩
/-- a part of the script -/
theorem cut_cells {is : List Int} {lo hi : Option Int} (hl : is.length ≤ 63) : (∀ v ∈ cut (is.map MV.int) lo hi, CellOk v) ∧ (cut (is.map MV.int) lo hi).length ≤ 63 :=
  ⟨fun v hv => .inl (isI_all v (List.mem_of_mem_drop (List.mem_of_mem_take hv))), Nat.le_trans cut_len (by rw [List.length_map]; exact hl)⟩
/-- a row of cells, and a part of the script behind it -/
theorem w_cells_app {Δ : CallT} {ρ : Sto} {e lo hi : ME} {Y : String → MH → Prop} {script : Addr} {is : List Int} {a b : Int} (hH : H script = some (.ro (is.map .int))) (hl : is.length ≤ 63) (hs : ρ "_law_script" = some (.ref script)) (hlo : lo = .int a) (hhi : hi = .int b)
    (h : ∀ c H' ls, H c = none → Ext H H' → H' c = some (.lst ls) → ls.length ≤ 4000 → (∀ v ∈ ls, CellOk v) → Q (.ref c) H') (he : ∀ Q', (∀ c H' ls, Ext H H' → H' c = some (.lst ls) → ls.length ≤ 3700 → (∀ v ∈ ls, CellOk v) → Q' (.ref c) H') → wE Δ false e ρ H Q' Y) : wE Δ false (.bin .add e (.slice (.var "_law_script") lo hi)) ρ H Q Y := by
  subst hlo hhi
  refine w_bin (he _ fun c H' ls E hc hn hv => ?_)
  obtain ⟨k1, k2⟩ := cut_cells (lo := some a) (hi := some b) hl
  refine w_slice (Ev.var hs) (.inr (E _ _ hH)) Ev.int Ev.int .int .int fun c1 hc1 => BinR.app (Ext.new _ hc1 _ _ hc) (MH.set_selfE _ _ _) (by unfold bigList; omega) fun c2 hc2 => h _ _ _ (none_of_ext (E.trans (Ext.new _ hc1)) hc2) ((E.trans (Ext.new _ hc1)).trans (Ext.new _ hc2)) (MH.set_selfE _ _ _) (by rw [List.length_append]; omega) fun v hv' => ?_
  rcases List.mem_append.mp hv' with z | z
  · exact hv v z
  · exact k1 v z
theorem w_int_comp {Δ : CallT} {ρ : Sto} {e it : ME} {x : String} {f : Int → Int} {m : Int} {Y : String → MH → Prop} (hit : Ev Δ false it ρ H (.rng 0 m 1)) (hm : m ≤ 150) (he : ∀ i, 0 ≤ i → i < m → Ev Δ false e (ρ.set x (.int i)) H (.int (f i))) (h : ∀ c H' ls, Ext H H' → H' c = some (.lst ls) → ls.length ≤ 3700 → (∀ v ∈ ls, CellOk v) → Q (.ref c) H') : wE Δ false (.comp e x it (.bool true)) ρ H Q Y :=
  w_compR (fun _ => true) (fun i => .int (f i)) hit (by omega) (fun _ _ _ => Ev.bool) (fun i h0 h1 _ => he i h0 h1) fun c hc => h c _ _ (Ext.new _ hc) (MH.set_selfE _ _ _) (by rw [filter_true, List.length_map, rangeL_len1]; omega) fun v hv => .inl ((List.mem_map.mp hv).imp' f fun _ z => z.2.symm)
theorem s_cells {script : Addr} {is : List Int} (hH : H script = some (.ro (is.map .int))) (hlen : is.length ≤ 63) (h : ∀ c H' ls, H c = none → Ext H H' → H' c = some (.lst ls) → ls.length ≤ 4000 → (∀ v ∈ ls, CellOk v) → Q (.ref c) H') : callW theP (n + 2) false "_law_cells" [.ref script] H Q X := by
  refine call_of (d := f__law_cells) rfl rfl ?_
  refine s_let (w_call (by array_get_dec) (s_cell_at hH (by decide) fun far => ?_))
  refine s_let (w_callw (w_cons (w_call (by array_get_dec) (s_cell_at hH (by decide) fun c0 => w_evs Evs.nil (s_seats fun seats q1 q2 => ?_)))))
  refine s_let (w_callw (w_cons (w_call (by array_get_dec) (s_cell_at hH (by decide) fun c1 => w_evs Evs.nil (s_stops fun stops q3 q4 => ?_)))))
  have mk : mulOk seats stops := .inl (by omega)
  have f9 := fm_pos (far.fdiv 8) (m := 90) (by decide)
  have rg : ∀ {ρ : Sto} {H' : MH}, ρ "_law_far" = some (.int far) → Ev (callW theP (n + 1)) false (.bi "range" (.cons (.bin .add (.int 60) (.bin .mod (.bin .fdiv (.var "_law_far") (.int 8)) (.int 90))) .nil)) ρ H' (.rng 0 (60 + (far.fdiv 8).fmod 90) 1) := fun hf => Ev.range1 (Ev.add Ev.int (ev_dm 8 90 (Ev.var hf) (by decide) (by decide) (by decide))) (smallOf (by omega) (by omega))
  refine s_ite (Ev.and (EvA.any (Ev.cmp (Ev.mod (by array_get_dec) Ev.int (by decide)) Ev.int .eqi) (EvA.one (Ev.cmp (Ev.mul (by array_get_dec) (by array_get_dec) mk) Ev.int .lt)))) (fun _ => s_retw (w_cells_app hH hlen rfl rfl rfl h fun Q' q => w_call (Evs.cons (by array_get_dec) (Evs.cons (by array_get_dec) (Evs.cons (Ev.fdiv (by array_get_dec) Ev.int (by decide) (by decide)) Evs.nil))) (s_laid ⟨q1, q2⟩ ⟨q3, q4⟩ fun c H' ls _ E h1 h2 h3 => q c H' ls E h1 h2 fun v hv => .inr (h3 v hv)))) (fun _ => s_done ?_)
  refine s_ite (Ev.and (EvA.any (Ev.cmp (Ev.mod (by array_get_dec) Ev.int (by decide)) Ev.int .eqi) (EvA.one (Ev.cmp (Ev.mul (by array_get_dec) (by array_get_dec) mk) Ev.int .lt)))) (fun _ => s_retw (w_cells_app hH hlen rfl rfl rfl h fun Q' q => w_int_comp (rg rfl) (by omega) (fun i h0 h1 => Ev.add (Ev.fdiv (by array_get_dec) Ev.int (by decide) (by decide)) (Ev.mul Ev.int (by array_get_dec) (.inl (by decide)))) q)) (fun _ => s_done ?_)
  refine s_ite (Ev.cmp (Ev.mod (by array_get_dec) Ev.int (by decide)) Ev.int .eqi) (fun _ => s_retw (w_cells_app hH hlen rfl rfl rfl h fun Q' q => w_int_comp (rg rfl) (by omega) (fun i h0 h1 => Ev.mul Ev.int (Ev.add (Ev.fdiv (by array_get_dec) Ev.int (by decide) (by decide)) (Ev.mul Ev.int (by array_get_dec) (.inl (by decide)))) (.inl (by decide))) q)) (fun _ => s_done ?_)
  obtain ⟨k1, k2⟩ := cut_cells (lo := some 3) (hi := some 99) hlen
  exact s_retw (w_slice (by array_get_dec) (.inr hH) Ev.int Ev.int .int .int fun c hc => h _ _ _ hc (Ext.new _ hc) (MH.set_selfE _ _ _) (by omega) k1)
end
end Mine
end
section
set_option autoImplicit false
set_option linter.unusedVariables false
namespace Mine
open PySem
section
variable {n : Nat} {hd : Bool} {H H' : MH} {Z : Addr → Prop} {Q : MV → MH → Prop} {X : String → MH → Prop} {t rd hl ro : Addr} {ra rb : Int → Addr} {seats stops coming : Int} {R : Rides} {g : Grid}
variable {Δ : CallT} {ρ : Sto} {Y : String → MH → Prop}
theorem w_and2 {e f : ME} (h : wE Δ hd e ρ H (asTruth fun b H₁ => if b = true then wE Δ hd f ρ H₁ Q Y else Q (.bool false) H₁) Y) : wE Δ hd (.and (.cons e (.cons f .nil))) ρ H Q Y := h
theorem w_or2 {e f : ME} (h : wE Δ hd e ρ H (asTruth fun b H₁ => if b = true then Q (.bool true) H₁ else wE Δ hd f ρ H₁ Q Y) Y) : wE Δ hd (.or (.cons e (.cons f .nil))) ρ H Q Y := h
theorem w_cmpw {l r : ME} {op : COp} (h : wE Δ hd l ρ H (fun a H₁ => wE Δ hd r ρ H₁ (fun b H₂ => ∃ c, CmpR H₂ op a b c ∧ Q (.bool c) H₂) Y) Y) : wE Δ hd (.cmp l (.cons op r .nil)) ρ H Q Y := h
theorem Ev.call {f : String} {es : MEs} {vs : List MV} {v : MV} (he : Evs Δ hd es ρ H vs) (h : ∀ (Q : MV → MH → Prop) (X : String → MH → Prop), Q v H → Δ hd f vs H Q X) : Ev Δ hd (.call f es) ρ H v := fun Q X q => he _ _ (h _ _ q)
theorem rng_eq {n : Int} : rangeL 0 n 1 = (List.range n.toNat).map fun (k : Nat) => (k : Int) := by
  have h := rangeL_len1 (a := 0) (b := n)
  rw [Int.sub_zero] at h
  have h2 : (rangeL 0 n 1).length = (Builtin.Range.rangeSize 0 n 1).toNat := by rw [rangeL, List.length_map, List.length_range]
  rw [rangeL, ← h2, h]
  exact List.map_congr_left fun k _ => by rw [Int.one_mul, Int.zero_add]
theorem refs_rng {n : Int} : refsOf ra n.toNat = (rangeL 0 n 1).map fun i => .ref (ra i) := by rw [rng_eq, List.map_map]; rfl
theorem comp_ix {α : Type} {src : MV} {vs₀ : List MV} {cond : MV → MH → (Bool → MH → Prop) → Prop} {elt : MV → MH → (MV → MH → Prop) → Prop} (F f : α → MV) (he : Elems H src vs₀) (hc : ∀ v k, k true H → cond v H k)
    : ∀ (l : List α) (acc : List MV), (∀ i ∈ l, ∀ k, k (f i) H → elt (F i) H k) → acc.length + l.length ≤ bigList → New H Q (acc ++ l.map f) → compW src vs₀ cond elt Q (l.map F) acc H := by
  intro l
  induction l with
  | nil => intro acc _ _ q c hc; have := q c hc; rwa [List.map_nil, List.append_nil] at this
  | cons i l ih =>
    intro acc hf hl q
    rw [List.length_cons] at hl
    exact ⟨Nat.lt_of_lt_of_le (Nat.lt_add_of_pos_right (Nat.succ_pos _)) hl, hc _ _ (hf i (.head _) _ ⟨he, ih _ (fun w hw => hf w (.tail _ hw)) (by rw [List.length_append, List.length_singleton]; omega) (by rw [List.append_assoc]; exact q)⟩)⟩
theorem w_compG {elt it : ME} {x : String} (G : Gd H ro rb seats stops g) (f : Int → MV) (hit : Ev Δ false it ρ H (.ref ro)) (hf : ∀ i, 0 ≤ i → i < seats → Ev Δ false elt (ρ.set x (.ref (rb i))) H (f i)) (q : New H Q ((rangeL 0 seats 1).map f)) : wE Δ false (.comp elt x it (.bool true)) ρ H Q Y := by
  have p := G.hseats
  refine ⟨rfl, hit _ _ ⟨_, .lst (.inl (refs_rng ▸ G.hl_)), comp_ix (fun i => .ref (rb i)) f (.lst (.inl (refs_rng ▸ G.hl_))) (fun _ _ h => h) _ _ (fun i hi k hk => ?_) ?_ q⟩⟩
  · have := rangeL_mem (by decide) hi
    exact hf i this.1 this.2 _ _ hk
  · rw [List.length_nil, rangeL_len1]; unfold bigList; omega
theorem part_dr (p : Int × Int × Int) : DR H 8 (partMV p) (.tuple [.int p.1, .int p.2.1, .int p.2.2]) := ⟨_, rfl, .cons rfl (.cons rfl (.cons rfl .nil))⟩
theorem part_ne (p : Int × Int × Int) : CmpR H .ne (partMV p) (partMV p) false := by
  have := CmpR.ned (part_dr (H := H) p) (part_dr p)
  rwa [PySem.SeqAt.eqv_refl _ rfl] at this
theorem word_dr {a : Addr} {w : String} (ha : H a = some (.lst [.str (Str.ofString w)])) (hw : PyData.strOk (Str.ofString w) = true) : DR H 8 (.ref a) (.list [.str (Str.ofString w)]) := ⟨a, _, rfl, .inl ha, .cons ⟨rfl, hw⟩ .nil⟩
theorem word_eqv {w : String} (hw : PyData.strOk (Str.ofString w) = true) : PyData.eqv (.list [.str (Str.ofString w)]) (.list [.str (Str.ofString w)]) = true := PySem.SeqAt.eqv_refl _ (by simp [PyData.canLay0, PyData.canLayAll0, hw])
theorem word_eq {a b : Addr} {w : String} (ha : H a = some (.lst [.str (Str.ofString w)])) (hb : H b = some (.lst [.str (Str.ofString w)])) (hw : PyData.strOk (Str.ofString w) = true) : CmpR H .eq (.ref a) (.ref b) true := by
  have := CmpR.eqd (word_dr ha hw) (word_dr hb hw)
  rwa [word_eqv hw] at this
theorem word_ne {a b : Addr} {w : String} (ha : H a = some (.lst [.str (Str.ofString w)])) (hb : H b = some (.lst [.str (Str.ofString w)])) (hw : PyData.strOk (Str.ofString w) = true) : CmpR H .ne (.ref a) (.ref b) false := by
  have := CmpR.ned (word_dr ha hw) (word_dr hb hw)
  rwa [word_eqv hw] at this
theorem part_at {ps : List Part} {i : Int} (h0 : 0 ≤ i) (h1 : i < ps.length) : ∃ p, atIdx (ps.map partMV) i = some (partMV p) := by
  have hh : i.toNat < ps.length := (Int.toNat_lt h0).mpr h1
  exact ⟨ps[i.toNat], atIdx_nn h0 (by rw [List.getElem?_map, List.getElem?_eq_getElem hh]; rfl)⟩
theorem it_n {A B : MH → Prop} (z : B H) : asTruth (fun b H₁ => asTruth (fun c H₁ => if c = true then A H₁ else B H₁) (.bool !b) H₁) (.bool true) H := z
theorem Gd.ext (G : Gd H ro rb seats stops g) (e : Ext H H') : Gd H' ro rb seats stops g := G.keep fun a o _ => e a o
theorem keys_set {k : Int} {qs : List Part} : (rSet R k qs).map Prod.fst = R.map Prod.fst := by
  unfold rSet
  rw [List.map_map]
  refine List.map_congr_left fun x _ => ?_
  show (if x.1 = k then (k, qs) else x).1 = x.1
  by_cases q : x.1 = k
  · rw [if_pos q]; exact q.symm
  · rw [if_neg q]
theorem keys_del {k : Int} : ∀ {R : Rides}, R.Pairwise (fun x y => x.1 < y.1) → (R.map Prod.fst).erase k = (rDel R k).map Prod.fst
  | [], _ => rfl
  | x :: R, h => by
    obtain ⟨h1, h2⟩ := List.pairwise_cons.mp h
    unfold rDel
    rw [List.map_cons]
    rw [List.filter_cons]
    by_cases q : x.1 = k
    · have e : R.filter (fun x => decide (x.1 ≠ k)) = R := List.filter_eq_self.mpr fun y hy => decide_eq_true fun (z : y.1 = k) => Int.ne_of_lt (h1 y hy) (q.trans z.symm)
      rw [if_neg (by rw [decide_eq_false (fun z => z q)]; exact Bool.noConfusion), q, List.erase_cons_head, e]
    · rw [if_pos (decide_eq_true q), List.map_cons, List.erase_cons_tail (by rw [beq_false_of_ne q]; exact Bool.noConfusion), keys_del h2]; rfl
theorem mem_keys {k : Int} (h : k ∈ R.map Prod.fst) : ∃ ps, (k, ps) ∈ R := by
  obtain ⟨x, hx, rfl⟩ := List.mem_map.mp h
  exact ⟨x.2, hx⟩
theorem no_keys {k : Int} (h : k ∉ R.map Prod.fst) : ∀ ps, (k, ps) ∉ R := fun ps hp => h (List.mem_map.mpr ⟨_, hp, rfl⟩)
theorem Frm.mono {A B : Addr → Prop} (f : Frm A H H') (h : ∀ a, A a → B a) : Frm B H H' := fun a o n => f a o fun z => n (h a z)
noncomputable def Nms (ρ : Sto) : List (String × MV) → Prop
  | [] => True
  | p :: l => ρ p.1 = some p.2 ∧ Nms ρ l
theorem Nms.set {ρ : Sto} {x : String} {v : MV} : ∀ {l : List (String × MV)}, Nms ρ l → (l.all fun p => !decide (p.1 = x)) = true → Nms (ρ.set x v) l
  | [], _, _ => trivial
  | p :: l, h, hx => by
    obtain ⟨h1, h2⟩ := Bool.and_eq_true_iff.mp hx
    exact ⟨Sto.gn (Bool.not_eq_true' _ ▸ h1) h.1, h.2.set h2⟩
end
section
variable {n : Nat} {hd : Bool} {H H' : MH} {Z : Addr → Prop} {Q : MV → MH → Prop} {X : String → MH → Prop} {t rd hl ro : Addr} {ra rb : Int → Addr} {seats stops coming : Int} {R : Rides} {so : Addr} {g : Grid}
variable {Δ : CallT} {ρ : Sto} {N : Sto → MH → Prop} {RR : MV → MH → Prop} {Y : String → Sto → MH → Prop} {Y' : String → MH → Prop}
theorem ev_w0 {x : ME} {w s : String} {v : MV} (hx : Ev Δ hd x ρ H (.tup [.str (Str.ofString w), v])) : Ev Δ hd (.cmp (.sub x (.int 0)) (.cons .ne (.str s) .nil)) ρ H (.bool (!decide (w = s))) := dec_str ▸ Ev.cmp (Ev.itemT hx Ev.int rfl) Ev.str .nes
theorem ev_w0n {x : ME} {w s : String} {v : MV} (h : w ≠ s) (hx : Ev Δ hd x ρ H (.tup [.str (Str.ofString w), v])) : Ev Δ hd (.cmp (.sub x (.int 0)) (.cons .ne (.str s) .nil)) ρ H (.bool true) := by have := ev_w0 (s := s) hx; rwa [decide_eq_false h] at this
theorem ev_kindf {x : ME} {k s : String} {a b : Int} (h : k ≠ s) (hx : Ev Δ hd x ρ H (deedMV k a b)) : Ev Δ hd (.cmp (.sub x (.int 0)) (.cons .eq (.str s) .nil)) ρ H (.bool false) := by have := ev_kind (s := s) hx; rwa [decide_eq_false h] at this
theorem w_mk {es : MEs} {vs : List MV} (he : Evs Δ hd es ρ H vs) (h : ∀ a, H a = none → Δ hd "__init__" (.ref a :: vs) (H.set a (.inst [])) (fun r H₂ => r = .none ∧ Q (.ref a) H₂) Y') : wE Δ hd (.mk es) ρ H Q Y' := he _ _ h
theorem w_remove {e x : ME} {a : Addr} {is : List Int} {i : Int} (he : Ev Δ hd e ρ H (.ref a)) (ha : H a = some (.lst (is.map .int))) (hx : Ev Δ hd x ρ H (.int i)) (hi : i ∈ is) (h : Q .none (H.set a (.lst ((is.erase i).map .int)))) : wE Δ hd (.bm e "remove" (.cons x .nil)) ρ H Q Y' :=
  he _ _ ⟨true, .lst ha rfl, hx _ _ ⟨.lst ha rfl, .remove ha hi h⟩⟩
theorem word_nz : ∀ c ∈ excNames, wordOf c ≠ "" := by decide
theorem word_ok : ∀ c ∈ excNames, PyData.strOk (Str.ofString (wordOf c)) = true := by decide +kernel
theorem s_deed {v : MV} {sold : List Int} (hv : CellOk v) (hs : 2 ≤ stops ∧ stops ≤ 60) (hsa : H so = some (.lst (sold.map .int))) (hl : sold.length ≤ 5000) (h : ∀ k a b H', KindOk k → Ext H H' → Q (deedMV k a b) H') : callW theP (n + 3) false "_law_deed_by" [v, .ref so, .int stops] H Q X := by
  rcases hv with ⟨c, rfl⟩ | ⟨k, a, b, hk, rfl⟩
  · exact s_deed_int hs hsa hl h
  · exact s_deed_tup (h k a b H hk (.refl _))
end
end Mine
end
section
set_option autoImplicit false
set_option linter.unusedVariables false
namespace Mine
open PySem
theorem idx_ne {x y : Int} {l : List Int} (h : y ≠ x) : (y :: l).idxOf x = l.idxOf x + 1 := by rw [List.idxOf_cons, beq_false_of_ne h]; rfl
/-! the greedy row by the first best -/
theorem best_idx {g : Grid} {stops e at_ : Int} : ∀ k : Nat, (bestN g stops e at_ k).2 ∈ (List.range (k + 1)).map (fun (i : Nat) => minI (lead g stops i at_) e) ∧ (∀ x ∈ (List.range (k + 1)).map (fun (i : Nat) => minI (lead g stops i at_) e), x ≤ (bestN g stops e at_ k).2) ∧ (((List.range (k + 1)).map (fun (i : Nat) => minI (lead g stops i at_) e)).idxOf (bestN g stops e at_ k).2 : Int) = (bestN g stops e at_ k).1
  | 0 => ⟨.head _, fun x hx => by obtain rfl := List.mem_singleton.mp hx; exact Int.le_refl _, by show ((List.idxOf (minI (lead g stops 0 at_) e) [minI (lead g stops 0 at_) e] : Nat) : Int) = 0; rw [List.idxOf_cons_self]; rfl⟩
  | k + 1 => by
    obtain ⟨h1, h2, h3⟩ := best_idx (g := g) (stops := stops) (e := e) (at_ := at_) k
    rw [List.range_succ, List.map_append, List.map_cons, List.map_nil]
    have eb : bestN g stops e at_ (k + 1) = if (bestN g stops e at_ k).2 < minI (lead g stops ((k : Int) + 1) at_) e then ((k : Int) + 1, minI (lead g stops ((k : Int) + 1) at_) e) else bestN g stops e at_ k := rfl
    rw [Int.natCast_succ]
    by_cases q : (bestN g stops e at_ k).2 < minI (lead g stops ((k : Int) + 1) at_) e
    · rw [eb, if_pos q]
      refine ⟨List.mem_append_right _ (.head _), fun x hx => ?_, ?_⟩
      · rcases List.mem_append.mp hx with hx | hx
        · exact Int.le_of_lt (Int.lt_of_le_of_lt (h2 x hx) q)
        · obtain rfl := List.mem_singleton.mp hx; exact Int.le_refl _
      · rw [List.idxOf_append, if_neg fun z => Int.lt_irrefl _ (Int.lt_of_le_of_lt (h2 _ z) q), List.idxOf_cons_self, List.length_map, List.length_range, Nat.zero_add]; rfl
    · rw [eb, if_neg q]
      refine ⟨List.mem_append_left _ h1, fun x hx => ?_, ?_⟩
      · rcases List.mem_append.mp hx with hx | hx
        · exact h2 x hx
        · obtain rfl := List.mem_singleton.mp hx; exact Int.not_lt.mp q
      · rw [List.idxOf_append, if_pos h1]; exact h3
noncomputable def leadsL (g : Grid) (seats stops e at_ : Int) : List Int := (rangeL 0 seats 1).map fun i => minI (lead g stops i at_) e
theorem leads_best {g : Grid} {seats stops e at_ : Int} (hs : 1 ≤ seats) : (bestN g stops e at_ (seats - 1).toNat).2 ∈ leadsL g seats stops e at_ ∧ (∀ x ∈ leadsL g seats stops e at_, x ≤ (bestN g stops e at_ (seats - 1).toNat).2) ∧ ((leadsL g seats stops e at_).idxOf (bestN g stops e at_ (seats - 1).toNat).2 : Int) = (bestN g stops e at_ (seats - 1).toNat).1 := by
  have e1 : seats.toNat = (seats - 1).toNat + 1 := by omega
  have e2 : leadsL g seats stops e at_ = (List.range ((seats - 1).toNat + 1)).map (fun (i : Nat) => minI (lead g stops i at_) e) := by
    unfold leadsL; rw [rng_eq, List.map_map, e1]; rfl
  rw [e2]
  exact best_idx _
/-! lists beside a dict -/
theorem dict_at {k : Int} {v : MV} : ∀ {L : List (Int × MV)}, dGet L k = some v → (L.map Prod.snd)[(L.map Prod.fst).idxOf k]? = some v
  | [], h => by cases h
  | (y, w) :: L, h => by
    rw [List.map_cons, List.map_cons]
    by_cases q : k = y
    · subst q
      rw [List.idxOf_cons_self]
      exact (if_pos rfl).symm.trans h
    · have h' : dGet L k = some v := (if_neg q).symm.trans h
      rw [idx_ne (Ne.symm q), List.getElem?_cons_succ]
      exact dict_at h'
theorem dict_in {k : Int} {v : MV} : ∀ {L : List (Int × MV)}, dGet L k = some v → L.any (fun e => decide (e.1 = k)) = true
  | [], h => by cases h
  | (y, w) :: L, h => by
    rw [List.any_cons]
    by_cases q : k = y
    · rw [decide_eq_true q.symm]; rfl
    · rw [dict_in ((if_neg q).symm.trans h), Bool.or_true]
theorem set_same_snd {k : Int} {w : MV} : ∀ {L : List (Int × MV)}, k ∉ L.map Prod.fst → L.map (fun e => if e.1 = k then (e.1, w) else e) = L
  | [], _ => rfl
  | (y, u) :: L, h => by
    rw [List.map_cons, if_neg fun (q : y = k) => h (q ▸ .head _), set_same_snd fun z => h (.tail _ z)]
theorem dict_set' {k : Int} {v w : MV} : ∀ {L : List (Int × MV)}, (L.map Prod.fst).Nodup → dGet L k = some v → (L.map Prod.snd).set ((L.map Prod.fst).idxOf k) w = (L.map (fun e => if e.1 = k then (e.1, w) else e)).map Prod.snd
  | [], _, h => by cases h
  | (y, u) :: L, hn, h => by
    rw [List.map_cons] at hn
    obtain ⟨h1, h2⟩ := List.nodup_cons.mp hn
    rw [List.map_cons, List.map_cons, List.map_cons, List.map_cons]
    by_cases q : k = y
    · subst q
      rw [List.idxOf_cons_self, List.set_cons_zero, if_pos rfl, set_same_snd h1]
    · rw [idx_ne (Ne.symm q), List.set_cons_succ, if_neg (Ne.symm q), dict_set' h2 ((if_neg q).symm.trans h)]
theorem dict_set {k : Int} {v w : MV} {L : List (Int × MV)} (hn : (L.map Prod.fst).Nodup) (h : dGet L k = some v) : (L.map Prod.snd).set ((L.map Prod.fst).idxOf k) w = (dSet L k w).map Prod.snd := by
  unfold dSet; rw [if_pos (dict_in h)]; exact dict_set' hn h
theorem del_same_snd {k : Int} {L : List (Int × MV)} (h : k ∉ L.map Prod.fst) : dDel L k = L := List.filter_eq_self.mpr fun e he => decide_eq_true fun q => h (q ▸ List.mem_map.mpr ⟨e, he, rfl⟩)
theorem dict_del {k : Int} {v : MV} : ∀ {L : List (Int × MV)}, (L.map Prod.fst).Nodup → dGet L k = some v → (L.map Prod.snd).eraseIdx ((L.map Prod.fst).idxOf k) = (dDel L k).map Prod.snd
  | [], _, h => by cases h
  | (y, u) :: L, hn, h => by
    rw [List.map_cons] at hn
    obtain ⟨h1, h2⟩ := List.nodup_cons.mp hn
    rw [List.map_cons, List.map_cons]
    by_cases q : k = y
    · subst q
      have e1 : dDel ((k, u) :: L) k = dDel L k := List.filter_cons_of_neg (by rw [decide_eq_false (fun z => z rfl)]; exact Bool.noConfusion)
      rw [List.idxOf_cons_self, List.eraseIdx_cons_zero, e1, del_same_snd h1]
    · have e1 : dDel ((y, u) :: L) k = (y, u) :: dDel L k := List.filter_cons_of_pos (decide_eq_true (Ne.symm q))
      rw [idx_ne (Ne.symm q), List.eraseIdx_cons_succ, e1, List.map_cons, dict_del h2 ((if_neg q).symm.trans h)]
theorem erase_ix {k : Int} : ∀ {l : List Int}, (l.map MV.int).eraseIdx (l.idxOf k) = (l.erase k).map MV.int
  | [] => rfl
  | y :: l => by
    by_cases q : k = y
    · subst q; rw [List.idxOf_cons_self, List.map_cons, List.eraseIdx_cons_zero, List.erase_cons_head]
    · rw [idx_ne (Ne.symm q), List.map_cons, List.eraseIdx_cons_succ, List.erase_cons_tail (by rw [beq_false_of_ne (Ne.symm q)]; exact Bool.noConfusion), List.map_cons, erase_ix]
theorem RidesAt.fsts {H : MH} {own : Addr → Prop} {rs : List (Int × MV)} {R : Rides} (x : RidesAt H own rs R) : rs.map Prod.fst = R.map Prod.fst := by
  induction x with
  | nil => rfl
  | cons _ _ _ ih => exact congrArg _ ih
theorem asc_nodup {R : Rides} (h : R.Pairwise fun x y => x.1 < y.1) : (R.map Prod.fst).Nodup := List.pairwise_map.mpr (h.imp fun q => Int.ne_of_lt q)
theorem asc_uniq {R : Rides} (h : R.Pairwise fun x y => x.1 < y.1) {k : Int} {ps qs : List Part} (h1 : (k, ps) ∈ R) (h2 : (k, qs) ∈ R) : ps = qs := by
  induction R with
  | nil => cases h1
  | cons x R ih =>
    obtain ⟨a1, a2⟩ := List.pairwise_cons.mp h
    rcases List.mem_cons.mp h1 with e1 | h1
    · rcases List.mem_cons.mp h2 with e2 | h2
      · exact (Prod.mk.inj (e1.trans e2.symm)).2
      · exact absurd (a1 _ h2) (by rw [← e1]; exact Int.lt_irrefl _)
    · rcases List.mem_cons.mp h2 with e2 | h2
      · exact absurd (a1 _ h1) (by rw [← e2]; exact Int.lt_irrefl _)
      · exact ih a2 h1 h2
theorem goes_uniq {seats b e b' e' : Int} {ps : List Part} (G : Goes seats b ps e) (G' : Goes seats b' ps e') : b = b' ∧ e = e' := by
  obtain ⟨p, h1, h2⟩ := goes_first G
  obtain ⟨p', h1', h2'⟩ := goes_first G'
  obtain ⟨q, k1, k2⟩ := goes_last G
  obtain ⟨q', k1', k2'⟩ := goes_last G'
  obtain rfl := Option.some.inj (h1.symm.trans h1')
  obtain rfl := Option.some.inj (k1.symm.trans k1')
  exact ⟨h2.symm.trans h2', k2.symm.trans k2'⟩
end Mine
end
section
set_option autoImplicit false
set_option linter.unusedVariables false
namespace Mine
open PySem
section
variable {n : Nat} {hd : Bool} {H H' : MH} {O : Addr → Prop} {Q : MV → MH → Prop} {X : String → MH → Prop} {wd ro so rw : Addr} {rb : Int → Addr} {seats stops coming : Int} {R : Rides} {g : Grid}
variable {Δ : CallT} {ρ : Sto} {Y : String → MH → Prop}
theorem Ev.maxL {e : ME} {a : Addr} {is : List Int} {m : Int} (he : Ev Δ false e ρ H (.ref a)) (ha : H a = some (.lst (is.map .int))) (hm : m ∈ is) (hx : ∀ i ∈ is, i ≤ m) : Ev Δ false (.bi "max" (.cons e .nil)) ρ H (.int m) := fun Q X q => he _ _ (.maxL rfl (.inl ha) hm hx q)
theorem Ev.index {e x : ME} {a : Addr} {is : List Int} {i j : Int} (he : Ev Δ hd e ρ H (.ref a)) (ha : H a = some (.lst (is.map .int))) (hx : Ev Δ hd x ρ H (.int i)) (hi : i ∈ is) (hj : (is.idxOf i : Int) = j) : Ev Δ hd (.bm e "index" (.cons x .nil)) ρ H (.int j) := fun Q X q => he _ _ ⟨true, .lst ha rfl, hx _ _ ⟨.lst ha rfl, .index ha hi (hj ▸ q)⟩⟩
theorem w_lpop {e x : ME} {a : Addr} {l : List MV} {i : Int} {v : MV} (he : Ev Δ hd e ρ H (.ref a)) (ha : H a = some (.lst l)) (hx : Ev Δ hd x ρ H (.int i)) (h0 : 0 ≤ i) (hg : l[i.toNat]? = some v) (h : Q v (H.set a (.lst (l.eraseIdx i.toNat)))) : wE Δ hd (.bm e "pop" (.cons x .nil)) ρ H Q Y :=
  he _ _ ⟨true, .lst ha rfl, hx _ _ ⟨.lst ha rfl, .lpop ha h0 hg h⟩⟩
theorem s_reach {a : Addr} {i stop : Int} (ha : H a = some (.lst (rowOf g i (stops - 1).toNat))) (p2 : 2 ≤ stops ∧ stops ≤ 60) (h0 : 0 ≤ stop) (h : Q (.int (lead g stops i stop)) H) : callW theP (n + 1) hd "_law_reach" [.ref a, .int stop] H Q X := by
  refine call_of (d := f__law_reach) rfl rfl ?_
  have len : ((rowOf g i (stops - 1).toNat).length : Int) = stops - 1 := by rw [rowOf_length]; omega
  have le : ∀ {ρ : Sto}, ρ "_law_row" = some (.ref a) → Ev (callW theP n) hd (.bi "len" (.cons (.var "_law_row") .nil)) ρ H (.int (stops - 1)) := fun h => len ▸ Ev.lenL (Ev.var h) ha
  refine s_while (fun k ρ H' => ∃ stop, H' = H ∧ ρ "_law_row" = some (.ref a) ∧ ρ "_law_stop" = some (.int stop) ∧ 0 ≤ stop ∧ k = (stops - 1 - stop).toNat ∧ Q (.int (lead g stops i stop)) H) ?_ (n := (stops - 1 - stop).toNat) ⟨stop, rfl, rfl, rfl, h0, rfl, h⟩
  rintro k ρ H' ⟨stop, rfl, g1, g2, h2, rfl, h⟩
  by_cases q : stop < stops - 1
  · have a5 := rowOf_at (g := g) (i := i) h2 q
    rw [lead_go q] at h
    refine ⟨(g i stop).isNone, Ev.and (EvA.t (decide_eq_true q ▸ Ev.cmp (by array_get_dec) (le g1) .lt) (EvA.one (by rw [← isNil_mvo]; array_get_dec))), fun c kk hkk => ?_, fun c => ?_⟩
    · rw [if_pos c] at h
      exact s_assign (by array_get_dec) (s_done (hkk _ _ _ (tn_lt (Int.lt_succ stop) q) ⟨stop + 1, rfl, Sto.gn rfl g1, Sto.gets _ _ _, Int.le_add_one h2, rfl, h⟩))
    · rw [if_neg (by rw [c]; exact Bool.noConfusion)] at h
      exact s_ret (by array_get_dec) h
  · rw [lead_end q] at h
    exact ⟨false, Ev.and (EvA.f (decide_eq_false q ▸ Ev.cmp (by array_get_dec) (le g1) .lt)), fun c => Bool.noConfusion c, fun c => s_ret (by array_get_dec) h⟩
theorem s_lfull (G : Gd H ro rb seats stops g) {b e : Int} (h0 : 0 ≤ b) (h1 : b < e) (h2 : e < stops) (h : ∀ H', Ext H H' → Q (mvo (blockF g seats (e - b).toNat b)) H') : callW theP (n + 1) false "_law_full" [.ref ro, .int b, .int e] H Q X := by
  refine call_of (d := f__law_full) rfl rfl ?_
  have p2 := G.hstops
  refine s_range (fun i ρ H' => ρ "_law_rows" = some (.ref ro) ∧ Ext H H' ∧ blockF g seats (e - b).toNat b = blockF g seats (e - i).toNat i) (Ev.range2 (by array_get_dec) (by array_get_dec) (smallOf h0 (by omega)) (smallOf (by omega) (by omega))) ⟨rfl, .refl _, rfl⟩ ?_ ?_
  · rintro i ρ H' k hi1 hi2 ⟨g1, E, hb⟩ hk
    have G1 := G.ext E
    have i0 : 0 ≤ i := Int.le_trans h0 hi1
    refine s_itew (w_bi1 (w_compG G1 (fun j => .bool (g j i).isSome) (by array_get_dec) (fun j j0 j1 => ?_) fun c hc => b_all ?_))
    · have a3 := G1.row j j0 j1
      have a5 := rowOf_at (g := g) (i := j) (m := stops - 1) i0 (by omega)
      rw [← not_nil_mvo]
      array_get_dec
    · rw [block_go hi2] at hb
      show if full g seats i = true then _ else _
      have E2 := E.trans (Ext.new (.lst ((rangeL 0 seats 1).map fun j => MV.bool (g j i).isSome)) hc)
      by_cases c : full g seats i = true
      · rw [if_pos c] at hb ⊢
        have := h _ E2
        rw [hb] at this
        exact s_ret (by array_get_dec) this
      · rw [if_neg c] at hb ⊢
        exact s_done (s_done (hk _ _ ⟨Sto.gn rfl g1, E2, hb⟩))
  · rintro i ρ H' hi ⟨_, E, hb⟩
    have := h _ E
    rw [hb, block_end hi] at this
    exact s_ret Ev.none this
theorem s_lfound (G : Gd H ro rb seats stops g) {b e : Int} (h0 : 0 ≤ b) (h1 : b < e) (h2 : e < stops) (hfree : ∀ leg, b ≤ leg → leg < e → ∃ seat, 0 ≤ seat ∧ seat < seats ∧ g seat leg = none)
    (h : ∀ c H', H c = none → Ext H H' → H' c = some (.lst ((offer g seats stops b e).map partMV)) → Q (.ref c) H') : callW theP (n + 2) false "_law_found" [.ref ro, .int b, .int e] H Q X := by
  refine call_of (d := f__law_found) rfl rfl ?_
  have p2 := G.hstops
  have p1 := G.hseats
  refine s_let (w_list Evs.nil fun c hc => ?_)
  refine s_while (fun k ρ H' => ∃ at_ acc N, ρ "_law_rows" = some (.ref ro) ∧ ρ "_law_end" = some (.int e) ∧ ρ "_law_found_here" = some (.ref c) ∧ ρ "_law_begin" = some (.int at_) ∧ b ≤ at_ ∧ at_ ≤ e ∧ k = (e - at_).toNat ∧ Ext H H' ∧ H' c = some (.lst (acc.map partMV)) ∧ (acc.length : Int) ≤ at_ - b ∧ (e - at_).toNat ≤ N ∧ foundF g seats stops e (e - b).toNat b = acc ++ foundF g seats stops e N at_)
    ?_ (n := (e - b).toNat) ⟨b, [], _, rfl, rfl, rfl, rfl, Int.le_refl _, Int.le_of_lt h1, rfl, Ext.new _ hc, MH.set_selfE _ _ _, Int.le_of_eq (Int.sub_self b).symm, Nat.le_refl _, rfl⟩
  rintro k ρ H' ⟨at_, acc, N, g1, g2, g3, g4, i1, i2, rfl, E, hcc, i4, i5, i6⟩
  refine ⟨decide (at_ < e), by array_get_dec, fun hlt k hk => ?_, fun hge => ?_⟩
  · replace hlt := of_decide_eq_true hlt
    have G' := G.ext E
    obtain ⟨seat, hs0, hs1, hsg⟩ := hfree at_ i1 hlt
    have q0 : 0 ≤ at_ := Int.le_trans h0 i1
    refine s_let (w_compG G' (fun i => .int (minI (lead g stops i at_) e)) (by array_get_dec) (fun i j0 j1 => Ev.min (Ev.call (by array_get_dec) fun Q X q => s_reach (G'.row i j0 j1) p2 q0 q) (by array_get_dec)) fun c2 hc2 => ?_)
    obtain ⟨m1, m2, m3⟩ := leads_best (g := g) (stops := stops) (e := e) (at_ := at_) p1.1
    have E2 := Ext.new (.lst ((rangeL 0 seats 1).map fun i => MV.int (minI (lead g stops i at_) e))) hc2
    have l2 : (H'.set c2 (.lst ((rangeL 0 seats 1).map fun i => MV.int (minI (lead g stops i at_) e)))) c2 = some (.lst ((leadsL g seats stops e at_).map .int)) := (MH.set_selfE _ _ _).trans (by unfold leadsL; rw [List.map_map]; rfl)
    have n2 : c ≠ c2 := mne hc2 hcc
    generalize H'.set c2 _ = H2 at E2 l2
    have bf := (bestN_facts (g := g) hlt h2 (seats - 1).toNat).1
    have bg := best_gt (k := (seats - 1).toNat) hlt h2 hs0 (by omega) hsg
    cases N with
    | zero => exact absurd i5 (by omega)
    | succ N =>
      rw [found_go hlt] at i6
      refine s_expr (w_append (v := partMV ((bestN g stops e at_ (seats - 1).toNat).1, at_, (bestN g stops e at_ (seats - 1).toNat).2)) (by array_get_dec) (E2 _ _ hcc) (Ev.tup (Evs.cons (Ev.index (by array_get_dec) l2 (Ev.maxL (by array_get_dec) l2 m1 m2) m1 m3) (Evs.cons (by array_get_dec) (Evs.cons (Ev.maxL (by array_get_dec) l2 m1 m2) Evs.nil)))) (by rw [List.length_map]; unfold bigList; omega) ?_)
      refine s_assign (Ev.maxL (by array_get_dec) ((MH.set_neE _ _ n2.symm).trans l2) m1 m2) (s_done (hk _ _ _ (tn_lt bg hlt) ⟨_, acc ++ [((bestN g stops e at_ (seats - 1).toNat).1, at_, (bestN g stops e at_ (seats - 1).toNat).2)], N, by sizeOf_list_dec, by sizeOf_list_dec, by sizeOf_list_dec, Sto.gets _ _ _, by omega, bf.2.1, rfl, (E.trans E2).newer _ hc, ?_, ?_, by omega, ?_⟩))
      · rw [MH.set_selfE, List.map_append]; rfl
      · rw [List.length_append]; simp only [List.length_cons, List.length_nil]; omega
      · rw [i6, List.append_assoc]; rfl
  · obtain rfl : at_ = e := by have := of_decide_eq_false hge; omega
    refine s_ret (by array_get_dec) (h c _ hc E ?_)
    unfold offer
    rw [hcc, i6, found_end, List.append_nil]
theorem s_lmark (G : Gd H ro rb seats stops g) {c : Addr} {ps : List (Int × Int × Int)} {kv : Option Int} {kw : MV} (hkw : kw = mvo kv) (hc : H c = some (.lst (ps.map partMV))) (nc : ¬ Cel rb seats c) (hp : PartsIn seats stops ps)
    (h : ∀ H', Gd H' ro rb seats stops (marks g ps kv) → Frm (Cel rb seats) H H' → Q .none H') : callW theP (n + 1) false "_law_mark" [.ref ro, .ref c, kw] H Q X := by
  subst hkw
  refine call_of (d := f__law_mark) rfl rfl ?_
  refine s_for (fun vs ρ H' => ρ "_law_rows" = some (.ref ro) ∧ ρ "_law_held" = some (mvo kv) ∧ Frm (Cel rb seats) H H' ∧ ∃ done rest, ps = done ++ rest ∧ vs = rest.map partMV ∧ Gd H' ro rb seats stops (marks g done kv)) (by array_get_dec) (fun vs ρ H' z => z.2.2.1 _ _ nc hc) ⟨rfl, rfl, fun _ _ _ q => q, [], ps, rfl, rfl, G⟩ ?_ ?_
  · rintro v vs ρ H' k ⟨g1, g2, f, done, rest, e1, e2, G⟩ hk
    cases rest with
    | nil => cases e2
    | cons p rest =>
      obtain ⟨rfl, rfl⟩ := List.cons.inj e2
      obtain ⟨q0, q1, q2, q3, q4⟩ := hp p (e1 ▸ List.mem_append_right _ (.head _))
      have p2 := G.hstops
      refine s_cells_set (fun ρ => ρ "_law_rows" = some (.ref ro) ∧ ρ "_law_held" = some (mvo kv) ∧ ρ "_law_one" = some (partMV p)) G q0 q1 q2 q3 q4 ⟨by sizeOf_list_dec, by sizeOf_list_dec, by sizeOf_list_dec⟩ (Ev.range2 (Ev.itemT (Ev.var (v := partMV p) (by sizeOf_list_dec)) Ev.int rfl) (Ev.itemT (Ev.var (v := partMV p) (by sizeOf_list_dec)) Ev.int rfl) (smallOf q2 (by omega)) (smallOf (by omega) (by omega)))
        (fun ρ j z => ⟨Sto.gn rfl z.1, Sto.gn rfl z.2.1, Sto.gn rfl z.2.2⟩) (fun ρ H' z => Ev.var z.2.1) (fun ρ H' j z => Ev.var (Sto.gets _ _ _)) (fun ρ H'' g' z G' f' => Ev.item (Ev.var z.1) (Ev.itemT (Ev.var z.2.2) Ev.int rfl) G'.hl_ (refsOf_at q0 q1)) (fun ρ H'' z G' f' => s_done (hk _ _ ⟨z.1, z.2.1, f.trans f', done ++ [p], rest, by rw [e1, List.append_assoc]; rfl, rfl, marks_snoc ▸ G'⟩))
  · rintro ρ H' ⟨_, _, f, done, rest, e1, e2, G⟩
    cases rest with
    | nil => rw [List.append_nil] at e1; subst e1; exact s_done (h _ G f)
    | cons p rest => cases e2
theorem s_left {f : Addr} {stop : Int} {ps : List Part} (hf : H f = some (.lst (ps.map partMV))) (hl : ps.length ≤ 1000) (h : ∀ cg ck H', H cg = none → H ck = none → Ext H H' → H' cg = some (.lst ((goneL ps stop).map partMV)) → H' ck = some (.lst ((keepL ps stop).map partMV)) → Q (.tup [.ref ck, .ref cg]) H') : callW theP (n + 1) false "_law_left" [.ref f, .int stop] H Q X := by
  refine call_of (d := f__law_left) rfl rfl ?_
  have plen : (ps.map partMV).length ≤ bigList := by rw [List.length_map]; unfold bigList; omega
  refine s_let (w_compL (fun v => decide (pt2 v < stop)) (fun v => .tup [.int (pt1 v), .int (pt2 v), .int (minI (pt3 v) stop)]) (by array_get_dec) hf plen (fun v hv => ?_) (fun v hv _ => ?_) ?_)
  · obtain ⟨p, hp, rfl⟩ := List.mem_map.mp hv
    exact Ev.cmp (Ev.itemT (Ev.var (v := partMV p) (Sto.gets _ _ _)) Ev.int rfl) (by array_get_dec) .lt
  · obtain ⟨p, hp, rfl⟩ := List.mem_map.mp hv
    exact Ev.tup (Evs.cons (Ev.itemT (Ev.var (v := partMV p) (Sto.gets _ _ _)) Ev.int rfl) (Evs.cons (Ev.itemT (Ev.var (v := partMV p) (Sto.gets _ _ _)) Ev.int rfl) (Evs.cons (Ev.min (Ev.itemT (Ev.var (v := partMV p) (Sto.gets _ _ _)) Ev.int rfl) (by array_get_dec)) Evs.nil)))
  rw [keep_eq (stop := stop) _ _ (fun _ => rfl) (fun _ => rfl)]
  intro ck hck
  have E1 := Ext.new (.lst ((keepL ps stop).map partMV)) hck
  refine s_let (w_compL (fun v => decide (stop < pt3 v)) (fun v => .tup [.int (pt1 v), .int (maxI (pt2 v) stop), .int (pt3 v)]) (by array_get_dec) (E1 _ _ hf) plen (fun v hv => ?_) (fun v hv _ => ?_) ?_)
  · obtain ⟨p, hp, rfl⟩ := List.mem_map.mp hv
    exact Ev.cmp (Ev.itemT (Ev.var (v := partMV p) (Sto.gets _ _ _)) Ev.int rfl) (by array_get_dec) .gt
  · obtain ⟨p, hp, rfl⟩ := List.mem_map.mp hv
    exact Ev.tup (Evs.cons (Ev.itemT (Ev.var (v := partMV p) (Sto.gets _ _ _)) Ev.int rfl) (Evs.cons (Ev.max (Ev.itemT (Ev.var (v := partMV p) (Sto.gets _ _ _)) Ev.int rfl) (by array_get_dec)) (Evs.cons (Ev.itemT (Ev.var (v := partMV p) (Sto.gets _ _ _)) Ev.int rfl) Evs.nil)))
  rw [gone_eq (stop := stop) _ _ (fun _ => rfl) (fun _ => rfl)]
  exact fun cg hcg => s_ret (by array_get_dec) (h cg ck _ (none_of_ext E1 hcg) hck (E1.trans (Ext.new _ hcg)) (MH.set_selfE _ _ _) (Ext.new _ hcg _ _ (MH.set_selfE _ _ _)))
end
end Mine
end
section
set_option autoImplicit false
set_option linter.unusedVariables false
namespace Mine
open PySem
/-! the law's own world -/
noncomputable def Wn (wd ro so rw : Addr) (rb : Int → Addr) (seats : Int) (a : Addr) : Prop := a = wd ∨ a = so ∨ a = rw ∨ a = ro ∨ Cel rb seats a
structure Wd (H : MH) (O : Addr → Prop) (wd ro so rw : Addr) (rb : Int → Addr) (seats stops coming : Int) (R : Rides) (g : Grid) : Prop where
  gd : Gd H ro rb seats stops g
  wd_ : H wd = some (.lst [.ref ro, .ref so, .ref rw, .int coming])
  so_ : H so = some (.lst ((R.map Prod.fst).map .int))
  rw_ : ∃ rs, H rw = some (.lst (rs.map Prod.snd)) ∧ RidesAt H (fun a => O a ∨ Wn wd ro so rw rb seats a) rs R
  ne : wd ≠ so ∧ wd ≠ rw ∧ so ≠ rw
  nc : ¬ (wd = ro ∨ Cel rb seats wd) ∧ ¬ (so = ro ∨ Cel rb seats so) ∧ ¬ (rw = ro ∨ Cel rb seats rw)
  ap : ∀ a, Wn wd ro so rw rb seats a → ¬ O a
  oth : ∀ a, O a → H a ≠ none
section
variable {n : Nat} {hd : Bool} {H H' : MH} {O : Addr → Prop} {Q : MV → MH → Prop} {X : String → MH → Prop} {wd ro so rw : Addr} {rb : Int → Addr} {seats stops coming : Int} {R : Rides} {g : Grid}
variable {Δ : CallT} {ρ : Sto} {Y : String → MH → Prop}
/-- what is not the world's may turn -/
theorem Wd.train (W : Wd H O wd ro so rw rb seats stops coming R g) (f : Frm O H H') (th : ∀ a, O a → H' a ≠ none) : Wd H' O wd ro so rw rb seats stops coming R g :=
  ⟨W.gd.keep fun a o z => f a o (W.ap a (.inr (.inr (.inr z)))), f _ _ (W.ap _ (.inl rfl)) W.wd_, f _ _ (W.ap _ (.inr (.inl rfl))) W.so_, W.rw_.imp fun rs z => ⟨f _ _ (W.ap _ (.inr (.inr (.inl rfl)))) z.1, z.2.keep fun a o n => f a o fun q => n (.inl q)⟩, W.ne, W.nc, W.ap, th⟩
theorem Wd.ext (W : Wd H O wd ro so rw rb seats stops coming R g) (e : Ext H H') : Wd H' O wd ro so rw rb seats stops coming R g := W.train e.frm fun a z => some_kept (W.oth a z) (e a)
theorem Wd.regrid {g' : Grid} (W : Wd H O wd ro so rw rb seats stops coming R g) (G : Gd H' ro rb seats stops g') (f : Frm (Cel rb seats) H H') : Wd H' O wd ro so rw rb seats stops coming R g' :=
  ⟨G, f _ _ (fun z => W.nc.1 (.inr z)) W.wd_, f _ _ (fun z => W.nc.2.1 (.inr z)) W.so_, W.rw_.imp fun rs z => ⟨f _ _ (fun z => W.nc.2.2 (.inr z)) z.1, z.2.keep fun a o n => f a o fun q => n (.inr (.inr (.inr (.inr (.inr q)))))⟩, W.ne, W.nc, W.ap, fun a z => some_kept (W.oth a z) fun o => f a o fun q => W.ap a (.inr (.inr (.inr (.inr q)))) z⟩
/-- the books turn -/
theorem Wd.book {coming' : Int} {R' : Rides} {rs : List (Int × MV)} (W : Wd H O wd ro so rw rb seats stops coming R g) (f : Frm (fun a => a = wd ∨ a = so ∨ a = rw) H H') (h1 : H' wd = some (.lst [.ref ro, .ref so, .ref rw, .int coming'])) (h2 : H' so = some (.lst ((R'.map Prod.fst).map .int))) (h3 : H' rw = some (.lst (rs.map Prod.snd)))
    (x : RidesAt H (fun a => O a ∨ Wn wd ro so rw rb seats a) rs R') : Wd H' O wd ro so rw rb seats stops coming' R' g :=
  ⟨W.gd.keep fun a o z => f a o fun q => q.elim (fun q => W.nc.1 (q ▸ z)) fun q => q.elim (fun q => W.nc.2.1 (q ▸ z)) fun q => W.nc.2.2 (q ▸ z), h1, h2, ⟨rs, h3, x.keep fun a o n => f a o fun q => n (.inr (q.imp id fun q => q.imp id .inl))⟩, W.ne, W.nc, W.ap,
    fun a z => some_kept (W.oth a z) fun o => f a o fun q => W.ap a (q.imp id fun q => q.imp id .inl) z⟩
theorem frm_cel (f : Frm (Cel rb seats) H H') : Frm (Wn wd ro so rw rb seats) H H' := f.mono fun a z => .inr (.inr (.inr (.inr z)))
theorem frm_bk (f : Frm (fun a => a = wd ∨ a = so ∨ a = rw) H H') : Frm (Wn wd ro so rw rb seats) H H' := f.mono fun a q => q.imp id fun q => q.imp id .inl
theorem Wd.ev0 {x : ME} (W : Wd H O wd ro so rw rb seats stops coming R g) (hx : Ev Δ hd x ρ H (.ref wd)) : Ev Δ hd (.sub x (.int 0)) ρ H (.ref ro) := Ev.item hx Ev.int W.wd_ rfl
theorem Wd.ev1 {x : ME} (W : Wd H O wd ro so rw rb seats stops coming R g) (hx : Ev Δ hd x ρ H (.ref wd)) : Ev Δ hd (.sub x (.int 1)) ρ H (.ref so) := Ev.item hx Ev.int W.wd_ rfl
theorem Wd.ev2 {x : ME} (W : Wd H O wd ro so rw rb seats stops coming R g) (hx : Ev Δ hd x ρ H (.ref wd)) : Ev Δ hd (.sub x (.int 2)) ρ H (.ref rw) := Ev.item hx Ev.int W.wd_ rfl
theorem Wd.ev3 {x : ME} (W : Wd H O wd ro so rw rb seats stops coming R g) (hx : Ev Δ hd x ρ H (.ref wd)) : Ev Δ hd (.sub x (.int 3)) ρ H (.int coming) := Ev.item hx Ev.int W.wd_ rfl
theorem Gd.len0 {x : ME} (G : Gd H ro rb seats stops g) (hx : Ev Δ hd x ρ H (.ref ro)) : Ev Δ hd (.bi "len" (.cons (.sub x (.int 0)) .nil)) ρ H (.int (stops - 1)) := by
  have p := G.hstops
  have p1 := G.hseats
  have e : ((rowOf g 0 (stops - 1).toNat).length : Int) = stops - 1 := by rw [rowOf_length]; omega
  exact e ▸ Ev.lenL (Ev.item hx Ev.int G.hl_ (refsOf_at (Int.le_refl _) (by omega))) (G.row 0 (Int.le_refl _) (by omega))
theorem Gd.lenR {x : ME} (G : Gd H ro rb seats stops g) (hx : Ev Δ hd x ρ H (.ref ro)) : Ev Δ hd (.bi "len" (.cons x .nil)) ρ H (.int seats) := by
  have p1 := G.hseats
  have e : ((refsOf rb seats.toNat).length : Int) = seats := by unfold refsOf; rw [List.length_map, List.length_range]; omega
  exact e ▸ Ev.lenL hx G.hl_
theorem Wd.fresh (W : Wd H O wd ro so rw rb seats stops coming R g) {c : Addr} (hc : H c = none) : ¬ (O c ∨ Wn wd ro so rw rb seats c) := by
  rintro (z | z | z | z | z | ⟨i, h0, h1, z⟩)
  · exact W.oth c z hc
  · exact mne hc W.wd_ z.symm
  · exact mne hc W.so_ z.symm
  · obtain ⟨rs, h, _⟩ := W.rw_; exact mne hc h z.symm
  · exact mne hc W.gd.hl_ z.symm
  · exact mne hc (W.gd.row i h0 h1) z.symm
theorem s_sold_by (W : Wd H O wd ro so rw rb seats stops coming R g) (I : Inv seats stops coming R g) (hl : R.length < 5000) {b e : Int} (hok : 0 ≤ b → b < e → e < stops → blockF g seats (e - b).toNat b = none → ∀ H', Frm (Wn wd ro so rw rb seats) H H' →
      Wd H' O wd ro so rw rb seats stops (coming + 1) (R ++ [(coming, offer g seats stops b e)]) (marks g (offer g seats stops b e) (some coming)) → Q (doneMV (.int coming)) H')
    (hx : ∀ c H', sellFail g seats stops b e = some c → Ext H H' → Q (failMV (wordOf c)) H') : callW theP (n + 3) false "_law_sold_by" [.ref wd, .int b, .int e] H Q X := by
  refine call_of (d := f__law_sold_by) rfl rfl ?_
  have p1 := W.gd.hseats
  refine s_ite (Ev.or (EvO.any (Ev.cmp (by array_get_dec) Ev.int .lt) (EvO.any (Ev.cmp (by array_get_dec) (by array_get_dec) .ge) (EvO.one (Ev.cmp (by array_get_dec) (W.gd.len0 (W.ev0 (by array_get_dec))) .gt))))) (fun z => s_ret (by array_get_dec) (hx "NoStretch" _ (fail_bad fun w => ?_) (.refl _))) (fun z => s_done ?_)
  · rw [decide_eq_false (by omega), decide_eq_false (by omega), decide_eq_false (by omega)] at z; exact Bool.noConfusion z
  obtain ⟨z1, z⟩ := Bool.or_eq_false_iff.mp z
  obtain ⟨z2, z3⟩ := Bool.or_eq_false_iff.mp z
  have h0 : 0 ≤ b := Int.not_lt.mp (of_decide_eq_false z1)
  have h1 : b < e := by have := of_decide_eq_false z2; omega
  have h2 : e < stops := by have := of_decide_eq_false z3; omega
  refine s_itew (w_cmpw (w_call (Evs.cons (W.ev0 (by array_get_dec)) (by array_get_dec)) (s_lfull W.gd h0 h1 h2 fun H1 E1 => w_ev Ev.none ⟨_, .isnotN, ?_⟩)))
  cases hb : blockF g seats (e - b).toNat b with
  | some x => exact it_t rfl (s_ret (by array_get_dec) (hx "Full" _ (fail_full h0 h1 h2 hb) E1))
  | none =>
    refine it_f rfl (s_done ?_)
    have W1 := W.ext E1
    refine s_let (w_call (Evs.cons (W1.ev0 (by array_get_dec)) (by array_get_dec)) (s_lfound W1.gd h0 h1 h2 (fun leg q1 q2 => full_free (block_none _ _ rfl hb leg q1 q2)) fun c H2 hc E2 h2c => ?_))
    have W2 := W1.ext E2
    have hno := W1.fresh hc
    have ncel : ¬ Cel rb seats c := fun z => hno (.inr (.inr (.inr (.inr (.inr z)))))
    refine s_expr (w_call (Evs.cons (W2.ev0 (by array_get_dec)) (Evs.cons (by array_get_dec) (Evs.cons (W2.ev3 (by array_get_dec)) Evs.nil))) (s_lmark (kv := some coming) W2.gd rfl h2c ncel (foundF_in p1.1 h2 _ _ h0) fun H3 G3 f3 => ?_))
    have W3 := W2.regrid G3 f3
    have h3c := f3 _ _ ncel h2c
    obtain ⟨rs, r1, r2⟩ := W3.rw_
    obtain ⟨ne1, ne2, ne3⟩ := W3.ne
    have hrl : rs.length = R.length := r2.len
    refine s_expr (w_append (W3.ev1 (by array_get_dec)) W3.so_ (W3.ev3 (by array_get_dec)) (by rw [List.length_map, List.length_map]; unfold bigList; omega) ?_)
    have w4 := (MH.set_neE H3 (.lst ((R.map Prod.fst).map .int ++ [.int coming])) ne1).trans W3.wd_
    refine s_expr (w_append (a := rw) (l := rs.map Prod.snd) (Ev.item (by array_get_dec) Ev.int w4 rfl) ((MH.set_neE _ _ ne3.symm).trans r1) (by array_get_dec) (by rw [List.length_map]; unfold bigList; omega) ?_)
    have w5 := (MH.set_neE _ (.lst (rs.map Prod.snd ++ [.ref c])) ne2).trans w4
    refine s_setIdx (x := .int (coming + 1)) (Ev.add (Ev.item (by array_get_dec) Ev.int w5 rfl) Ev.int) (by array_get_dec) Ev.int w5 (by decide) (by show (3 : Int) < 4; decide) ?_
    refine s_ret (v := doneMV (.int (coming + 1 - 1))) (Ev.tup (Evs.cons Ev.str (Evs.cons (Ev.sub (Ev.item (by array_get_dec) Ev.int (MH.set_selfE _ _ _) rfl) Ev.int) Evs.nil))) ?_
    rw [Int.add_sub_cancel]
    have F : Frm (fun a => a = wd ∨ a = so ∨ a = rw) H3 (((H3.set so (.lst ((R.map Prod.fst).map .int ++ [.int coming]))).set rw (.lst (rs.map Prod.snd ++ [.ref c]))).set wd (.lst [.ref ro, .ref so, .ref rw, .int (coming + 1)])) := ((frm_set (.inr (.inl rfl))).trans (frm_set (.inr (.inr rfl)))).trans (frm_set (.inl rfl))
    refine hok h0 h1 h2 hb _ (((E1.trans E2).frm.trans (frm_cel f3)).trans (frm_bk F)) (W3.book (rs := rs ++ [(coming, .ref c)]) F (MH.set_selfE _ _ _) ?_ ?_ (r2.app h3c hno))
    · rw [MH.set_neE _ _ ne1.symm, MH.set_neE _ _ ne3, MH.set_selfE, List.map_append, List.map_append]; rfl
    · rw [MH.set_neE _ _ ne2.symm, MH.set_selfE, List.map_append]; rfl
/-! deeds in the world -/
theorem done_sell (W : Wd H O wd ro so rw rb seats stops coming R g) (I : Inv seats stops coming R g) (hl : R.length < 5000) {b e : Int} (hok : 0 ≤ b → b < e → e < stops → blockF g seats (e - b).toNat b = none → ∀ H', Frm (Wn wd ro so rw rb seats) H H' →
      Wd H' O wd ro so rw rb seats stops (coming + 1) (R ++ [(coming, offer g seats stops b e)]) (marks g (offer g seats stops b e) (some coming)) → Q (doneMV (.int coming)) H')
    (hx : ∀ c H', sellFail g seats stops b e = some c → Ext H H' → Q (failMV (wordOf c)) H') : callW theP (n + 4) false "_law_done_by" [.ref wd, deedMV "sell" b e] H Q X :=
  call_of (d := f__law_done_by) rfl rfl (s_iteT (ev_kind (k := "sell") (by array_get_dec)) (s_retw (w_call (Evs.cons (by array_get_dec) (Evs.cons (ev_d1 (by array_get_dec)) (Evs.cons (ev_d2 (by array_get_dec)) Evs.nil))) (s_sold_by W I hl hok hx))))
theorem Wd.nin (W : Wd H O wd ro so rw rb seats stops coming R g) {k : Int} (nk : ∀ ps, (k, ps) ∉ R) : CmpR H .notin (.int k) (.ref so) true := by
  have := CmpR.notinl (x := k) (.inl W.so_)
  rwa [decide_eq_false fun z => (mem_keys z).elim nk] at this
theorem Wd.isin (W : Wd H O wd ro so rw rb seats stops coming R g) {k : Int} {ps : List Part} (hp : (k, ps) ∈ R) : CmpR H .notin (.int k) (.ref so) false := by
  have := CmpR.notinl (x := k) (.inl W.so_)
  rwa [decide_eq_true (List.mem_map.mpr ⟨_, hp, rfl⟩ : k ∈ R.map Prod.fst)] at this
theorem done_none (W : Wd H O wd ro so rw rb seats stops coming R g) {kd : String} (hkd : kd ≠ "sell") {k z : Int} (nk : ∀ ps, (k, ps) ∉ R) (h : Q (failMV "ticket") H) : callW theP (n + 4) false "_law_done_by" [.ref wd, deedMV kd k z] H Q X :=
  call_of (d := f__law_done_by) rfl rfl (s_skip (ev_kindf hkd (by array_get_dec)) (s_iteT (Ev.cmp (ev_d1 (k := kd) (b := z) (by array_get_dec)) (W.ev1 (by array_get_dec)) (W.nin nk)) (s_ret (by array_get_dec) h)))
/-- the head that the other deeds share -/
theorem done_head (W : Wd H O wd ro so rw rb seats stops coming R g) (I : Inv seats stops coming R g) {kd : String} (hkd : kd ≠ "sell") {k z : Int} {ps : List Part} (hp : (k, ps) ∈ R) {c : Addr} {rs : List (Int × MV)} {ss : MSs} {N : Sto → MH → Prop} {RR : MV → MH → Prop} {YY : String → Sto → MH → Prop} (r1 : H rw = some (.lst (rs.map Prod.snd))) (r2 : RidesAt H (fun a => O a ∨ Wn wd ro so rw rb seats a) rs R) (hg : dGet rs k = some (.ref c)) {a b : MSs}
    (h : wSs (callW theP n) false ss (((Sto.ofArgs ["_law_world_here", "_law_deed"] [.ref wd, deedMV kd k z]).set "_law_at" (.int ((rs.map Prod.fst).idxOf k : Nat))).set "_law_found_here" (.ref c)) H N RR YY) :
    wSs (callW theP n) false (.cons (.ite (.cmp (.sub (.var "_law_deed") (.int 0)) (.cons .eq (.str "sell") .nil)) a .nil) (.cons (.ite (.cmp (.sub (.var "_law_deed") (.int 1)) (.cons .notin (.sub (.var "_law_world_here") (.int 1)) .nil)) b .nil) (.cons (.assign "_law_at" (.bm (.sub (.var "_law_world_here") (.int 1)) "index" (.cons (.sub (.var "_law_deed") (.int 1)) .nil))) (.cons (.assign "_law_found_here" (.sub (.sub (.var "_law_world_here") (.int 2)) (.var "_law_at"))) ss)))) (Sto.ofArgs ["_law_world_here", "_law_deed"] [.ref wd, deedMV kd k z]) H N RR YY := by
  have ek := r2.fsts
  refine s_skip (ev_kindf hkd (by array_get_dec)) (s_skip (Ev.cmp (ev_d1 (k := kd) (b := z) (by array_get_dec)) (W.ev1 (by array_get_dec)) (W.isin hp)) (s_assign (Ev.index (W.ev1 (by array_get_dec)) W.so_ (ev_d1 (k := kd) (b := z) (by array_get_dec)) (List.mem_map.mpr ⟨_, hp, rfl⟩) rfl) ?_))
  rw [← ek]
  exact s_assign (Ev.item (W.ev2 (by array_get_dec)) (by array_get_dec) r1 (atIdx_nn (Int.natCast_nonneg _) (dict_at hg))) h
theorem done_back (W : Wd H O wd ro so rw rb seats stops coming R g) (I : Inv seats stops coming R g) {k z : Int} {ps : List Part} (hp : (k, ps) ∈ R) (hok : ∀ c H', Frm (Wn wd ro so rw rb seats) H H' → Wd H' O wd ro so rw rb seats stops coming (rDel R k) (marks g ps none) → H' c = some (.lst (ps.map partMV)) → ¬ O c → Q (doneMV (.ref c)) H') : callW theP (n + 4) false "_law_done_by" [.ref wd, deedMV "back" k z] H Q X := by
  refine call_of (d := f__law_done_by) rfl rfl ?_
  obtain ⟨rs, r1, r2⟩ := W.rw_
  obtain ⟨c, hg, hc, hno⟩ := r2.get I.asc hp
  have ek := r2.fsts
  have hnd : (rs.map Prod.fst).Nodup := ek ▸ asc_nodup I.asc
  have ncel : ¬ Cel rb seats c := fun z => hno (.inr (.inr (.inr (.inr (.inr z)))))
  refine done_head W I (by decide) hp r1 r2 hg (s_skip (ev_kindf (k := "back") (by decide) (by array_get_dec)) ?_)
  refine s_expr (w_call (Evs.cons (W.ev0 (by array_get_dec)) (Evs.cons (by array_get_dec) (Evs.cons Ev.none Evs.nil))) (s_lmark (kv := none) W.gd rfl hc ncel (I.partsIn hp) fun H3 G3 f3 => ?_))
  have W3 := W.regrid G3 f3
  have h3c := f3 _ _ ncel hc
  obtain ⟨ne1, ne2, ne3⟩ := W3.ne
  have r13 := f3 _ _ (fun z => W.nc.2.2 (.inr z)) r1
  have r23 : RidesAt H3 (fun a => O a ∨ Wn wd ro so rw rb seats a) rs R := r2.keep fun a o n => f3 a o fun q => n (.inr (.inr (.inr (.inr (.inr q)))))
  have hix : ((R.map Prod.fst).map MV.int)[(((rs.map Prod.fst).idxOf k : Nat) : Int).toNat]? = some (.int k) := by
    rw [ek, Int.toNat_natCast, List.getElem?_map, List.getElem?_eq_getElem (List.idxOf_lt_length_of_mem (List.mem_map.mpr ⟨_, hp, rfl⟩)), List.getElem_idxOf]; rfl
  refine s_iteT (ev_kind (k := "back") (by array_get_dec)) (s_expr (w_lpop (W3.ev1 (by array_get_dec)) W3.so_ (by array_get_dec) (Int.natCast_nonneg _) hix ?_))
  have w4 := fun o => (MH.set_neE H3 o ne1).trans W3.wd_
  refine s_expr (w_lpop (a := rw) (l := rs.map Prod.snd) (Ev.item (by array_get_dec) Ev.int (w4 _) rfl) ((MH.set_neE _ _ ne3.symm).trans r13) (by array_get_dec) (Int.natCast_nonneg _) (dict_at hg) ?_)
  have F : ∀ o1 o2, Frm (fun a => a = wd ∨ a = so ∨ a = rw) H3 ((H3.set so o1).set rw o2) := fun o1 o2 => (frm_set (.inr (.inl rfl))).trans (frm_set (.inr (.inr rfl)))
  have nb : ¬ (c = wd ∨ c = so ∨ c = rw) := fun q => hno (.inr (q.imp id fun q => q.imp id .inl))
  refine s_ret (by array_get_dec) (hok c _ ((frm_cel f3).trans (frm_bk (F _ _))) (W3.book (rs := dDel rs k) (F _ _) ((MH.set_neE _ _ ne2).trans (w4 _)) ?_ ?_ (r23.del k)) (F _ _ _ _ nb h3c) fun z => hno (.inl z))
  · rw [MH.set_neE _ _ ne3, MH.set_selfE, ek]
    exact congrArg (fun l => some (MObj.lst l)) (erase_ix.trans (congrArg _ (keys_del I.asc)))
  · exact (MH.set_selfE _ _ _).trans (congrArg (fun l => some (MObj.lst l)) (dict_del hnd hg))
theorem done_leave (W : Wd H O wd ro so rw rb seats stops coming R g) (I : Inv seats stops coming R g) {k stop : Int} {ps : List Part} (hp : (k, ps) ∈ R) {b e : Int} (Go : Goes seats b ps e) (hb : 0 ≤ b) (he : e ≤ stops - 1) (hok : b < stop → stop < e → ∀ c H', Frm (Wn wd ro so rw rb seats) H H' → Wd H' O wd ro so rw rb seats stops coming (rSet R k (keepL ps stop)) (marks g (goneL ps stop) none) → H' c = some (.lst ((goneL ps stop).map partMV)) → ¬ O c → Q (doneMV (.ref c)) H')
    (hstop : ¬ (b < stop ∧ stop < e) → Q (failMV "stop") H) : callW theP (n + 4) false "_law_done_by" [.ref wd, deedMV "leave" k stop] H Q X := by
  refine call_of (d := f__law_done_by) rfl rfl ?_
  obtain ⟨rs, r1, r2⟩ := W.rw_
  obtain ⟨c, hg, hc, hno⟩ := r2.get I.asc hp
  have ek := r2.fsts
  have hnd : (rs.map Prod.fst).Nodup := ek ▸ asc_nodup I.asc
  have p2 := W.gd.hstops
  have hgl := goes_len Go
  refine done_head W I (by decide) hp r1 r2 hg (s_iteT (ev_kind (k := "leave") (by array_get_dec)) ?_)
  refine s_ite (Ev.or (EvO.any (Ev.cmp (ev_d2 (k := "leave") (a := k) (by array_get_dec)) (ev_first Go (by array_get_dec) hc) .le) (EvO.one (Ev.cmp (ev_d2 (k := "leave") (a := k) (by array_get_dec)) (ev_last Go (by array_get_dec) hc) .ge)))) (fun z => s_ret (by array_get_dec) (hstop fun w => ?_)) (fun z => s_done ?_)
  · rw [decide_eq_false (by omega), decide_eq_false (by omega)] at z; exact Bool.noConfusion z
  obtain ⟨z1, z2⟩ := Bool.or_eq_false_iff.mp z
  have q1 : b < stop := Int.not_le.mp (of_decide_eq_false z1)
  have q2 : stop < e := by have := of_decide_eq_false z2; omega
  refine s_let (w_call (Evs.cons (by array_get_dec) (Evs.cons (ev_d2 (k := "leave") (a := k) (by array_get_dec)) Evs.nil)) (s_left hc (by omega) fun cg ck H2 hcg hck E2 h2g h2k => ?_))
  have W2 := W.ext E2
  have nog := W.fresh hcg
  have nok := W.fresh hck
  have cel : ∀ {x : Addr}, ¬ (O x ∨ Wn wd ro so rw rb seats x) → ¬ Cel rb seats x := fun h z => h (.inr (.inr (.inr (.inr (.inr z)))))
  refine s_expr (w_call (vs := [.ref ro, .ref cg, .none]) (Evs.cons (W2.ev0 (by array_get_dec)) (Evs.cons (Ev.itemT (vs := [.ref ck, .ref cg]) (by array_get_dec) Ev.int rfl) (Evs.cons Ev.none Evs.nil))) (s_lmark (kv := none) W2.gd rfl h2g (cel nog) (gone_in (I.partsIn hp) (by omega)) fun H3 G3 f3 => ?_))
  have W3 := W2.regrid G3 f3
  have r13 := f3 _ _ (fun z => W.nc.2.2 (.inr z)) (E2 _ _ r1)
  have r23 : RidesAt H3 (fun a => O a ∨ Wn wd ro so rw rb seats a) rs R := r2.keep fun a o n h => f3 a o (fun q => n (.inr (.inr (.inr (.inr (.inr q)))))) (E2 _ _ h)
  obtain ⟨ne1, ne2, ne3⟩ := W3.ne
  have lt : (((rs.map Prod.fst).idxOf k : Nat) : Int) < ((rs.map Prod.snd).length : Int) := Int.ofNat_lt.mpr (List.getElem?_eq_some_iff.mp (dict_at hg)).1
  refine s_setIdx (x := .ref ck) (Ev.itemT (vs := [.ref ck, .ref cg]) (by array_get_dec) Ev.int rfl) (W3.ev2 (by array_get_dec)) (by array_get_dec) r13 (Int.natCast_nonneg _) lt ?_
  have F : ∀ o2, Frm (fun a => a = wd ∨ a = so ∨ a = rw) H3 (H3.set rw o2) := fun o2 => frm_set (.inr (.inr rfl))
  have nb : ¬ (cg = wd ∨ cg = so ∨ cg = rw) := fun q => nog (.inr (q.imp id fun q => q.imp id .inl))
  refine s_ret (v := doneMV (.ref cg)) (Ev.tup (Evs.cons Ev.str (Evs.cons (Ev.itemT (vs := [.ref ck, .ref cg]) (by array_get_dec) Ev.int rfl) Evs.nil))) (hok q1 q2 cg _ ((E2.frm.trans (frm_cel f3)).trans (frm_bk (F _))) (W3.book (rs := dSet rs k (.ref ck)) (F _) ((MH.set_neE _ _ ne2).trans W3.wd_) ?_ ?_ (r23.set hp (f3 _ _ (cel nok) h2k) nok)) (F _ _ _ nb (f3 _ _ (cel nog) h2g)) fun z => nog (.inl z))
  · rw [MH.set_neE _ _ ne3, keys_set]; exact W3.so_
  · rw [MH.set_selfE, Int.toNat_natCast, dict_set hnd hg]
theorem done_reseat (W : Wd H O wd ro so rw rb seats stops coming R g) (I : Inv seats stops coming R g) {k z : Int} {ps : List Part} (hp : (k, ps) ∈ R) {b e : Int} (Go : Goes seats b ps e) (h0 : 0 ≤ b) (he : e ≤ stops - 1) (hok : ∀ c H', Frm (Wn wd ro so rw rb seats) H H' → Wd H' O wd ro so rw rb seats stops coming (rSet R k (anew g seats stops ps b e)) (marks (marks g ps none) (anew g seats stops ps b e) (some k)) → H' c = some (.lst ((anew g seats stops ps b e).map partMV)) → ¬ O c → Q (doneMV (.ref c)) H') : callW theP (n + 4) false "_law_done_by" [.ref wd, deedMV "reseat" k z] H Q X := by
  refine call_of (d := f__law_done_by) rfl rfl ?_
  obtain ⟨rs, r1, r2⟩ := W.rw_
  obtain ⟨c, hg, hc, hno⟩ := r2.get I.asc hp
  have ek := r2.fsts
  have hnd : (rs.map Prod.fst).Nodup := ek ▸ asc_nodup I.asc
  have p1 := W.gd.hseats
  have es : e < stops := by omega
  have cel : ∀ {x : Addr}, ¬ (O x ∨ Wn wd ro so rw rb seats x) → ¬ Cel rb seats x := fun h z => h (.inr (.inr (.inr (.inr (.inr z)))))
  refine done_head W I (by decide) hp r1 r2 hg (s_skip (ev_kindf (k := "reseat") (by decide) (by array_get_dec)) ?_)
  refine s_expr (w_call (Evs.cons (W.ev0 (by array_get_dec)) (Evs.cons (by array_get_dec) (Evs.cons Ev.none Evs.nil))) (s_lmark (kv := none) W.gd rfl hc (cel hno) (I.partsIn hp) fun H3 G3 f3 => ?_))
  have W3 := W.regrid G3 f3
  have h3c := f3 _ _ (cel hno) hc
  refine s_skip (ev_kindf (k := "reseat") (by decide) (by array_get_dec)) ?_
  have hfree : ∀ leg, b ≤ leg → leg < e → ∃ seat, 0 ≤ seat ∧ seat < seats ∧ marks g ps none seat leg = none := fun l q1 q2 => by
    obtain ⟨s, hc⟩ := goes_leg Go q1 q2
    obtain ⟨c1, c2, _, _⟩ := Go.cov hc
    exact ⟨s, c1, c2, marks_in hc⟩
  refine s_setIdxw (w_call (Evs.cons (W3.ev0 (by array_get_dec)) (Evs.cons (ev_first Go (by array_get_dec) h3c) (Evs.cons (ev_last Go (by array_get_dec) h3c) Evs.nil))) (s_lfound W3.gd h0 Go.lt es hfree fun c4 H4 hc4 E4 h4 => ?_))
  have W4 := W3.ext E4
  have no4 := W3.fresh hc4
  obtain ⟨ne1, ne2, ne3⟩ := W4.ne
  have r14 := E4 _ _ (f3 _ _ (fun z => W.nc.2.2 (.inr z)) r1)
  have r24 : RidesAt H4 (fun a => O a ∨ Wn wd ro so rw rb seats a) rs R := r2.keep fun a o n h => E4 _ _ (f3 a o (fun q => n (.inr (.inr (.inr (.inr (.inr q)))))) h)
  have lt : (((rs.map Prod.fst).idxOf k : Nat) : Int) < ((rs.map Prod.snd).length : Int) := Int.ofNat_lt.mpr (List.getElem?_eq_some_iff.mp (dict_at hg)).1
  refine w_ev (v := .ref rw) (W4.ev2 (by array_get_dec)) (w_ev (v := .int (((rs.map Prod.fst).idxOf k : Nat) : Int)) (by array_get_dec) (SetIdxR.lst r14 (Int.natCast_nonneg _) lt ?_))
  rw [Int.toNat_natCast, dict_set hnd hg]
  have F : Frm (fun a => a = wd ∨ a = so ∨ a = rw) H4 (H4.set rw (.lst ((dSet rs k (.ref c4)).map Prod.snd))) := frm_set (.inr (.inr rfl))
  have nb : ¬ (c4 = wd ∨ c4 = so ∨ c4 = rw) := fun q => no4 (.inr (q.imp id fun q => q.imp id .inl))
  have x5 := r24.set hp h4 no4
  have W5 := W4.book (R' := rSet R k (anew g seats stops ps b e)) (rs := dSet rs k (.ref c4)) F ((MH.set_neE _ _ ne2).trans W4.wd_) (by rw [MH.set_neE _ _ ne3, keys_set]; exact W4.so_) (MH.set_selfE _ _ _) x5
  have h5 := F _ _ nb h4
  have at5 : atIdx ((dSet rs k (.ref c4)).map Prod.snd) (((rs.map Prod.fst).idxOf k : Nat) : Int) = some (.ref c4) := by
    refine atIdx_nn (Int.natCast_nonneg _) ?_
    rw [← dict_set hnd hg, Int.toNat_natCast, List.getElem?_set_self (Int.ofNat_lt.mp lt)]
  have r5 := MH.set_selfE H4 rw (.lst ((dSet rs k (.ref c4)).map Prod.snd))
  generalize H4.set rw _ = H5 at F W5 h5 r5
  refine s_expr (w_call (vs := [.ref ro, .ref c4, .int k]) (Evs.cons (W5.ev0 (by array_get_dec)) (Evs.cons (Ev.item (W5.ev2 (by array_get_dec)) (by array_get_dec) r5 at5) (Evs.cons (ev_d1 (k := "reseat") (b := z) (by array_get_dec)) Evs.nil))) (s_lmark (kv := some k) W5.gd rfl h5 (cel no4) (foundF_in p1.1 es _ _ h0) fun H6 G6 f6 => ?_))
  have W6 := W5.regrid G6 f6
  refine s_ret (v := doneMV (.ref c4)) (Ev.tup (Evs.cons Ev.str (Evs.cons (Ev.item (W6.ev2 (by array_get_dec)) (by array_get_dec) (f6 _ _ (fun z => W.nc.2.2 (.inr z)) r5) at5) Evs.nil))) (hok c4 _ ((((frm_cel f3).trans E4.frm).trans (frm_bk F)).trans (frm_cel f6)) W6 (f6 _ _ (cel no4) h5) fun z => no4 (.inl z))
end
end Mine
end
section
set_option autoImplicit false
set_option linter.unusedVariables false
namespace Mine
open PySem
section
variable {n : Nat} {hd : Bool} {H H' : MH} {Z O : Addr → Prop} {Q : MV → MH → Prop} {X : String → MH → Prop} {t rd hl wd ro so rw : Addr} {ra rb : Int → Addr} {seats stops coming : Int} {R : Rides} {g : Grid}
variable {Δ : CallT} {ρ : Sto} {Y : String → MH → Prop}
theorem Trn.own_there (T : Trn H Z t rd hl ra seats stops coming R g) : ∀ a, Own t rd hl ra seats a → H a ≠ none := fun a z h => T.not_own h z
theorem Wd.there (W : Wd H O wd ro so rw rb seats stops coming R g) : ∀ a, Wn wd ro so rw rb seats a → H a ≠ none := fun a z h => W.fresh h (.inr z)
theorem Trn.not_ro (T : Trn H Z t rd hl ra seats stops coming R g) {s : Addr} {l : List MV} (h : H s = some (.ro l)) : ¬ Own t rd hl ra seats s := by
  obtain ⟨rides, T1, _⟩ := T.tr
  rintro (z | z | z | ⟨i, h0, h1, z⟩)
  · rw [z, T1.at_] at h; cases h
  · rw [z, T1.rd_] at h; cases h
  · rw [z, T1.hl_] at h; cases h
  · rw [z, T1.row i h0 h1] at h; cases h
theorem Wd.not_ro (W : Wd H O wd ro so rw rb seats stops coming R g) {s : Addr} {l : List MV} (h : H s = some (.ro l)) : ¬ Wn wd ro so rw rb seats s := by
  rintro (z | z | z | z | ⟨i, h0, h1, z⟩)
  · rw [z, W.wd_] at h; cases h
  · rw [z, W.so_] at h; cases h
  · obtain ⟨rs, h', _⟩ := W.rw_; rw [z, h'] at h; cases h
  · rw [z, W.gd.hl_] at h; cases h
  · rw [z, W.gd.row i h0 h1] at h; cases h
/-- the train and the world, alike -/
structure Bo (H : MH) (t rd hl wd ro so rw : Addr) (ra rb : Int → Addr) (seats stops coming : Int) (R : Rides) (g : Grid) : Prop where
  tn : Trn H (Wn wd ro so rw rb seats) t rd hl ra seats stops coming R g
  wo : Wd H (Own t rd hl ra seats) wd ro so rw rb seats stops coming R g
abbrev Ow (t rd hl wd ro so rw : Addr) (ra rb : Int → Addr) (seats : Int) (a : Addr) : Prop := Own t rd hl ra seats a ∨ Wn wd ro so rw rb seats a
theorem Bo.ext (S : Bo H t rd hl wd ro so rw ra rb seats stops coming R g) (e : Ext H H') : Bo H' t rd hl wd ro so rw ra rb seats stops coming R g := ⟨S.tn.ext e, S.wo.ext e⟩
theorem Bo.fresh (S : Bo H t rd hl wd ro so rw ra rb seats stops coming R g) {c : Addr} (h : H c = none) : ¬ Ow t rd hl wd ro so rw ra rb seats c := S.wo.fresh h
theorem fOwn (f : Frm (Own t rd hl ra seats) H H') : Frm (Ow t rd hl wd ro so rw ra rb seats) H H' := f.mono fun a z => .inl z
theorem fWn (f : Frm (Wn wd ro so rw rb seats) H H') : Frm (Ow t rd hl wd ro so rw ra rb seats) H H' := f.mono fun a z => .inr z
theorem Inv.span (I : Inv seats stops coming R g) {k : Int} {ps : List Part} (hp : (k, ps) ∈ R) {b e : Int} (Go : Goes seats b ps e) : 0 ≤ b ∧ e ≤ stops - 1 := by
  obtain ⟨b', e', h0, he, G⟩ := I.goes _ hp
  obtain ⟨rfl, rfl⟩ := goes_uniq Go G
  exact ⟨h0, he⟩
theorem rset_len {k : Int} {qs : List Part} : (rSet R k qs).length ≤ R.length + 1 := by unfold rSet; rw [List.length_map]; exact Nat.le_succ _
theorem rdel_len {k : Int} : (rDel R k).length ≤ R.length + 1 := Nat.le_succ_of_le (List.length_filter_le _ _)
theorem w_listw {es : MEs} (h : wEs Δ hd es ρ H (fun vs H₁ => New H₁ Q vs) Y) : wE Δ hd (.list es) ρ H Q Y := h
theorem s_world (p1 : 1 ≤ seats ∧ seats ≤ 60) (p2 : 2 ≤ stops ∧ stops ≤ 60) (ho : ∀ a, O a → H a ≠ none) (h : ∀ wd ro so rw rb H', Ext H H' → (∀ a, Wn wd ro so rw rb seats a → H a = none) → Wd H' O wd ro so rw rb seats stops 0 [] (fun _ _ => none) → Q (.ref wd) H') : callW theP (n + 1) false "_law_world" [.int seats, .int stops] H Q X := by
  refine call_of (d := f__law_world) rfl rfl ?_
  refine s_retw (w_listw (w_cons (w_grid (seats := seats) (stops := stops) (Ev.range1 (by array_get_dec) (smallOf (by omega) (by omega))) p1 p2 (fun v H' => by array_get_dec) fun ro rb H1 E1 G hro hrb => ?_)))
  refine w_cons (w_list Evs.nil fun so hso => w_cons (w_list Evs.nil fun rw hrw => w_evs (vs := [.int 0]) (by array_get_dec) fun wd hwd => ?_))
  have E2 := E1.trans (Ext.new (.lst []) hso)
  have E3 := E2.trans (Ext.new (.lst []) hrw)
  have E4 := E3.trans (Ext.new (.lst [.ref ro, .ref so, .ref rw, .int 0]) hwd)
  have s2 : (((H1.set so (.lst [])).set rw (.lst []))) so = some (.lst []) := Ext.new _ hrw _ _ (MH.set_selfE _ _ _)
  have s3 := MH.set_selfE (H1.set so (.lst [])) rw (.lst [])
  have G3 := G.ext ((Ext.new (.lst []) hso).trans (Ext.new (.lst []) hrw))
  have G4 := G3.ext (Ext.new (.lst [.ref ro, .ref so, .ref rw, .int 0]) hwd)
  have key : ∀ {a : Addr} {H2 : MH}, H2 a = none → Gd H2 ro rb seats stops (fun _ _ => none) → ¬ (a = ro ∨ Cel rb seats a) := fun h G z => z.elim (fun z => mne h G.hl_ z.symm) fun ⟨i, h0, h1, z⟩ => mne h (G.row i h0 h1) z.symm
  have fr : ∀ a, Wn wd ro so rw rb seats a → H a = none := fun a z => by
    rcases z with z | z | z | z | ⟨i, h0, h1, z⟩
    · exact z ▸ none_of_ext E3 hwd
    · exact z ▸ none_of_ext E1 hso
    · exact z ▸ none_of_ext E2 hrw
    · exact z ▸ hro
    · exact z ▸ hrb i h0 h1
  refine h wd ro so rw rb _ E4 fr ⟨G4, MH.set_selfE _ _ _, Ext.new _ hwd _ _ s2, ⟨[], Ext.new _ hwd _ _ s3, .nil⟩, ⟨fun q => mne hwd s2 q.symm, fun q => mne hwd s3 q.symm, mne hrw (MH.set_selfE _ _ _)⟩, ⟨key hwd G3, key hso G, key hrw (G.ext (Ext.new (.lst []) hso))⟩, fun a z o => ho a o (fr a z), fun a z => some_kept (ho a z) (E4 a)⟩
theorem s_built {script : Addr} {is : List Int} (hH : H script = some (.ro (is.map .int))) (h : ∀ bl t rd hl wd ro so rw ra rb seats stops H', H' bl = some (.lst [.ref t, .ref wd]) → H' script = some (.ro (is.map .int)) → Bo H' t rd hl wd ro so rw ra rb seats stops 0 [] (fun _ _ => none) → Q (.ref bl) H') : callW theP (n + 2) false "_law_built" [.ref script] H Q X := by
  refine call_of (d := f__law_built) rfl rfl ?_
  refine s_let (w_callw (w_cons (w_call (by array_get_dec) (s_cell_at hH (by decide) fun c0 => w_evs Evs.nil (s_seats fun seats q1 q2 => ?_)))))
  refine s_let (w_callw (w_cons (w_call (by array_get_dec) (s_cell_at hH (by decide) fun c1 => w_evs Evs.nil (s_stops fun stops q3 q4 => ?_)))))
  refine s_retw (w_listw (w_cons (w_mk (by array_get_dec) fun t ht => t_init (MH.set_selfE _ _ _) ⟨q1, q2⟩ ⟨q3, q4⟩ fun H1 rd hl ra T hown hkeep => ⟨rfl, ?_⟩)))
  have nt : script ≠ t := mne ht hH
  have hH1 := hkeep _ _ nt ((MH.set_neE _ (.inst []) nt).trans hH)
  refine w_cons (w_call (by array_get_dec) (s_world (O := Own t rd hl ra seats) ⟨q1, q2⟩ ⟨q3, q4⟩ T.own_there fun wd ro so rw rb H2 E2 fr W => w_evs Evs.nil fun bl hbl => ?_))
  have E3 := E2.trans (Ext.new (.lst [.ref t, .ref wd]) hbl)
  have W3 := W.ext (Ext.new (.lst [.ref t, .ref wd]) hbl)
  obtain ⟨rides, T1, T2⟩ := T.tr
  cases T2
  exact h bl t rd hl wd ro so rw ra rb seats stops _ (MH.set_selfE _ _ _) (E3 _ _ hH1) ⟨⟨⟨[], T1.ext E3, .nil⟩, inv_init, Int.le_refl _, Nat.zero_le _, fun a z => T1.not_own (fr a z), W3.there⟩, W3⟩
/-- a deed of the train, and then of the world -/
theorem word_done (S : Bo H t rd hl wd ro so rw ra rb seats stops coming R g) (hl5 : R.length < 5000) {kd : String} {a b : Int} (hk : KindOk kd)
    (h : ∀ w v H1, (∀ (Q2 : MV → MH → Prop) (X2 : String → MH → Prop), (∀ v' H2 coming' R' g', Frm (Ow t rd hl wd ro so rw ra rb seats) H H2 → Bo H2 t rd hl wd ro so rw ra rb seats stops coming' R' g' → R'.length ≤ R.length + 1 → Q2 (.tup [.str (Str.ofString w), v']) H2) → callW theP (n + 6) false "_law_done_by" [.ref wd, deedMV kd a b] H1 Q2 X2) → Q (.tup [.str (Str.ofString w), v]) H1) :
    callW theP (n + 6) false "_law_word" [.ref t, deedMV kd a b] H Q X := by
  have I := S.tn.inv
  rcases hk with rfl | rfl | rfl | rfl
  · refine s_word_sell S.tn hl5 (fun h0 h1 h2 hb H1 f1 T1 => h "" _ H1 fun Q2 X2 q => done_sell (S.wo.train f1 T1.own_there) I hl5 (fun _ _ _ _ H2 f2 W2 => q _ H2 _ _ _ ((fOwn f1).trans (fWn f2)) ⟨T1.turn f2 W2.there, W2⟩ (by rw [List.length_append]; exact Nat.le_refl _)) fun c H2 hf _ => ?_) fun c H1 hf E1 => h _ _ H1 fun Q2 X2 q => done_sell (S.wo.ext E1) I hl5 (fun h0 h1 h2 hb _ _ _ => ?_) fun c' H2 hf' E2 => ?_
    · rw [fail_none h0 h1 h2 hb] at hf; cases hf
    · rw [fail_none h0 h1 h2 hb] at hf; cases hf
    · obtain rfl := Option.some.inj (hf.symm.trans hf')
      exact q _ H2 _ _ _ (E1.trans E2).frm (S.ext (E1.trans E2)) (Nat.le_succ _)
  · exact s_word_back S.tn (fun ps c H1 hp T1 f1 _ _ => h "" _ H1 fun Q2 X2 q => done_back (S.wo.train f1 T1.own_there) I hp fun c' H2 f2 W2 _ _ => q _ H2 _ _ _ ((fOwn f1).trans (fWn f2)) ⟨(T1.less fun a z => .inl z).turn f2 W2.there, W2⟩ rdel_len) fun nk H1 E1 => h _ _ H1 fun Q2 X2 q => done_none (S.wo.ext E1) (by decide) nk (q _ H1 _ _ _ E1.frm (S.ext E1) (Nat.le_succ _))
  · exact s_word_leave S.tn (fun ps b' e' c H1 hp Go z1 z2 T1 f1 _ _ => h "" _ H1 fun Q2 X2 q => done_leave (S.wo.train f1 T1.own_there) I hp Go (I.span hp Go).1 (I.span hp Go).2 (fun _ _ c' H2 f2 W2 _ _ => q _ H2 _ _ _ ((fOwn f1).trans (fWn f2)) ⟨(T1.less fun a z => .inl z).turn f2 W2.there, W2⟩ rset_len) fun hn => absurd ⟨z1, z2⟩ hn)
      (fun ps b' e' hp Go hn H1 E1 => h _ _ H1 fun Q2 X2 q => done_leave (S.wo.ext E1) I hp Go (I.span hp Go).1 (I.span hp Go).2 (fun z1 z2 => absurd ⟨z1, z2⟩ hn) fun _ => q _ H1 _ _ _ E1.frm (S.ext E1) (Nat.le_succ _)) fun nk H1 E1 => h _ _ H1 fun Q2 X2 q => done_none (S.wo.ext E1) (by decide) nk (q _ H1 _ _ _ E1.frm (S.ext E1) (Nat.le_succ _))
  · exact s_word_reseat S.tn (fun ps b' e' c H1 hp Go h0 he T1 f1 _ _ => h "" _ H1 fun Q2 X2 q => done_reseat (S.wo.train f1 T1.own_there) I hp Go h0 he fun c' H2 f2 W2 _ _ => q _ H2 _ _ _ ((fOwn f1).trans (fWn f2)) ⟨T1.turn f2 W2.there, W2⟩ rset_len) fun nk H1 E1 => h _ _ H1 fun Q2 X2 q => done_none (S.wo.ext E1) (by decide) nk (q _ H1 _ _ _ E1.frm (S.ext E1) (Nat.le_succ _))
end
end Mine
end
section
set_option autoImplicit false
set_option linter.unusedVariables false
namespace Mine
open PySem
section
variable {n : Nat} {hd : Bool} {H H' : MH} {Z O : Addr → Prop} {Q : MV → MH → Prop} {X : String → MH → Prop} {t rd hl wd ro so rw : Addr} {ra rb : Int → Addr} {seats stops coming : Int} {R : Rides} {g : Grid}
variable {Δ : CallT} {ρ : Sto} {Y : String → MH → Prop} {N : Sto → MH → Prop} {RR : MV → MH → Prop} {YY : String → Sto → MH → Prop}
theorem Sto.dn {ρ : Sto} {x : String} {y : String} {w : MV} (h : decide (y = x) = false) (k : ρ y = some w) : Sto.del ρ x y = some w := (if_neg (of_decide_eq_false h)).trans k
theorem nz {x : Int} : CmpR H .ne (.int x) (.int x) false := by have := CmpR.nei (H := H) (x := x) (y := x); rwa [decide_eq_true rfl] at this
theorem ez {x : Int} : CmpR H .eq (.int x) (.int x) true := by have := CmpR.eqi (H := H) (x := x) (y := x); rwa [decide_eq_true rfl] at this
theorem mvo_dr (o : Option Int) : ∃ d : PyData, DR H 8 (mvo o) d ∧ d.canLay0 = true := by
  cases o with
  | none => exact ⟨.none, rfl, by simp [PyData.canLay0]⟩
  | some i => exact ⟨.int i, rfl, by simp [PyData.canLay0]⟩
theorem mvo_ne (o : Option Int) : CmpR H .ne (mvo o) (mvo o) false := by
  obtain ⟨d, h, hl⟩ := mvo_dr (H := H) o
  have := CmpR.ned h h
  rwa [PySem.SeqAt.eqv_refl _ hl] at this
theorem mvo_eq (o : Option Int) : CmpR H .eq (mvo o) (mvo o) true := by
  obtain ⟨d, h, hl⟩ := mvo_dr (H := H) o
  have := CmpR.eqd h h
  rwa [PySem.SeqAt.eqv_refl _ hl] at this
theorem s_need_seat (T : Trn H Z t rd hl ra seats stops coming R g) {s : Int} (hok : 0 ≤ s → s < seats → Q .none H) (hbad : ¬ (0 ≤ s ∧ s < seats) → X "NoSeat" H) : callW theP (n + 1) false "need_seat" [.ref t, .int s] H Q X := by
  refine call_of (d := f_Train_need_seat) rfl rfl ?_
  have a1 := T.at_
  refine s_ite (Ev.not (Ev.chain Ev.int (EvC.any (by array_get_dec) .le (EvC.one (by array_get_dec) .lt)))) (fun c => s_raise (hbad fun z => ?_)) (fun c => s_done (s_done ?_))
  · rw [decide_eq_true z.1, decide_eq_true z.2] at c; exact Bool.noConfusion c
  · obtain ⟨c1, c2⟩ := Bool.and_eq_true_iff.mp ((Bool.not_eq_false' _) ▸ c)
    exact hok (of_decide_eq_true c1) (of_decide_eq_true c2)
theorem s_need_leg (T : Trn H Z t rd hl ra seats stops coming R g) {l : Int} (hok : 0 ≤ l → l < stops - 1 → Q .none H) (hbad : ¬ (0 ≤ l ∧ l < stops - 1) → X "NoLeg" H) : callW theP (n + 1) false "need_leg" [.ref t, .int l] H Q X := by
  refine call_of (d := f_Train_need_leg) rfl rfl ?_
  have a1 := T.at_
  refine s_ite (Ev.not (Ev.chain Ev.int (EvC.any (by array_get_dec) .le (EvC.one (by array_get_dec) .lt)))) (fun c => s_raise (hbad fun z => ?_)) (fun c => s_done (s_done ?_))
  · rw [decide_eq_true z.1, decide_eq_true z.2] at c; exact Bool.noConfusion c
  · obtain ⟨c1, c2⟩ := Bool.and_eq_true_iff.mp ((Bool.not_eq_false' _) ▸ c)
    exact hok (of_decide_eq_true c1) (of_decide_eq_true c2)
theorem s_farthest (T : Trn H Z t rd hl ra seats stops coming R g) {s l : Int} (hok : 0 ≤ s → s < seats → 0 ≤ l → l < stops → Q (.int (lead g stops s l)) H) (hseat : ¬ (0 ≤ s ∧ s < seats) → X "NoSeat" H) (hstop : 0 ≤ s → s < seats → ¬ (0 ≤ l ∧ l < stops) → X "NoStop" H) : callW theP (n + 2) false "farthest" [.ref t, .int s, .int l] H Q X := by
  refine call_of (d := f_Train_farthest) rfl rfl ?_
  have a1 := T.at_
  refine s_expr (w_meth (by array_get_dec) a1 rfl (by array_get_dec) (s_need_seat T (fun s0 s1 => ?_) hseat))
  refine s_ite (Ev.not (Ev.chain Ev.int (EvC.any (by array_get_dec) .le (EvC.one (by array_get_dec) .lt)))) (fun c => s_raise (hstop s0 s1 fun z => ?_)) (fun c => s_done ?_)
  · rw [decide_eq_true z.1, decide_eq_true z.2] at c; exact Bool.noConfusion c
  · obtain ⟨c1, c2⟩ := Bool.and_eq_true_iff.mp ((Bool.not_eq_false' _) ▸ c)
    obtain ⟨rides, T1, _⟩ := T.tr
    exact s_retw (w_meth (by array_get_dec) a1 rfl (by array_get_dec) (s_leads T1 s0 s1 (of_decide_eq_true c1) (of_decide_eq_true c2) (hok s0 s1 (of_decide_eq_true c1) (of_decide_eq_true c2))))
theorem s_holder (T : Trn H Z t rd hl ra seats stops coming R g) {s l : Int} (hok : 0 ≤ s → s < seats → 0 ≤ l → l < stops - 1 → Q (mvo (g s l)) H) (hseat : ¬ (0 ≤ s ∧ s < seats) → X "NoSeat" H) (hleg : 0 ≤ s → s < seats → ¬ (0 ≤ l ∧ l < stops - 1) → X "NoLeg" H) : callW theP (n + 2) false "holder" [.ref t, .int s, .int l] H Q X := by
  refine call_of (d := f_Train_holder) rfl rfl ?_
  have a1 := T.at_
  refine s_expr (w_meth (by array_get_dec) a1 rfl (by array_get_dec) (s_need_seat T (fun s0 s1 => ?_) hseat))
  refine s_expr (w_meth (by array_get_dec) a1 rfl (by array_get_dec) (s_need_leg T (fun l0 l1 => ?_) (hleg s0 s1)))
  obtain ⟨rides, T1, _⟩ := T.tr
  have a2 := T1.hl_
  have a3 := T1.row _ s0 s1
  have a4 := refsOf_at (ra := ra) s0 s1
  have a5 := rowOf_at (g := g) (i := s) l0 l1
  exact s_ret (by array_get_dec) (hok s0 s1 l0 l1)
/-- how many seats are taken -/
noncomputable def cnt (g : Grid) (seats l : Int) : Int := ((rangeL 0 seats 1).filter fun i => (g i l).isSome).length
theorem s_load (T : Trn H Z t rd hl ra seats stops coming R g) {l : Int} (hok : 0 ≤ l → l < stops - 1 → ∀ H', Ext H H' → Q (.int (cnt g seats l)) H') (hleg : ¬ (0 ≤ l ∧ l < stops - 1) → X "NoLeg" H) : callW theP (n + 2) false "load" [.ref t, .int l] H Q X := by
  refine call_of (d := f_Train_load) rfl rfl ?_
  have a1 := T.at_
  have p1 := T.hseats
  refine s_expr (w_meth (by array_get_dec) a1 rfl (by array_get_dec) (s_need_leg T (fun l0 l1 => ?_) hleg))
  obtain ⟨rides, T1, _⟩ := T.tr
  refine s_retw (w_bi1 (w_compR (fun i => (g i l).isSome) (fun i => .int i) (Ev.range1 (by array_get_dec) (smallOf (by omega) (by omega))) (by omega) (fun i i0 i1 => ?_) (fun i _ _ _ => by array_get_dec) fun c hc => .lenL (.inl (MH.set_selfE _ _ _)) ?_))
  · have a2 := T1.hl_
    have a3 := T1.row _ i0 i1
    have a4 := refsOf_at (ra := ra) i0 i1
    have a5 := rowOf_at (g := g) (i := i) l0 l1
    rw [← not_nil_mvo]
    array_get_dec
  · rw [List.length_map]; exact hok l0 l1 _ (Ext.new _ hc)
/-- a comprehension with a condition, item by item -/
theorem comp_ixp {α : Type} {src : MV} {vs₀ : List MV} {cond : MV → MH → (Bool → MH → Prop) → Prop} {elt : MV → MH → (MV → MH → Prop) → Prop} (F f : α → MV) (p : α → Bool) (he : Elems H src vs₀)
    : ∀ (l : List α) (acc : List MV), (∀ i ∈ l, ∀ k, k (p i) H → cond (F i) H k) → (∀ i ∈ l, ∀ k, k (f i) H → elt (F i) H k) → acc.length + l.length ≤ bigList → New H Q (acc ++ (l.filter p).map f) → compW src vs₀ cond elt Q (l.map F) acc H := by
  intro l
  induction l with
  | nil => intro acc _ _ _ q c hc; have := q c hc; rwa [List.filter_nil, List.map_nil, List.append_nil] at this
  | cons i l ih =>
    intro acc hc hf hl q
    rw [List.length_cons] at hl
    refine ⟨Nat.lt_of_lt_of_le (Nat.lt_add_of_pos_right (Nat.succ_pos _)) hl, hc i (.head _) _ ?_⟩
    cases hp : p i with
    | true =>
      rw [List.filter_cons_of_pos hp, List.map_cons] at q
      exact hf i (.head _) _ ⟨he, ih _ (fun w hw => hc w (.tail _ hw)) (fun w hw => hf w (.tail _ hw)) (by rw [List.length_append, List.length_singleton]; omega) (by rw [List.append_assoc]; exact q)⟩
    | false =>
      rw [List.filter_cons_of_neg (by rw [hp]; exact Bool.noConfusion)] at q
      exact ⟨he, ih _ (fun w hw => hc w (.tail _ hw)) (fun w hw => hf w (.tail _ hw)) (by omega) q⟩
/-- the law's own count -/
theorem w_cnt {it atE : ME} {x : String} {l : Int} (G : Gd H ro rb seats stops g) (l0 : 0 ≤ l) (l1 : l < stops - 1) (hit : Ev Δ false it ρ H (.ref ro)) (hat : ∀ v, Ev Δ false atE (ρ.set x v) H (.int l)) (h : ∀ H', Ext H H' → Q (.int (cnt g seats l)) H') : wE Δ false (.bi "len" (.cons (.comp (.var x) x it (.cmp (.sub (.var x) atE) (.cons .isnot .none .nil))) .nil)) ρ H Q Y := by
  have p := G.hseats
  refine w_bi1 ⟨rfl, hit _ _ ⟨_, .lst (.inl (refs_rng ▸ G.hl_)), comp_ixp (fun i => .ref (rb i)) (fun i => .ref (rb i)) (fun i => (g i l).isSome) (.lst (.inl (refs_rng ▸ G.hl_))) _ _ (fun i hi k hk => ?_) (fun i hi k hk => Ev.var (Sto.gets _ _ _) _ _ hk) ?_ fun c hc => .lenL (.inl (MH.set_selfE _ _ _)) ?_⟩⟩
  · obtain ⟨i0, i1⟩ := rangeL_mem (by decide) hi
    have ev : Ev Δ false (.cmp (.sub (.var x) atE) (.cons .isnot .none .nil)) (ρ.set x (.ref (rb i))) H (.bool (g i l).isSome) := by
      rw [← not_nil_mvo]
      exact Ev.cmp (Ev.item (Ev.var (Sto.gets _ _ _)) (hat _) (G.row i i0 i1) (rowOf_at l0 l1)) Ev.none .isnotN
    exact ev _ _ hk
  · rw [List.length_nil, rangeL_len1]; unfold bigList; omega
  · rw [List.nil_append, List.length_map]; exact h _ (Ext.new _ hc)
theorem Gd.cell {e i j : ME} (G : Gd H ro rb seats stops g) {s l : Int} (s0 : 0 ≤ s) (s1 : s < seats) (l0 : 0 ≤ l) (l1 : l < stops - 1) (he : Ev Δ hd e ρ H (.ref ro)) (hi : Ev Δ hd i ρ H (.int s)) (hj : Ev Δ hd j ρ H (.int l)) : Ev Δ hd (.sub (.sub e i) j) ρ H (mvo (g s l)) := Ev.item (Ev.item he hi G.hl_ (refsOf_at s0 s1)) hj (G.row s s0 s1) (rowOf_at l0 l1)
theorem w_orf {e f : ME} {es : MEs} (he : Ev Δ hd e ρ H (.bool false)) (h : wE Δ hd (.or (.cons f es)) ρ H Q Y) : wE Δ hd (.or (.cons e (.cons f es))) ρ H Q Y := he _ _ h
theorem w_or1 {e : ME} (h : wE Δ hd e ρ H Q Y) : wE Δ hd (.or (.cons e .nil)) ρ H Q Y := h
theorem Ev.asB {e : ME} {b b' : Bool} (q : b = b') (h : Ev Δ hd e ρ H (.bool b)) : Ev Δ hd e ρ H (.bool b') := q ▸ h
theorem s_join {s : MS} {ss : MSs} (J : Sto → MH → Prop) (h : ∀ k : Sto → MH → Prop, (∀ ρ' H', J ρ' H' → k ρ' H') → wSs Δ hd (.cons s .nil) ρ H k RR YY) (hj : ∀ ρ' H', J ρ' H' → wSs Δ hd ss ρ' H' N RR YY) : wSs Δ hd (.cons s ss) ρ H N RR YY := h _ hj
theorem str_ne {s : Str} : CmpR H .ne (.str s) (.str s) false := by have := CmpR.nes (H := H) (x := s) (y := s); rwa [decide_eq_true rfl] at this
theorem Ev.asI {e : ME} {b b' : Int} (q : b = b') (h : Ev Δ hd e ρ H (.int b)) : Ev Δ hd e ρ H (.int b') := q ▸ h
end
end Mine
end
section
set_option autoImplicit false
set_option linter.unusedVariables false
namespace Mine
open PySem
section
variable {n : Nat} {hd : Bool} {H H' : MH} {Z O : Addr → Prop} {Q : MV → MH → Prop} {X : String → MH → Prop} {t rd hl wd ro so rw : Addr} {ra rb : Int → Addr} {seats stops coming : Int} {R : Rides} {g : Grid}
variable {Δ : CallT} {ρ : Sto} {Y : String → MH → Prop} {N : Sto → MH → Prop} {RR : MV → MH → Prop} {YY : String → Sto → MH → Prop}
/-- what a query of a seat tells -/
theorem w_far {s l : ME} {fn : String} {si li : Int} {ss bad : MSs} (S : Bo H t rd hl wd ro so rw ra rb seats stops coming R g) (s0 : 0 ≤ si) (s1 : si < seats) (l0 : 0 ≤ li) (l1 : li < stops) (ht : ρ "_law_train" = some (.ref t)) (hw : ρ "_law_world_here" = some (.ref wd))
    (hs : ∀ ρ' : Sto, ρ' = ρ ∨ ρ' = ρ.set "_law_found_here" (.int (lead g stops si li)) → Ev (callW theP (n + 2)) false s ρ' H (.int si) ∧ Ev (callW theP (n + 2)) false l ρ' H (.int li))
    (h : wSs (callW theP (n + 2)) false ss (ρ.set "_law_found_here" (.int (lead g stops si li))) H N RR YY) :
    wSs (callW theP (n + 2)) false (.cons (.assign "_law_found_here" (.meth (.var "_law_train") "farthest" (.cons s (.cons l .nil)))) (.cons (.ite (.or (.cons (.not (.call "_law_whole" (.cons (.var "_law_found_here") .nil))) (.cons (.cmp (.var "_law_found_here") (.cons .ne (.call "_law_reach" (.cons (.sub (.sub (.var "_law_world_here") (.int 0)) s) (.cons l .nil))) .nil)) .nil))) bad .nil) ss)) ρ H N RR YY := by
  obtain ⟨e1, e2⟩ := hs _ (.inl rfl)
  obtain ⟨e3, e4⟩ := hs _ (.inr rfl)
  refine s_let (w_meth (Ev.var ht) S.tn.at_ rfl (Evs.cons e1 (Evs.cons e2 Evs.nil)) (s_farthest S.tn (fun _ _ _ _ => ?_) (fun z => absurd ⟨s0, s1⟩ z) fun _ _ z => absurd ⟨l0, l1⟩ z))
  refine s_skip (Ev.or (EvO.f (Ev.not (b := true) (Ev.call (Evs.cons (by array_get_dec) Evs.nil) fun Q X q => s_whole q)) (EvO.one (Ev.cmp (by array_get_dec) (Ev.call (v := .int (lead g stops si li)) (Evs.cons (Ev.item (S.wo.ev0 (Ev.var (Sto.gn rfl hw))) e3 S.wo.gd.hl_ (refsOf_at s0 s1)) (Evs.cons e4 Evs.nil)) fun Q X q => s_reach (S.wo.gd.row si s0 s1) S.wo.gd.hstops l0 q) nz)))) h
theorem s_lleads (S : Bo H t rd hl wd ro so rw ra rb seats stops coming R g) {s l : Int} (s0 : 0 ≤ s) (s1 : s < seats) (l0 : 0 ≤ l) (l1 : l < stops) (h : ∀ H', Ext H H' → Q (.bool true) H') : callW theP (n + 3) false "_law_leads" [.ref t, .ref wd, .int s, .int l] H Q X := by
  refine call_of (d := f__law_leads) rfl rfl ?_
  refine w_far (fn := "") S s0 s1 l0 l1 rfl rfl (fun ρ' z => by rcases z with rfl | rfl <;> exact ⟨by array_get_dec, by array_get_dec⟩) ?_
  refine s_ite (Ev.cmp (by array_get_dec) (S.wo.gd.len0 (S.wo.ev0 (by array_get_dec))) .eqi) (fun _ => s_ret Ev.bool (h _ (.refl _))) (fun z => s_done ?_)
  have l2 : l < stops - 1 := by have := of_decide_eq_false z; omega
  refine s_let (w_cnt S.wo.gd l0 l2 (S.wo.ev0 (by array_get_dec)) (fun v => by array_get_dec) fun H1 E1 => ?_)
  have S1 := S.ext E1
  refine s_retw (w_and2 (w_cmpw (w_meth (by array_get_dec) S1.tn.at_ rfl (by array_get_dec) (s_load S1.tn (fun _ _ H2 E2 => w_ev (by array_get_dec) ⟨true, ez, ?_⟩) fun z => absurd ⟨l0, l2⟩ z))))
  have S2 := S1.ext E2
  exact w_cmpw (w_meth (by array_get_dec) S2.tn.at_ rfl (by array_get_dec) (s_holder S2.tn (fun _ _ _ _ => w_ev (S2.wo.gd.cell s0 s1 l0 l2 (S2.wo.ev0 (by array_get_dec)) (by array_get_dec) (by array_get_dec)) ⟨true, mvo_eq _, h _ (E1.trans E2)⟩) (fun z => absurd ⟨s0, s1⟩ z) fun _ _ z => absurd ⟨l0, l2⟩ z))
/-- what is due -/
noncomputable def dueW (seats stops s l w : Int) : String := if w < 2 ∧ ¬ (0 ≤ s ∧ s < seats) then "seat" else if w = 0 ∧ ¬ (0 ≤ l ∧ l < stops) then "stop" else if 0 < w ∧ ¬ (0 ≤ l ∧ l < stops - 1) then "leg" else ""
theorem s_asked (T : Trn H Z t rd hl ra seats stops coming R g) {s l w : Int} (hw : w = 0 ∨ w = 1 ∨ w = 2) (h : ∀ H', Ext H H' → Q (.str (Str.ofString (dueW seats stops s l w))) H') : callW theP (n + 4) false "_law_asked" [.ref t, .int s, .int l, .int w] H Q X := by
  refine call_of (d := f__law_asked) rfl rfl ?_
  have a1 := T.at_
  have hand : ∀ {c : String} {ρ : Sto} {ss : MSs} {N : Sto → MH → Prop} {YY : String → Sto → MH → Prop}, excNames.contains c = true → (∀ H', Ext H H' → Q (.str (Str.ofString (wordOf c))) H') → wSs (callW theP (n + 3)) true (.cons (.assign "_law_word_here" (.call "_law_class" (.cons (.var "_law_e") .nil))) .nil) (ρ.set "_law_e" (.exc c)) H (fun ρ'' H'' => wSs (callW theP (n + 3)) false (.cons (.ret (.var "_law_word_here")) ss) (ρ''.del "_law_e") H'' N Q YY) Q (fun _ _ _ => False) := fun hc hq =>
    s_let (w_call (Evs.cons (Ev.var (Sto.gets _ _ _)) Evs.nil) (s_class hc fun H1 E1 => s_done (s_ret (Ev.var (Sto.dn rfl (Sto.gets _ _ _))) (hq _ E1))))
  refine s_assign Ev.str ?_
  rcases hw with rfl | rfl | rfl
  · refine s_try (s_iteT (by array_get_dec) (s_expr (w_meth (by array_get_dec) a1 rfl (by array_get_dec) (s_farthest T (fun s0 s1 l0 l1 => s_done (s_done (s_ret (v := .str (Str.ofString "")) (by array_get_dec) ?_))) (fun z => hand rfl fun H1 E1 => ?_) fun s0 s1 z => hand rfl fun H1 E1 => ?_))))
    · have := h H (.refl _)
      unfold dueW at this
      rwa [if_neg fun z => z.2 ⟨s0, s1⟩, if_neg fun z => z.2 ⟨l0, l1⟩, if_neg fun z => absurd z.1 (by decide)] at this
    · have := h H1 E1
      unfold dueW at this
      rw [if_pos ⟨by decide, z⟩] at this
      exact this
    · have := h H1 E1
      unfold dueW at this
      rw [if_neg fun y => y.2 ⟨s0, s1⟩, if_pos ⟨rfl, z⟩] at this
      exact this
  · refine s_try (s_iteF (by array_get_dec) (s_iteT (by array_get_dec) (s_expr (w_meth (by array_get_dec) a1 rfl (by array_get_dec) (s_holder T (fun s0 s1 l0 l1 => s_done (s_done (s_done (s_ret (v := .str (Str.ofString "")) (by array_get_dec) ?_)))) (fun z => hand rfl fun H1 E1 => ?_) fun s0 s1 z => hand rfl fun H1 E1 => ?_)))))
    · have := h H (.refl _)
      unfold dueW at this
      rwa [if_neg fun z => z.2 ⟨s0, s1⟩, if_neg fun z => absurd z.1 (by decide), if_neg fun z => z.2 ⟨l0, l1⟩] at this
    · have := h H1 E1
      unfold dueW at this
      rw [if_pos ⟨by decide, z⟩] at this
      exact this
    · have := h H1 E1
      unfold dueW at this
      rw [if_neg fun y => y.2 ⟨s0, s1⟩, if_neg fun z => absurd z.1 (by decide), if_pos ⟨by decide, z⟩] at this
      exact this
  · refine s_try (s_iteF (by array_get_dec) (s_iteF (by array_get_dec) (s_expr (w_meth (by array_get_dec) a1 rfl (by array_get_dec) (s_load T (fun l0 l1 H1 E1 => s_done (s_done (s_done (s_ret (v := .str (Str.ofString "")) (by array_get_dec) ?_)))) fun z => hand rfl fun H1 E1 => ?_)))))
    · have := h H1 E1
      unfold dueW at this
      rwa [if_neg fun z => absurd z.1 (by decide), if_neg fun z => absurd z.1 (by decide), if_neg fun z => z.2 ⟨l0, l1⟩] at this
    · have := h H1 E1
      unfold dueW at this
      rw [if_neg fun z => absurd z.1 (by decide), if_neg fun z => absurd z.1 (by decide), if_pos ⟨by decide, z⟩] at this
      exact this
theorem s_due (W : Wd H O wd ro so rw rb seats stops coming R g) {s l w : Int} (h : Q (.str (Str.ofString (dueW seats stops s l w))) H) : callW theP (n + 1) false "_law_due" [.ref wd, .int s, .int l, .int w] H Q X := by
  refine call_of (d := f__law_due) rfl rfl ?_
  unfold dueW at h
  have lr := fun {ρ : Sto} (h : ρ "_law_world_here" = some (.ref wd)) => W.gd.lenR (Δ := callW theP n) (hd := false) (W.ev0 (Ev.var h))
  refine s_assign (W.gd.len0 (W.ev0 (by array_get_dec))) ?_
  have dec : ∀ {a b c d : Prop} [Decidable a] [Decidable b] [Decidable c], (a ∧ ¬ d) → (¬ d → b ∨ c) → (decide a && (decide b || decide c)) = true := fun z k => by
    rw [decide_eq_true z.1]
    rcases k z.2 with k | k
    · rw [decide_eq_true k]; rfl
    · rw [decide_eq_true k, Bool.or_true]; rfl
  have decn : ∀ {a b c d : Prop} [Decidable a] [Decidable b] [Decidable c], ¬ (a ∧ ¬ d) → (b → ¬ d) → (c → ¬ d) → (decide a && (decide b || decide c)) = false := fun {a b c d} _ _ _ z k1 k2 => by
    by_cases ha : a
    · have hd : ¬¬ d := fun q => z ⟨ha, q⟩
      rw [decide_eq_false fun q => hd (k1 q), decide_eq_false fun q => hd (k2 q)]
      cases decide a <;> rfl
    · rw [decide_eq_false ha]; rfl
  by_cases z1 : w < 2 ∧ ¬ (0 ≤ s ∧ s < seats)
  · rw [if_pos z1] at h
    exact s_iteT (Ev.asB (dec z1 (b := s < 0) (c := seats ≤ s) (by omega)) (Ev.and (EvA.any (Ev.cmp (by array_get_dec) Ev.int .lt) (EvA.one (Ev.or (EvO.any (Ev.cmp (by array_get_dec) Ev.int .lt) (EvO.one (Ev.cmp (by array_get_dec) (lr (by sizeOf_list_dec)) .ge)))))))) (s_ret Ev.str h)
  rw [if_neg z1] at h
  refine s_skip (Ev.asB (decn z1 (b := s < 0) (c := seats ≤ s) (by omega) (by omega)) (Ev.and (EvA.any (Ev.cmp (by array_get_dec) Ev.int .lt) (EvA.one (Ev.or (EvO.any (Ev.cmp (by array_get_dec) Ev.int .lt) (EvO.one (Ev.cmp (by array_get_dec) (lr (by sizeOf_list_dec)) .ge)))))))) ?_
  by_cases z2 : w = 0 ∧ ¬ (0 ≤ l ∧ l < stops)
  · rw [if_pos z2] at h
    exact s_iteT (Ev.asB (dec z2 (b := l < 0) (c := stops - 1 < l) (by omega)) (Ev.and (EvA.any (Ev.cmp (by array_get_dec) Ev.int .eqi) (EvA.one (Ev.or (EvO.any (Ev.cmp (by array_get_dec) Ev.int .lt) (EvO.one (Ev.cmp (by array_get_dec) (by array_get_dec) .gt)))))))) (s_ret Ev.str h)
  rw [if_neg z2] at h
  refine s_skip (Ev.asB (decn z2 (b := l < 0) (c := stops - 1 < l) (by omega) (by omega)) (Ev.and (EvA.any (Ev.cmp (by array_get_dec) Ev.int .eqi) (EvA.one (Ev.or (EvO.any (Ev.cmp (by array_get_dec) Ev.int .lt) (EvO.one (Ev.cmp (by array_get_dec) (by array_get_dec) .gt)))))))) ?_
  by_cases z3 : 0 < w ∧ ¬ (0 ≤ l ∧ l < stops - 1)
  · rw [if_pos z3] at h
    exact s_iteT (Ev.asB (dec z3 (b := l < 0) (c := stops - 1 ≤ l) (by omega)) (Ev.and (EvA.any (Ev.cmp (by array_get_dec) Ev.int .gt) (EvA.one (Ev.or (EvO.any (Ev.cmp (by array_get_dec) Ev.int .lt) (EvO.one (Ev.cmp (by array_get_dec) (by array_get_dec) .ge)))))))) (s_ret Ev.str h)
  rw [if_neg z3] at h
  exact s_skip (Ev.asB (decn z3 (b := l < 0) (c := stops - 1 ≤ l) (by omega) (by omega)) (Ev.and (EvA.any (Ev.cmp (by array_get_dec) Ev.int .gt) (EvA.one (Ev.or (EvO.any (Ev.cmp (by array_get_dec) Ev.int .lt) (EvO.one (Ev.cmp (by array_get_dec) (by array_get_dec) .ge)))))))) (s_ret Ev.str h)
end
end Mine
end
section
set_option autoImplicit false
set_option linter.unusedVariables false
namespace Mine
open PySem
section
variable {n : Nat} {hd : Bool} {H H' : MH} {Q : MV → MH → Prop} {Δ : CallT} {ρ : Sto} {Y : String → MH → Prop} {N : Sto → MH → Prop} {RR : MV → MH → Prop} {YY : String → Sto → MH → Prop}
theorem Ev.ten : Ev Δ hd (.bin .pow (.int 10) (.int 20)) ρ H (.int (10 ^ 20)) := fun Q X q => BinR.pow (by decide) (by decide) (by decide) q
/-- one of a row of numbers, by a number drawn -/
theorem w_draw {es : MEs} {is : List Int} {c : ME} {ci ki m : Int} (hes : Evs (callW theP (n + 1)) hd es ρ H (is.map .int)) (hc : ∀ H', Ev (callW theP (n + 1)) hd c ρ H' (.int ci)) (h0 : 0 ≤ ki) (hm : (is.length : Int) = m) (hm0 : 0 < m) (h : ∀ j H', Ext H H' → Q (.int j) H') : wE (callW theP (n + 1)) hd (.sub (.list es) (.call "_law_mixed" (.cons c (.cons (.int ki) (.cons (.int m) .nil))))) ρ H Q Y := by
  refine w_sub (w_list hes fun a ha => w_call (Evs.cons (hc _) (Evs.cons Ev.int (Evs.cons Ev.int Evs.nil))) (s_mixed h0 hm0 fun v H1 v0 v1 E1 => ?_))
  obtain ⟨x, hx, ex⟩ := at_pick (ls := is.map MV.int) v0 (by rw [List.length_map, hm]; exact v1)
  obtain ⟨j, rfl⟩ := isI_all x hx
  exact ⟨_, .lst (.inl (E1 _ _ (MH.set_selfE _ _ _))) ex, h j H1 ((Ext.new _ ha).trans E1)⟩
end
abbrev Vn (script t wd cc : Addr) (seats stops : Int) : List (String × MV) := [("_law_script", .ref script), ("_law_train", .ref t), ("_law_world_here", .ref wd), ("_law_seats_here", .int seats), ("_law_stops_here", .int stops), ("_law_cells_here", .ref cc)]
theorem law03' {n : Nat} {script : Addr} {is : List Int} (hlen : is.length ≤ 63) (H : MH) (hH : H script = some (.ro (is.map .int))) :
    wSs (callW theP (n + 6)) false f_law.body (Sto.ofArgs ["_law_script"] [.ref script]) H (fun _ _ => MV.none = .bool true) (fun v _ => v = .bool true) (fun _ _ _ => False) := by
  refine s_let (w_call (by array_get_dec) (s_built hH fun bl t rd hl wd ro so rw ra rb seats stops H1 hbl hH1 S => ?_))
  have p1 := S.tn.hseats
  have p2 := S.tn.hstops
  refine s_assign (Ev.item (by array_get_dec) Ev.int hbl rfl) (s_assign (Ev.item (by array_get_dec) Ev.int hbl rfl) (s_assign (S.wo.gd.lenR (S.wo.ev0 (by array_get_dec))) (s_assign (v := .int stops) (Ev.asI (Int.sub_add_cancel stops 1) (Ev.add (S.wo.gd.len0 (S.wo.ev0 (by array_get_dec))) Ev.int)) ?_)))
  refine s_let (w_call (by array_get_dec) (s_cells hH1 hlen fun cc H4 ls hcc E4 h4 hn4 hcells => ?_))
  have ncc := S.fresh hcc
  have nsc : ¬ Ow t rd hl wd ro so rw ra rb seats script := fun z => z.elim (S.tn.not_ro hH1) (S.wo.not_ro hH1)
  have hH4 := E4 _ _ hH1
  refine s_range (fun i ρ H' => Nms ρ (Vn script t wd cc seats stops) ∧ Frm (Ow t rd hl wd ro so rw ra rb seats) H4 H' ∧ ∃ coming R g, (R.length : Int) ≤ i ∧ Bo H' t rd hl wd ro so rw ra rb seats stops coming R g)
    (Ev.range1 (Ev.lenL (by array_get_dec) h4) (smallOf (by omega) (by omega))) ⟨⟨rfl, rfl, rfl, rfl, rfl, rfl, trivial⟩, fun _ _ _ q => q, 0, [], _, Int.le_refl _, S.ext E4⟩ ?_ ?_
  · rintro i ρ H5 k i0 i1 ⟨V, f, coming, R, g, hR, S⟩ hk
    have Vs := V
    obtain ⟨m1, m2, m3, m4, m5, m6, _⟩ := V
    obtain ⟨v, hv, ev⟩ := at_pick i0 i1
    refine s_let (w_call (Evs.cons (Ev.item (by array_get_dec) (by array_get_dec) (f _ _ ncc h4) ev) (Evs.cons (S.wo.ev1 (by array_get_dec)) (by array_get_dec))) (s_deed (hcells v hv) p2 S.wo.so_ (by rw [List.length_map]; omega) fun kd a b H6 kk E6 => ?_))
    have S := S.ext E6
    have f := f.trans E6.frm
    refine s_itew (w_cmpw (w_sub (w_call (by array_get_dec) (word_done S (by omega) kk fun w v H7 D => w_ev Ev.int ⟨_, .tup rfl, w_sub (w_call (by array_get_dec) (D _ _ fun v' H8 coming' R' g' f8 S8 hr => w_ev Ev.int ⟨_, .tup rfl, ⟨false, str_ne, it_f rfl (s_done ?_)⟩⟩))⟩))))
    have f8 := f.trans f8
    refine s_let (w_bin (w_call (by array_get_dec) (s_cell_at (f8 _ _ nsc hH4) (by decide) fun c0 => w_ev (Ev.fdiv (by array_get_dec) Ev.int (by decide) (by decide)) (.add ?_))))
    refine s_itew (w_not (w_callw (w_cons (w_ev (v := .ref t) (by array_get_dec) (w_cons (w_ev (v := .ref wd) (by array_get_dec) (w_cons (w_call (by array_get_dec) (s_mixed (by decide) (by omega) fun v1 H9 v10 v11 E9 => w_cons (w_call (by array_get_dec) (s_mixed (by decide) (by omega) fun v2 H10 v20 v21 E10 => w_evs Evs.nil (s_lleads ((S8.ext E9).ext E10) v10 v11 v20 v21 fun H11 E11 => it_n (s_done (s_done (hk _ _ ⟨((Vs.set rfl).set rfl).set rfl, f8.trans ((E9.trans E10).trans E11).frm, _, _, _, by omega, ((S8.ext E9).ext E10).ext E11⟩)))))))))))))))
  · rintro i ρ H5 hi ⟨V, f, coming, R, g, hR, S⟩
    have Vs := V
    obtain ⟨m1, m2, m3, m4, m5, m6, _⟩ := V
    refine s_let (w_call (by array_get_dec) (s_cell_at (f _ _ nsc hH4) (by decide) fun c1 => ?_))
    refine s_let (w_call (by array_get_dec) (s_mixed (by decide) (by omega) fun at_ H6 a0 a1 E6 => ?_))
    have S := S.ext E6
    refine s_range (fun i ρ H' => Nms ρ (("_law_at", .int at_) :: ("_law_cell", .int c1) :: Vn script t wd cc seats stops) ∧ H' = H6) (Ev.range1 (by array_get_dec) (smallOf (by omega) (by omega))) ⟨⟨by sizeOf_list_dec, by sizeOf_list_dec, (Vs.set rfl).set rfl⟩, rfl⟩ ?_ ?_
    · rintro i ρ H7 k i0 i1 ⟨V, rfl⟩ hk
      have Vs := V
      obtain ⟨k1, k2, m1, m2, m3, m4, m5, m6, _⟩ := V
      refine w_far (fn := "") S i0 i1 a0 a1 (by sizeOf_list_dec) (by sizeOf_list_dec) (fun ρ' z => by rcases z with rfl | rfl <;> exact ⟨by array_get_dec, by array_get_dec⟩) ?_
      refine s_itew (w_and2 (w_ev (Ev.cmp (by array_get_dec) (by array_get_dec) .lt) ?_))
      by_cases q : at_ < stops - 1
      · exact it_t (decide_eq_true q) (w_cmpw (w_meth (by array_get_dec) S.tn.at_ rfl (by array_get_dec) (s_holder S.tn (fun _ _ _ _ => w_ev (S.wo.gd.cell i0 i1 a0 q (S.wo.ev0 (by array_get_dec)) (by array_get_dec) (by array_get_dec)) ⟨false, mvo_ne _, it_f rfl (s_done (s_done (hk _ _ ⟨(Vs.set rfl).set rfl, rfl⟩)))⟩) (fun z => absurd ⟨i0, i1⟩ z) fun _ _ z => absurd ⟨a0, q⟩ z)))
      · exact it_f (decide_eq_false q) (it_f rfl (s_done (s_done (hk _ _ ⟨(Vs.set rfl).set rfl, rfl⟩))))
    rintro i ρ H7 _ ⟨V, rfl⟩
    have Vs := V
    obtain ⟨k1, k2, m1, m2, m3, m4, m5, m6, _⟩ := V
    refine s_join (fun ρ' H' => Nms ρ' (("_law_cell", .int c1) :: Vn script t wd cc seats stops) ∧ Ext H7 H') (fun k hk => s_ite (Ev.cmp (by array_get_dec) (by array_get_dec) .lt) (fun q => ?_) fun _ => s_done (s_done (hk _ _ ⟨Vs.2, .refl _⟩))) ?_
    · have q := of_decide_eq_true q
      refine s_let (w_cnt S.wo.gd a0 q (S.wo.ev0 (by array_get_dec)) (fun v => by array_get_dec) fun H8 E8 => ?_)
      have S8 := S.ext E8
      refine s_let (w_meth (by array_get_dec) S8.tn.at_ rfl (by array_get_dec) (s_load S8.tn (fun _ _ H9 E9 => ?_) fun z => absurd ⟨a0, q⟩ z))
      exact s_skip (Ev.or (EvO.f (Ev.not (b := true) (Ev.call (Evs.cons (by array_get_dec) Evs.nil) fun Q X q => s_whole q)) (EvO.one (Ev.cmp (by array_get_dec) (by array_get_dec) nz)))) (s_done (s_done (hk _ _ ⟨(Vs.2.set rfl).set rfl, E8.trans E9⟩)))
    rintro ρ H8 ⟨V, E8⟩
    have Vs := V
    obtain ⟨k2, m1, m2, m3, m4, m5, m6, _⟩ := V
    refine s_let (w_draw (is := [-1, seats, seats + c1.fmod (10 ^ 20), 0]) (ci := c1) (Evs.cons (Ev.neg Ev.int) (Evs.cons (by array_get_dec) (Evs.cons (Ev.add (by array_get_dec) (Ev.mod (by array_get_dec) Ev.ten (by decide))) (Evs.cons Ev.int Evs.nil)))) (fun H' => by array_get_dec) (by decide) rfl (by decide) fun s H9 E9 => ?_)
    refine s_assign (Ev.mod (by array_get_dec) Ev.ten (by decide)) ?_
    refine s_let (w_draw (is := [-1, stops - 1, stops, stops + c1.fmod (10 ^ 20), 0, -1 - c1.fmod (10 ^ 20)]) (ci := c1) (Evs.cons (Ev.neg Ev.int) (Evs.cons (by array_get_dec) (Evs.cons (by array_get_dec) (Evs.cons (by array_get_dec) (Evs.cons Ev.int (Evs.cons (Ev.sub (Ev.neg Ev.int) (by array_get_dec)) Evs.nil)))))) (fun H' => by array_get_dec) (by decide) rfl (by decide) fun l H10 E10 => ?_)
    have S10 := S.ext ((E8.trans E9).trans E10)
    refine s_range (fun i ρ H' => ρ "_law_train" = some (.ref t) ∧ ρ "_law_world_here" = some (.ref wd) ∧ ρ "_law_seat" = some (.int s) ∧ ρ "_law_at" = some (.int l) ∧ Ext H10 H') (Ev.range1 Ev.int (smallOf (by decide) (by decide))) ⟨by sizeOf_list_dec, by sizeOf_list_dec, by sizeOf_list_dec, by sizeOf_list_dec, .refl _⟩ ?_ fun _ _ _ _ _ => s_ret Ev.bool rfl
    rintro i ρ H11 k i0 i1 ⟨g1, g2, g3, g4, E11⟩ hk
    exact s_itew (w_cmpw (w_call (by array_get_dec) (s_asked (S10.ext E11).tn (by omega) fun H12 E12 => w_call (by array_get_dec) (s_due (S10.ext (E11.trans E12)).wo ⟨false, str_ne, it_f rfl (s_done (s_done (hk _ _ ⟨by sizeOf_list_dec, by sizeOf_list_dec, by sizeOf_list_dec, by sizeOf_list_dec, E11.trans E12⟩)))⟩))))
theorem law03 {script : Addr} {is : List Int} (hl : is.length ≤ 63) (H : MH) (hH : H script = some (.ro (is.map .int))) :
    wSs (callW theP 50) false f_law.body (Sto.ofArgs ["_law_script"] [.ref script]) H (fun _ _ => MV.none = .bool true) (fun v _ => v = .bool true) (fun _ _ _ => False) := law03' (n := 44) hl H hH
end Mine
end
open PySem PySem.W PyProof.Rows
set_option maxRecDepth 100000 in
set_option maxHeartbeats 8000000 in
theorem PySem.Challenge.cw_uf040032_03_holds : PySem.Challenge.rw_uf040032_03.Holds := by
  w_on
  refine holds_law Mine.law_said fun said => ?_
  refine holds_open (q := Mine.theQ) (loose := []) (Xt := fun s => xlAt Mine.theQ [] s && recOk (RowW.records (OpenRow.toRowW (OpenLaw.row PySem.Challenge.rw_uf040032_03))) s) (XP := XL Mine.theQ []) (Yf := Hook.obs Mine.theH) (Ya := Hook.val Mine.theH) (YP := Hook.says Mine.theH) (N := 7842) Mine.top_left (Hook.of Mine.theH) (Hook.keeps Mine.theH) (fun s e => xl_of s (Bool.and_eq_true_iff.mp e).1) XL.keeps (by rfl) (by rfl) (by rfl) (fun s e => recFacts_of (Bool.and_eq_true_iff.mp e).2) (by rfl) (by first | assumption | decide +kernel) (by decide +kernel) ⟨rfl, rfl, rfl, rfl, rfl, by decide +kernel⟩ ?hw ?hc
  case hw => w_witness2
  case hc =>
    intro w s₀ s₁ mg mb G Y fa o pm cd doc dV kV ho hd hcd hD hmg hg args vals as hpre hlay hrd hwl hlo
    obtain ⟨K, KX, kT, kP⟩ := Y
    refine Ground.open G ?_
    intro T B D TE TW
    wrow_args hpre hlay hrd hwl hlo
    refine enter_call ?_
    refine codeAny_mono ?_ (fun _ _ g => GoodW.toG g)
    refine Mine.claim_of (T := Mine.theT) (P := Mine.theP) (ca := Mine.theC) (d := Mine.f_law) (x := "_law_script") KX T hg kT kP ho hd hcd (hD.pos.elim (fun h => h.2) fun h => absurd rfl h.1) (by kernel_rfl) rfl ‹_› ‹_› ‹_› 50 (by decide) (fun hl H hH => Mine.law03 hl H hH) (raisesW_false (by wrow_none_raised)) (by wrow_post)
