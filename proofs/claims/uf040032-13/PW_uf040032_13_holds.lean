import PyProof.Rows.All
import Wide.All
import OpenK.AllK
import Wide.FinOn
import PySem.Value
import PyProof.P3Statements
import PyProof.SliceMore
import PyProof.StrCalls2
import KE.KIntText
import PyProof.StationsW
import PyProof.DictKinds
import PyProof.DictList
import PyProof.DictStraight
import PyProof.Cells
import PyProof.PureInt
import PyProof.ListOps
import PyProof.Rows.IntRules
import PyProof.Rows.RuleB_floordiv
import PyProof.Rows.RuleB_pow
import PyProof.Rows.StrRules
import PyProof.Rows.ListMul
import PyProof.NoPylong
import PyProof.IsRules
import PyProof.P3In
import PyProof.EqLayable
import PyProof.Rows.EqDataRows
import PyProof.DictRoads
import PyProof.ListIndexNeg
import PyProof.Rows.Tup
import PyProof.Rows.StrTemp
import PyProof.SliceList
import PyProof.Rows.SeqSlice
import PyProof.Rows.SeqIn
import PyProof.StrOps
import PyProof.TupleIter
import PyProof.RangeFor
import PyProof.Rows.Range3
import PyProof.ListCopy
import PyProof.ListRange
import PyProof.WalkInts
import PyProof.ConsumeWalk
import PyProof.EnumMake
import PyProof.StrWalks
import PyProof.Rows.SortShell
import PyProof.Rows.SortWalk
import PyProof.CallStr
import PyProof.Rows.MinMaxN
import PyProof.Walks
import KE.KDictList
import KE.KIsNot
import PyProof.Rows.SeqMore2
import PyProof.MeetsSeq
import PyProof.MeetsDictList
import PyProof.Rows.TupIter
import PyProof.WalksPairs
import PyProof.StrCalls3
import PyProof.Rows.StrSplitJoin
import PyProof.CompFree
import PyProof.Rows.TopTwo
import PyProof.RulesAs
import PyProof.RulesDel
import PyProof.P3Eq
import KE.IntTextText
import PyProof.StrLawsChain
import PyProof.StrLawsIn
import PyProof.Rows.StrSplitAre
import PyProof.Rows.StrIntSpec
import PyProof.Rows.StrWeight2
import PyProof.Rows.StrFacts2
import PySem.Challenge.RW_uf040032_13
set_option Elab.async false
set_option genInjectivity false
set_option genSizeOf false
section
open PySem PySem.W PyProof.Rows
namespace Mine
noncomputable def goT (ok : Thread → Bool) (stp : SharedT → Thread → Option (SharedT × Thread)) : Nat → SharedT → Thread → Option SharedT
  | 0, _, _ => none
  | n + 1, s, t => match through t with
    | true => some s
    | false => match ok t with
      | false => none
      | true => match stp s t with
        | some r => goT ok stp n r.1 r.2
        | none => none
noncomputable def treeOfL : List Obj → Nat → BT → BT
  | [], _, t => t
  | o :: l, i, t => treeOfL l (i + 1) (t.ins i o)
noncomputable def bootTree (P : Params) : BT := treeOfL (boot_heap P).objs.toList 0 .nil
noncomputable def theQ : Program := view PySem.Challenge.pw_uf040032_13 [0, 2, 3, 4, 5, 6, 7, 8, 9, 10, 11, 13, 14, 16, 17, 18, 19, 20, 21, 22, 23, 24, 26, 27, 28, 29, 30, 31, 32, 33, 34, 35, 36, 37, 38, 39, 40, 41, 42, 43, 44, 45, 46, 47, 48, 49, 50, 51, 52]
set_option maxRecDepth 1000000 in
theorem top_run : ∀ w : World, (fun os => (goT (stepOk 11 (some (.ref 6))) (stepT (denote treeTable) PySem.Challenge.pw_uf040032_13 w) 8492 ⟨bootTree w.params, 11, (boot_heap w.params).life, Array.mk [], boot_drawn, boot_toks, os⟩ (topStub PySem.Challenge.pw_uf040032_13)).map fun s₁ => ((staticsOk (importedModules PySem.Challenge.pw_uf040032_13.main.body) (boot_heap w.params) s₁.abs.heap && namesBound PySem.Challenge.pw_uf040032_13 s₁.abs.heap && gensDone s₁.abs && laidKept (boot_heap w.params) s₁.abs.heap),
    openSeen theQ [] (importedModules PySem.Challenge.pw_uf040032_13.main.body) (fun s => xlAt theQ [] s && recOk [] s) true s₁.abs)) = fun _ => some (true, openGood theQ []) := by
  intro w
  rw [PySem.W.Fast.te5923862056798008813, PySem.W.Fast.te4187177175401517315, PySem.W.Fast.te6613529449190102663, PySem.W.Fast.te10156331382660048174, PySem.W.Fast.te11892475500146522536, PySem.W.Fast.te14364793385576792824]
  kernel_rfl
end Mine
end
section
set_option autoImplicit false
set_option linter.unusedVariables false
set_option genSizeOf false
set_option genSizeOfSpec false
set_option genInjectivity false
namespace Mine
open PySem

inductive MV where
  | none
  | bool (b : Bool)
  | int (i : Int)
  | str (s : Str)
  | ref (a : Addr)
  | tup (vs : List MV)
  | rng (a b c : Int)
  | exc (c : String)

inductive MObj where
  | lst (vs : List MV)
  | ro (vs : List MV)
  | dct (es : List (Int × MV))
  | inst (fs : List (String × MV))

abbrev MH := Addr → Option MObj
abbrev Sto := String → Option MV

noncomputable def MH.set (H : MH) (a : Addr) (o : MObj) : MH := fun b => if b = a then some o else H b
noncomputable def Sto.set (ρ : Sto) (x : String) (v : MV) : Sto := fun y => if y = x then some v else ρ y
noncomputable def Sto.del (ρ : Sto) (x : String) : Sto := fun y => if y = x then none else ρ y
noncomputable def Sto.ofArgs : List String → List MV → Sto
  | x :: xs, v :: vs => (Sto.ofArgs xs vs).set x v
  | _, _ => fun _ => none

inductive All2 {α β : Type} (R : α → β → Prop) : List α → List β → Prop where
  | nil : All2 R [] []
  | cons {a b l r} : R a b → All2 R l r → All2 R (a :: l) (b :: r)

/-- a list, the law's script or another -/
noncomputable def LstAt (H : MH) (a : Addr) (vs : List MV) : Prop := H a = some (.lst vs) ∨ H a = some (.ro vs)

/-- the sizes that the model bears -/
noncomputable def bigList : Nat := 2 ^ 20

noncomputable def fsGet (fs : List (String × MV)) (x : String) : Option MV := match fs with
  | [] => none
  | (y, v) :: r => if x = y then some v else fsGet r x
noncomputable def fsSet (fs : List (String × MV)) (x : String) (v : MV) : List (String × MV) := match fs with
  | [] => [(x, v)]
  | (y, u) :: r => if x = y then (y, v) :: r else (y, u) :: fsSet r x v

noncomputable def dGet (es : List (Int × MV)) (k : Int) : Option MV := match es with
  | [] => none
  | (y, v) :: r => if k = y then some v else dGet r k
noncomputable def dSet (es : List (Int × MV)) (k : Int) (v : MV) : List (Int × MV) := if es.any (fun e => decide (e.1 = k)) then es.map (fun e => if e.1 = k then (e.1, v) else e) else es ++ [(k, v)]
noncomputable def dDel (es : List (Int × MV)) (k : Int) : List (Int × MV) := es.filter fun e => decide (e.1 ≠ k)

inductive BOp where | add | sub | mul | fdiv | mod | pow
inductive COp where | eq | ne | lt | le | gt | ge | isin | notin | is_ | isnot

mutual
inductive ME where
  | none
  | bool (b : Bool)
  | int (i : Int)
  | str (s : String)
  | var (x : String)
  | gconst (x : String) (v : MV)
  | bin (op : BOp) (l r : ME)
  | neg (e : ME)
  | not (e : ME)
  | and (es : MEs)
  | or (es : MEs)
  | cmp (l : ME) (c : MCs)
  | attr (e : ME) (f : String)
  | sub (e i : ME)
  | slice (e lo hi : ME)
  | list (es : MEs)
  | tup (es : MEs)
  | dict
  | comp (elt : ME) (x : String) (it : ME) (cond : ME)
  | call (f : String) (es : MEs)
  | meth (e : ME) (m : String) (es : MEs)
  | mk (es : MEs)
  | bi (b : String) (es : MEs)
  | bm (e : ME) (m : String) (es : MEs)
  | isinst (e : ME) (t : String)
inductive MEs where
  | nil
  | cons (e : ME) (es : MEs)
inductive MCs where
  | nil
  | cons (op : COp) (e : ME) (c : MCs)
end

mutual
inductive MS where
  | expr (e : ME)
  | assign (x : String) (e : ME)
  | setAttr (e : ME) (f : String) (v : ME)
  | setIdx (e i v : ME)
  | ret (e : ME)
  | ite (t : ME) (a b : MSs)
  | whil (t : ME) (b : MSs)
  | for_ (x : String) (it : ME) (b : MSs)
  | forT (xs : List String) (it : ME) (b : MSs)
  | unpack (xs : List String) (e : ME)
  | raise (c : String) (msg : String)
  | try_ (b : MSs) (x : String) (h : MSs)
inductive MSs where
  | nil
  | cons (s : MS) (ss : MSs)
end

/-! ## values -/
/-- plain data, to a depth -/
noncomputable def DR (H : MH) : Nat → MV → PyData → Prop
  | 0, _, _ => False
  | n + 1, v, d => match d with
    | .none => v = .none
    | .bool b => v = .bool b
    | .int i => v = .int i
    | .str s => v = .str s ∧ PyData.strOk s = true
    | .list ds => ∃ a vs, v = .ref a ∧ LstAt H a vs ∧ All2 (DR H n) vs ds
    | .tuple ds => ∃ vs, v = .tup vs ∧ All2 (DR H n) vs ds
    | _ => False

noncomputable def isNil : MV → Bool
  | .none => true
  | _ => false
noncomputable def isTru : MV → Bool
  | .bool b => b
  | _ => false

inductive CmpR (H : MH) : COp → MV → MV → Bool → Prop
  | eqi {x y : Int} : CmpR H .eq (.int x) (.int y) (decide (x = y))
  | nei {x y : Int} : CmpR H .ne (.int x) (.int y) (!decide (x = y))
  | eqs {x y : Str} : CmpR H .eq (.str x) (.str y) (decide (x = y))
  | nes {x y : Str} : CmpR H .ne (.str x) (.str y) (!decide (x = y))
  | eqd {a b : MV} {x y : PyData} (hx : DR H 8 a x) (hy : DR H 8 b y) : CmpR H .eq a b (PyData.eqv x y)
  | ned {a b : MV} {x y : PyData} (hx : DR H 8 a x) (hy : DR H 8 b y) : CmpR H .ne a b (!PyData.eqv x y)
  | lt {x y : Int} : CmpR H .lt (.int x) (.int y) (decide (x < y))
  | le {x y : Int} : CmpR H .le (.int x) (.int y) (decide (x ≤ y))
  | gt {x y : Int} : CmpR H .gt (.int x) (.int y) (decide (y < x))
  | ge {x y : Int} : CmpR H .ge (.int x) (.int y) (decide (y ≤ x))
  | ind {x : Int} {r : Addr} {es : List (Int × MV)} (h : H r = some (.dct es)) : CmpR H .isin (.int x) (.ref r) (dGet es x).isSome
  | notind {x : Int} {r : Addr} {es : List (Int × MV)} (h : H r = some (.dct es)) : CmpR H .notin (.int x) (.ref r) (!(dGet es x).isSome)
  | inl {x : Int} {r : Addr} {is : List Int} (h : LstAt H r (is.map .int)) : CmpR H .isin (.int x) (.ref r) (decide (x ∈ is))
  | notinl {x : Int} {r : Addr} {is : List Int} (h : LstAt H r (is.map .int)) : CmpR H .notin (.int x) (.ref r) (!decide (x ∈ is))
  | ins {x y : Str} : CmpR H .isin (.str x) (.str y) (Txt.contains y x)
  | notins {x y : Str} : CmpR H .notin (.str x) (.str y) (!Txt.contains y x)
  | isN {a : MV} : CmpR H .is_ a .none (isNil a)
  | isnotN {a : MV} : CmpR H .isnot a .none (!isNil a)
  | isT {a : MV} : CmpR H .is_ a (.bool true) (isTru a)

noncomputable def mulOk (a b : Int) : Prop := a.natAbs ≤ 2 ^ 63 ∨ b.natAbs ≤ 2 ^ 63

/-- a new list is made of these -/
noncomputable def New (H : MH) (Q : MV → MH → Prop) (vs : List MV) : Prop := ∀ c, H c = none → Q (.ref c) (H.set c (.lst vs))

inductive BinR (H : MH) (Q : MV → MH → Prop) : BOp → MV → MV → Prop
  | add {x y : Int} (q : Q (.int (x + y)) H) : BinR H Q .add (.int x) (.int y)
  | sub {x y : Int} (q : Q (.int (x - y)) H) : BinR H Q .sub (.int x) (.int y)
  | mul {x y : Int} (h : mulOk x y) (q : Q (.int (x * y)) H) : BinR H Q .mul (.int x) (.int y)
  | fdiv {x y : Int} (h : y ≠ 0) (h2 : y.natAbs < 1073741824) (q : Q (.int (x.fdiv y)) H) : BinR H Q .fdiv (.int x) (.int y)
  | mod {x y : Int} (h : y ≠ 0) (q : Q (.int (x.fmod y)) H) : BinR H Q .mod (.int x) (.int y)
  | pow {x y : Int} (h0 : 0 ≤ y) (h1 : y ≤ 1000) (h2 : x.natAbs ≤ 10) (q : Q (.int (x ^ y.toNat)) H) : BinR H Q .pow (.int x) (.int y)
  | app {x y : Addr} {xs ys : List MV} (hx : H x = some (.lst xs)) (hy : H y = some (.lst ys)) (hl : xs.length + ys.length ≤ bigList) (q : New H Q (xs ++ ys)) : BinR H Q .add (.ref x) (.ref y)
  | cat {x y : Str} (hl : x.length + y.length ≤ bigList) (q : Q (.str (x ++ y)) H) : BinR H Q .add (.str x) (.str y)
  | rep {x : Addr} {k : Int} {v : MV} (hx : H x = some (.lst [v])) (h0 : 0 ≤ k) (h1 : k ≤ bigList) (q : New H Q (List.replicate k.toNat v)) : BinR H Q .mul (.ref x) (.int k)

noncomputable def atIdx (vs : List MV) (i : Int) : Option MV :=
  if 0 ≤ i then vs[i.toNat]? else if 0 ≤ i + vs.length then vs[(i + vs.length).toNat]? else none

noncomputable def smallI (i : Int) : Prop := -(2 ^ 40) ≤ i ∧ i ≤ 2 ^ 40

inductive SubR (H : MH) : MV → MV → MV → Prop
  | lst {a : Addr} {vs : List MV} {i : Int} {x : MV} (h : LstAt H a vs) (hx : atIdx vs i = some x) : SubR H (.ref a) (.int i) x
  | tup {vs : List MV} {i : Int} {x : MV} (hx : atIdx vs i = some x) : SubR H (.tup vs) (.int i) x
  | dct {a : Addr} {es : List (Int × MV)} {i : Int} {x : MV} (h : H a = some (.dct es)) (hx : dGet es i = some x) : SubR H (.ref a) (.int i) x
  | str {x : Str} {i : Int} (hs : smallI i) (hx : (Txt.charAt x i).isSome = true) : SubR H (.str x) (.int i) (.str (Txt.item x i))

/-- a slice by ones -/
noncomputable def cut {α : Type} (vs : List α) (lo hi : Option Int) : List α :=
  (vs.drop (lo.elim 0 (clipAt vs.length))).take (hi.elim vs.length (clipAt vs.length) - lo.elim 0 (clipAt vs.length))
inductive OptI : MV → Option Int → Prop
  | none : OptI .none none
  | int {i : Int} : OptI (.int i) (some i)
inductive SliceR (H : MH) (Q : MV → MH → Prop) : MV → MV → MV → Prop
  | lst {a : Addr} {l h : MV} {lo hi : Option Int} {vs : List MV} (hv : LstAt H a vs) (hl : OptI l lo) (hh : OptI h hi) (q : New H Q (cut vs lo hi)) : SliceR H Q (.ref a) l h
  | str {x : Str} {l h : MV} {lo hi : Option Int} (hx : x.length ≤ bigList) (hl : OptI l lo) (hh : OptI h hi) (q : Q (.str (Txt.slice x lo hi)) H) : SliceR H Q (.str x) l h

/-- the items that a loop takes -/
noncomputable def rangeL (a b c : Int) : List Int :=
  (List.range (Builtin.Range.rangeSize a b c).toNat).map fun (k : Nat) => a + c * (k : Int)
inductive Elems (H : MH) : MV → List MV → Prop
  | lst {a : Addr} {vs : List MV} (h : LstAt H a vs) : Elems H (.ref a) vs
  | tup {vs : List MV} : Elems H (.tup vs) vs
  | rng {a b c : Int} : Elems H (.rng a b c) ((rangeL a b c).map .int)
  | str {x : Str} : Elems H (.str x) (x.cps.toList.map fun c => .str ⟨#[c]⟩)

noncomputable def excNames : List String := ["NoTrain", "NoStretch", "NoSeat", "NoStop", "NoLeg", "NoTicket", "Full", "Shared", "NoText"]
inductive IsiR (H : MH) : MV → String → Bool → Prop
  | ii {i : Int} : IsiR H (.int i) "int" true
  | ib {i : Bool} : IsiR H (.bool i) "int" true
  | in_ : IsiR H .none "int" false
  | is_ {s : Str} : IsiR H (.str s) "int" false
  | it {vs : List MV} : IsiR H (.tup vs) "int" false
  | bb {i : Bool} : IsiR H (.bool i) "bool" true
  | bi {i : Int} : IsiR H (.int i) "bool" false
  | ll {a : Addr} {vs : List MV} (h : LstAt H a vs) : IsiR H (.ref a) "list" true
  | li {i : Int} : IsiR H (.int i) "list" false
  | ln : IsiR H .none "list" false
  | tt {vs : List MV} : IsiR H (.tup vs) "tuple" true
  | ti {i : Int} : IsiR H (.int i) "tuple" false
  | ss {s : Str} : IsiR H (.str s) "str" true
  | exc {c t : String} (h : excNames.contains t = true) : IsiR H (.exc c) t (t == c)
  | val {c : String} : IsiR H (.exc c) "ValueError" true

noncomputable def minI (a b : Int) : Int := if b < a then b else a
noncomputable def maxI (a b : Int) : Int := if a < b then b else a

inductive BiR (hd : Bool) (H : MH) (Q : MV → MH → Prop) : String → List MV → Prop
  | lenL {a : Addr} {vs : List MV} (h : LstAt H a vs) (q : Q (.int vs.length) H) : BiR hd H Q "len" [.ref a]
  | lenT {vs : List MV} (q : Q (.int vs.length) H) : BiR hd H Q "len" [.tup vs]
  | range1 {b : Int} (h : smallI b) (q : Q (.rng 0 b 1) H) : BiR hd H Q "range" [.int b]
  | range2 {a b : Int} (h0 : smallI a) (h : smallI b) (q : Q (.rng a b 1) H) : BiR hd H Q "range" [.int a, .int b]
  | min2 {a b : Int} (h : hd = false) (q : Q (.int (minI a b)) H) : BiR hd H Q "min" [.int a, .int b]
  | max2 {a b : Int} (h : hd = false) (q : Q (.int (maxI a b)) H) : BiR hd H Q "max" [.int a, .int b]
  | maxL {a : Addr} {is : List Int} {m : Int} (h : hd = false) (hl : LstAt H a (is.map .int)) (hm : m ∈ is) (hx : ∀ i ∈ is, i ≤ m) (q : Q (.int m) H) : BiR hd H Q "max" [.ref a]
  | allL {a : Addr} {bs : List Bool} (h : hd = false) (hl : LstAt H a (bs.map .bool)) (q : Q (.bool (bs.all id)) H) : BiR hd H Q "all" [.ref a]
  | listL {a : Addr} {l : List MV} (h : hd = false) (hl : LstAt H a l) (q : New H Q l) : BiR hd H Q "list" [.ref a]
  | listD {a : Addr} {es : List (Int × MV)} (h : hd = false) (hl : H a = some (.dct es)) (hb : es.length ≤ bigList) (q : New H Q (es.map fun e => .int e.1)) : BiR hd H Q "list" [.ref a]

  | listR {a b : Int} (h : hd = false) (hb : (rangeL a b 1).length ≤ bigList) (q : New H Q ((rangeL a b 1).map .int)) : BiR hd H Q "list" [.rng a b 1]
  | lenS {x : Str} (hl : x.length ≤ bigList) (q : Q (.int x.length) H) : BiR hd H Q "len" [.str x]
  | strI {i : Int} (h : i.natAbs < 2 ^ 64) (q : Q (.str (Str.ofString (toString i))) H) : BiR hd H Q "str" [.int i]
  | intS {x : Str} {n : Int} (hl : x.length ≤ 640) (hn : intText? x = some n) (q : Q (.int n) H) : BiR hd H Q "int" [.str x]
  | range3 {a b c : Int} (h0 : smallI a) (h1 : smallI b) (h2 : smallI c) (hc : 0 < c) (q : Q (.rng a b c) H) : BiR hd H Q "range" [.int a, .int b, .int c]
  | listT {l : List MV} (h : hd = false) (q : New H Q l) : BiR hd H Q "list" [.tup l]
  | sortedL {a : Addr} {is : List Int} (hl : LstAt H a (is.map .int)) (ha : is.Pairwise (· ≤ ·)) (q : New H Q (is.map .int)) : BiR hd H Q "sorted" [.ref a]

inductive BmR (H : MH) (Q : MV → MH → Prop) : String → MV → List MV → Prop
  | append {a : Addr} {l : List MV} {x : MV} (h : H a = some (.lst l)) (hl : l.length < bigList) (q : Q .none (H.set a (.lst (l ++ [x])))) : BmR H Q "append" (.ref a) [x]
  | remove {a : Addr} {is : List Int} {i : Int} (h : H a = some (.lst (is.map .int))) (hi : i ∈ is) (q : Q .none (H.set a (.lst ((is.erase i).map .int)))) : BmR H Q "remove" (.ref a) [.int i]
  | dpop {a : Addr} {es : List (Int × MV)} {k : Int} {x : MV} (h : H a = some (.dct es)) (hl : es.length ≤ bigList) (hx : dGet es k = some x) (q : Q x (H.set a (.dct (dDel es k)))) : BmR H Q "pop" (.ref a) [.int k]
  | index {a : Addr} {is : List Int} {i : Int} (h : H a = some (.lst (is.map .int))) (hi : i ∈ is) (q : Q (.int (is.idxOf i)) H) : BmR H Q "index" (.ref a) [.int i]
  | lpop {a : Addr} {l : List MV} {i : Int} {x : MV} (h : H a = some (.lst l)) (h0 : 0 ≤ i) (hx : l[i.toNat]? = some x) (q : Q x (H.set a (.lst (l.eraseIdx i.toNat)))) : BmR H Q "pop" (.ref a) [.int i]
  | insert {a : Addr} {l : List MV} {i : Int} {x : MV} (h : H a = some (.lst l)) (h0 : 0 ≤ i) (h1 : i ≤ bigList) (hl : l.length < bigList) (q : Q .none (H.set a (.lst (l.take i.toNat ++ x :: l.drop i.toNat)))) : BmR H Q "insert" (.ref a) [.int i, x]
  | get {a : Addr} {es : List (Int × MV)} {k : Int} {d : MV} (h : H a = some (.dct es)) (q : Q ((dGet es k).getD d) H) : BmR H Q "get" (.ref a) [.int k, d]
  | split {x y : Str} (hy : (y.length == 0) = false) (hx : x.length < bigList) (q : New H Q ((Txt.split x y).map .str)) : BmR H Q "split" (.str x) [.str y]
  | join {x : Str} {a : Addr} {ts : List Str} (h : LstAt H a (ts.map .str)) (hok : JoinOk x ts = true) (q : Q (.str (Txt.join x ts)) H) : BmR H Q "join" (.str x) [.ref a]
/-- whose method it is -/
inductive KindR (H : MH) : MV → String → Nat → Prop
  | lst {a : Addr} {l : List MV} {m : String} (h : H a = some (.lst l)) (hm : ["append", "remove", "index", "pop", "insert"].contains m = true) : KindR H (.ref a) m 1
  | dct {a : Addr} {es : List (Int × MV)} {m : String} (h : H a = some (.dct es)) (hm : ["pop", "get"].contains m = true) : KindR H (.ref a) m 0
  | str {x : Str} {m : String} (hm : ["split", "join"].contains m = true) : KindR H (.str x) m 2

inductive AttrR (H : MH) : MV → String → MV → Prop
  | mk {a : Addr} {fs : List (String × MV)} {f : String} {x : MV} (h : H a = some (.inst fs)) (hx : fsGet fs f = some x) : AttrR H (.ref a) f x
inductive SetAttrR (H : MH) (Q : MH → Prop) : MV → String → MV → Prop
  | mk {a : Addr} {fs : List (String × MV)} {f : String} {x : MV} (h : H a = some (.inst fs)) (hl : fs.length < 100) (q : Q (H.set a (.inst (fsSet fs f x)))) : SetAttrR H Q (.ref a) f x
inductive SetIdxR (H : MH) (Q : MH → Prop) : MV → MV → MV → Prop
  | lst {a : Addr} {l : List MV} {i : Int} {x : MV} (h : H a = some (.lst l)) (h0 : 0 ≤ i) (h1 : i < l.length) (q : Q (H.set a (.lst (l.set i.toNat x)))) : SetIdxR H Q (.ref a) (.int i) x
  | dct {a : Addr} {es : List (Int × MV)} {i : Int} {x : MV} (h : H a = some (.dct es)) (hl : es.length < bigList) (q : Q (H.set a (.dct (dSet es i x)))) : SetIdxR H Q (.ref a) (.int i) x

/-- a call's words: handled?, the def, its arguments, the heap; what a return, what a raise must meet -/
abbrev CallT := Bool → String → List MV → MH → (MV → MH → Prop) → (String → MH → Prop) → Prop

/-! ## loops and comprehensions, over the meaning of their parts -/
noncomputable def compW (src : MV) (vs₀ : List MV) (cond : MV → MH → (Bool → MH → Prop) → Prop) (elt : MV → MH → (MV → MH → Prop) → Prop) (Q : MV → MH → Prop) : List MV → List MV → MH → Prop
  | [], acc, H => New H Q acc
  | v :: vs, acc, H => acc.length < bigList ∧ cond v H fun b H₁ => if b = true
    then elt v H₁ fun r H₂ => Elems H₂ src vs₀ ∧ compW src vs₀ cond elt Q vs (acc ++ [r]) H₂
    else Elems H₁ src vs₀ ∧ compW src vs₀ cond elt Q vs acc H₁

noncomputable def forW (src : MV) (vs₀ : List MV) (body : MV → Sto → MH → (Sto → MH → Prop) → Prop) (Q : Sto → MH → Prop) : List MV → Sto → MH → Prop
  | [], ρ, H => Q ρ H
  | v :: vs, ρ, H => body v ρ H fun ρ' H' => Elems H' src vs₀ ∧ forW src vs₀ body Q vs ρ' H'

noncomputable def whileW (test : Sto → MH → (Bool → MH → Prop) → Prop) (body : Sto → MH → (Sto → MH → Prop) → Prop) (Q : Sto → MH → Prop) : Nat → Sto → MH → Prop
  | 0, _, _ => False
  | n + 1, ρ, H => test ρ H fun b H₁ => if b = true
    then body ρ H₁ fun ρ' H' => whileW test body Q n ρ' H'
    else Q ρ H₁

inductive BindR : List String → List MV → Sto → Sto → Prop
  | nil {ρ : Sto} : BindR [] [] ρ ρ
  | cons {x : String} {xs : List String} {v : MV} {vs : List MV} {ρ ρ' : Sto} (h : BindR xs vs (ρ.set x v) ρ') : BindR (x :: xs) (v :: vs) ρ ρ'
noncomputable def asTruth (k : Bool → MH → Prop) (v : MV) (H : MH) : Prop := match v with
  | .bool b => k b H
  | _ => False
theorem asTruth_of {k : Bool → MH → Prop} {v : MV} {H : MH} (h : asTruth k v H) : ∃ b, v = .bool b ∧ k b H := by cases v <;> first | exact h.elim | exact ⟨_, rfl, h⟩

variable (Δ : CallT) (hd : Bool)
mutual
noncomputable def wE : ME → Sto → MH → (MV → MH → Prop) → (String → MH → Prop) → Prop
  | .none, _, H, Q, _ => Q .none H
  | .bool b, _, H, Q, _ => Q (.bool b) H
  | .int i, _, H, Q, _ => Q (.int i) H
  | .str s, _, H, Q, _ => Q (.str (Str.ofString s)) H
  | .var x, ρ, H, Q, _ => ∃ v, ρ x = some v ∧ Q v H
  | .gconst _ v, _, H, Q, _ => Q v H
  | .bin op l r, ρ, H, Q, X => wE l ρ H (fun a H₁ => wE r ρ H₁ (fun b H₂ => BinR H₂ Q op a b) X) X
  | .neg e, ρ, H, Q, X => wE e ρ H (fun v H₁ => ∃ i, v = .int i ∧ Q (.int (-i)) H₁) X
  | .not e, ρ, H, Q, X => wE e ρ H (asTruth fun b H₁ => Q (.bool (!b)) H₁) X
  | .and es, ρ, H, Q, X => wAnd es ρ H Q X
  | .or es, ρ, H, Q, X => wOr es ρ H Q X
  | .cmp l c, ρ, H, Q, X => wE l ρ H (fun a H₁ => wC c a ρ H₁ Q X) X
  | .attr e f, ρ, H, Q, X => wE e ρ H (fun v H₁ => ∃ x, AttrR H₁ v f x ∧ Q x H₁) X
  | .sub e i, ρ, H, Q, X => wE e ρ H (fun v H₁ => wE i ρ H₁ (fun k H₂ => ∃ x, SubR H₂ v k x ∧ Q x H₂) X) X
  | .slice e lo hi, ρ, H, Q, X => wE e ρ H (fun v H₁ => wE lo ρ H₁ (fun l H₂ => wE hi ρ H₂ (fun h H₃ => SliceR H₃ Q v l h) X) X) X
  | .list es, ρ, H, Q, X => wEs es ρ H (fun vs H₁ => New H₁ Q vs) X
  | .tup es, ρ, H, Q, X => wEs es ρ H (fun vs H₁ => Q (.tup vs) H₁) X
  | .dict, _, H, Q, _ => ∀ c, H c = none → Q (.ref c) (H.set c (.dct []))
  | .comp elt x it cond, ρ, H, Q, X => hd = false ∧ wE it ρ H (fun src H₁ => ∃ vs, Elems H₁ src vs ∧ compW src vs (fun v H k => wE cond (ρ.set x v) H (asTruth k) X) (fun v H k => wE elt (ρ.set x v) H k X) Q vs [] H₁) X
  | .call f es, ρ, H, Q, X => wEs es ρ H (fun vs H₁ => Δ hd f vs H₁ Q X) X
  | .meth e m es, ρ, H, Q, X => wE e ρ H (fun v H₁ => ∃ a fs, v = .ref a ∧ H₁ a = some (.inst fs) ∧ fsGet fs m = none ∧ wEs es ρ H₁ (fun vs H₂ => Δ hd m (v :: vs) H₂ Q X) X) X
  | .mk es, ρ, H, Q, X => wEs es ρ H (fun vs H₁ => ∀ a, H₁ a = none → Δ hd "__init__" (.ref a :: vs) (H₁.set a (.inst [])) (fun r H₂ => r = .none ∧ Q (.ref a) H₂) X) X
  | .bi b es, ρ, H, Q, X => wEs es ρ H (fun vs H₁ => BiR hd H₁ Q b vs) X
  | .bm e m es, ρ, H, Q, X => wE e ρ H (fun v H₁ => ∃ k, KindR H₁ v m k ∧ wEs es ρ H₁ (fun vs H₂ => KindR H₂ v m k ∧ BmR H₂ Q m v vs) X) X
  | .isinst e t, ρ, H, Q, X => wE e ρ H (fun v H₁ => ∃ b, IsiR H₁ v t b ∧ Q (.bool b) H₁) X
noncomputable def wEs : MEs → Sto → MH → (List MV → MH → Prop) → (String → MH → Prop) → Prop
  | .nil, _, H, Q, _ => Q [] H
  | .cons e es, ρ, H, Q, X => wE e ρ H (fun v H₁ => wEs es ρ H₁ (fun vs H₂ => Q (v :: vs) H₂) X) X
noncomputable def wAnd : MEs → Sto → MH → (MV → MH → Prop) → (String → MH → Prop) → Prop
  | .nil, _, _, _, _ => False
  | .cons e .nil, ρ, H, Q, X => wE e ρ H Q X
  | .cons e es, ρ, H, Q, X => wE e ρ H (asTruth fun b H₁ => if b = true then wAnd es ρ H₁ Q X else Q (.bool false) H₁) X
noncomputable def wOr : MEs → Sto → MH → (MV → MH → Prop) → (String → MH → Prop) → Prop
  | .nil, _, _, _, _ => False
  | .cons e .nil, ρ, H, Q, X => wE e ρ H Q X
  | .cons e es, ρ, H, Q, X => wE e ρ H (asTruth fun b H₁ => if b = true then Q (.bool true) H₁ else wOr es ρ H₁ Q X) X
noncomputable def wC : MCs → MV → Sto → MH → (MV → MH → Prop) → (String → MH → Prop) → Prop
  | .nil, _, _, _, _, _ => False
  | .cons op e .nil, a, ρ, H, Q, X => wE e ρ H (fun b H₁ => ∃ r, CmpR H₁ op a b r ∧ Q (.bool r) H₁) X
  | .cons op e c, a, ρ, H, Q, X => wE e ρ H (fun b H₁ => ∃ r, CmpR H₁ op a b r ∧ if r = true then wC c b ρ H₁ Q X else Q (.bool false) H₁) X
end

/-- statements: N what going on, R what a return, X what a raise must meet -/
noncomputable def wS_for (hd : Bool) (it : Sto → MH → (MV → MH → Prop) → Prop) (body : MV → Sto → MH → (Sto → MH → Prop) → Prop) (ρ : Sto) (H : MH) (N : Sto → MH → Prop) : Prop :=
  hd = false ∧ it ρ H fun src H₁ => ∃ vs, Elems H₁ src vs ∧ forW src vs body N vs ρ H₁
mutual
noncomputable def wS (hd : Bool) : MS → Sto → MH → (Sto → MH → Prop) → (MV → MH → Prop) → (String → Sto → MH → Prop) → Prop
  | .expr e, ρ, H, N, _, X => wE Δ hd e ρ H (fun _ H₁ => N ρ H₁) (fun c H₁ => X c ρ H₁)
  | .assign x e, ρ, H, N, _, X => wE Δ hd e ρ H (fun v H₁ => N (ρ.set x v) H₁) (fun c H₁ => X c ρ H₁)
  | .setAttr e f v, ρ, H, N, _, X => wE Δ hd v ρ H (fun x H₁ => wE Δ hd e ρ H₁ (fun o H₂ => SetAttrR H₂ (N ρ) o f x) (fun c H₁ => X c ρ H₁)) (fun c H₁ => X c ρ H₁)
  | .setIdx e i v, ρ, H, N, _, X => wE Δ hd v ρ H (fun x H₁ => wE Δ hd e ρ H₁ (fun o H₂ => wE Δ hd i ρ H₂ (fun k H₃ => SetIdxR H₃ (N ρ) o k x) (fun c H₁ => X c ρ H₁)) (fun c H₁ => X c ρ H₁)) (fun c H₁ => X c ρ H₁)
  | .ret e, ρ, H, _, R, X => wE Δ hd e ρ H R (fun c H₁ => X c ρ H₁)
  | .ite t a b, ρ, H, N, R, X => wE Δ hd t ρ H (asTruth fun c H₁ => if c = true then wSs hd a ρ H₁ N R X else wSs hd b ρ H₁ N R X) (fun c H₁ => X c ρ H₁)
  | .whil t b, ρ, H, N, R, X => ∃ n, whileW (fun ρ H k => wE Δ hd t ρ H (asTruth k) (fun c H₁ => X c ρ H₁)) (fun ρ H k => wSs hd b ρ H k R X) N n ρ H
  | .for_ x it b, ρ, H, N, R, X => wS_for hd (fun ρ H k => wE Δ hd it ρ H k (fun c H₁ => X c ρ H₁)) (fun v ρ H k => wSs hd b (ρ.set x v) H k R X) ρ H N
  | .forT xs it b, ρ, H, N, R, X => wS_for hd (fun ρ H k => wE Δ hd it ρ H k (fun c H₁ => X c ρ H₁)) (fun v ρ H k => ∃ vs ρ', v = .tup vs ∧ BindR xs vs ρ ρ' ∧ wSs hd b ρ' H k R X) ρ H N
  | .unpack xs e, ρ, H, N, _, X => hd = false ∧ wE Δ hd e ρ H (fun v H₁ => ∃ vs ρ', v = .tup vs ∧ BindR xs vs ρ ρ' ∧ N ρ' H₁) (fun c H₁ => X c ρ H₁)
  | .raise c _, ρ, H, _, _, X => hd = false ∧ X c ρ H
  | .try_ b x h, ρ, H, N, R, X => hd = false ∧ wSs hd b ρ H N R (fun c ρ' H' => wSs true h (ρ'.set x (.exc c)) H' (fun ρ'' H'' => N (ρ''.del x) H'') R (fun _ _ _ => False))
noncomputable def wSs (hd : Bool) : MSs → Sto → MH → (Sto → MH → Prop) → (MV → MH → Prop) → (String → Sto → MH → Prop) → Prop
  | .nil, ρ, H, N, _, _ => N ρ H
  | .cons s ss, ρ, H, N, R, X => wS hd s ρ H (fun ρ' H' => wSs hd ss ρ' H' N R X) R X
end

structure MFn where
  params : List String
  body : MSs

abbrev MProg := List (String × MFn)
noncomputable def MProg.fn (P : MProg) (f : String) : Option MFn := match P with
  | [] => none
  | (g, d) :: r => if f = g then some d else MProg.fn r f

noncomputable def callW (P : MProg) : Nat → CallT
  | 0, _, _, _, _, _, _ => False
  | n + 1, hd, f, vs, H, Q, X => ∃ d, P.fn f = some d ∧ d.params.length = vs.length ∧ wSs (callW P n) hd d.body (Sto.ofArgs d.params vs) H (fun _ H' => Q .none H') Q (fun c _ H' => X c H')

end Mine
end
section
set_option autoImplicit false
set_option linter.unusedVariables false
set_option genSizeOf false
set_option genSizeOfSpec false
set_option genInjectivity false
namespace Mine
open PySem

theorem ofString_inj {x y : String} (h : Str.ofString x = Str.ofString y) : x = y := by
  unfold Str.ofString at h
  rw [cpsOfBytes_string, cpsOfBytes_string] at h
  have h1 : x.toList.map Char.toNat = y.toList.map Char.toNat := by
    have := congrArg (fun s : Str => s.cps.toList) h
    simpa using this
  have h2 : x.toList = y.toList := by
    have inj : ∀ (l r : List Char), l.map Char.toNat = r.map Char.toNat → l = r := by
      intro l
      induction l with
      | nil => intro r hr; cases r with | nil => rfl | cons _ _ => cases hr
      | cons a l ih =>
        intro r hr
        cases r with
        | nil => cases hr
        | cons b r =>
          simp only [List.map_cons, List.cons.injEq] at hr
          rw [ih r hr.2, Char.toNat_inj.mp hr.1]
    exact inj _ _ h1
  exact String.toList_inj.mp h2
theorem ofString_eq {x y : String} : Str.ofString x = Str.ofString y ↔ x = y := ⟨ofString_inj, fun h => by rw [h]⟩

namespace All2
variable {α β γ : Type} {R S : α → β → Prop} {l : List α} {r : List β}
theorem mono (f : ∀ a b, R a b → S a b) (h : All2 R l r) : All2 S l r := by
  induction h with
  | nil => exact .nil
  | cons h _ ih => exact .cons (f _ _ h) ih
theorem length_eq (h : All2 R l r) : l.length = r.length := by
  induction h with
  | nil => rfl
  | cons _ _ ih => exact congrArg Nat.succ ih
theorem append {l' : List α} {r' : List β} (h : All2 R l r) (h' : All2 R l' r') : All2 R (l ++ l') (r ++ r') := by
  induction h with
  | nil => exact h'
  | cons h _ ih => exact .cons h ih
theorem get (h : All2 R l r) : ∀ (i : Nat) (b : β), r[i]? = some b → ∃ a, l[i]? = some a ∧ R a b := by
  induction h with
  | nil => intro i b e; rw [List.getElem?_nil] at e; cases e
  | cons h _ ih => intro i b e; cases i with
    | zero => cases e; exact ⟨_, rfl, h⟩
    | succ i => exact ih i b e
theorem take (h : All2 R l r) : ∀ (i : Nat), All2 R (l.take i) (r.take i) := by
  induction h with
  | nil => intro i; cases i <;> exact .nil
  | cons h _ ih => intro i; cases i with
    | zero => exact .nil
    | succ i => exact .cons h (ih i)
theorem drop (h : All2 R l r) : ∀ (i : Nat), All2 R (l.drop i) (r.drop i) := by
  induction h with
  | nil => intro i; cases i <;> exact .nil
  | cons h t ih => intro i; cases i with
    | zero => exact .cons h t
    | succ i => exact ih i
theorem set (h : All2 R l r) : ∀ (i : Nat) {a : α} {b : β}, R a b → All2 R (l.set i a) (r.set i b) := by
  induction h with
  | nil => intro i a b _; exact .nil
  | cons h t ih => intro i a b e; cases i with
    | zero => exact .cons e t
    | succ i => exact .cons h (ih i e)
theorem replicate (n : Nat) {a : α} {b : β} (e : R a b) : All2 R (List.replicate n a) (List.replicate n b) := by
  induction n with
  | zero => exact .nil
  | succ n ih => exact .cons e ih
end All2

inductive HK where
  | lst (vs : List MV)
  | ro (vs : List MV)
  | dct (es : List (Int × MV))
  | inst (d : Addr)
  | idict (a : Addr) (fs : List (String × MV))
  | tup (vs : List MV)
  | rng (a b c : Int)
  | exc (c : String)
  | cell (v : Option MV)
  | ns (m : Sto)
  | raw (o : Obj)
  | hid (vs : List MV)

noncomputable def HK.slot : HK → Bool
  | .cell _ | .ns _ | .raw _ | .hid _ => true
  | _ => false
noncomputable def HK.fixed : HK → Bool
  | .ro _ | .tup _ | .rng .. | .exc _ => true
  | _ => false

abbrev Psi := Addr → Option HK
noncomputable def Psi.set (Ψ : Psi) (a : Addr) (k : HK) : Psi := fun b => if b = a then some k else Ψ b

inductive VRel (Ψ : Psi) : Value → MV → Prop
  | none : VRel Ψ .none .none
  | bool {b : Bool} : VRel Ψ (.bool b) (.bool b)
  | int {i : Int} {t : Tok} : VRel Ψ (.int i t) (.int i)
  | str {s : Str} {t : Tok} : VRel Ψ (.str s t) (.str s)
  | ref {a : Addr} : VRel Ψ (.ref a) (.ref a)
  | tup {a : Addr} {vs : List MV} (h : Ψ a = some (.tup vs)) : VRel Ψ (.ref a) (.tup vs)
  | rng {a : Addr} {x y z : Int} (h : Ψ a = some (.rng x y z)) : VRel Ψ (.ref a) (.rng x y z)
  | exc {a : Addr} {c : String} (h : Ψ a = some (.exc c)) : VRel Ψ (.ref a) (.exc c)
theorem vnone {Ψ : Psi} {v : Value} (h : VRel Ψ v .none) : v = .none := by cases h; rfl
theorem vbool {Ψ : Psi} {v : Value} {b : Bool} (h : VRel Ψ v (.bool b)) : v = .bool b := by cases h; rfl
theorem vint {Ψ : Psi} {v : Value} {i : Int} (h : VRel Ψ v (.int i)) : ∃ t, v = .int i t := by cases h; exact ⟨_, rfl⟩
theorem vstr {Ψ : Psi} {v : Value} {x : Str} (h : VRel Ψ v (.str x)) : ∃ t, v = .str x t := by cases h; exact ⟨_, rfl⟩
theorem vref {Ψ : Psi} {v : Value} {a : Addr} (h : VRel Ψ v (.ref a)) : v = .ref a := by cases h; rfl
theorem vtup {Ψ : Psi} {v : Value} {vs : List MV} (h : VRel Ψ v (.tup vs)) : ∃ a, v = .ref a ∧ Ψ a = some (.tup vs) := by cases h; exact ⟨_, rfl, by assumption⟩
theorem vrng {Ψ : Psi} {v : Value} {a b c : Int} (h : VRel Ψ v (.rng a b c)) : ∃ x, v = .ref x ∧ Ψ x = some (.rng a b c) := by cases h; exact ⟨_, rfl, by assumption⟩
theorem vexc {Ψ : Psi} {v : Value} {c : String} (h : VRel Ψ v (.exc c)) : ∃ x, v = .ref x ∧ Ψ x = some (.exc c) := by cases h; exact ⟨_, rfl, by assumption⟩

/-- what never turns stays -/
noncomputable def Fix (Ψ Ψ' : Psi) : Prop := ∀ a k, Ψ a = some k → k.fixed = true → Ψ' a = some k
theorem Fix.refl (Ψ : Psi) : Fix Ψ Ψ := fun _ _ h _ => h
theorem Fix.trans {Ψ Ψ' Ψ'' : Psi} (x : Fix Ψ Ψ') (y : Fix Ψ' Ψ'') : Fix Ψ Ψ'' := fun a k h f => y a k (x a k h f) f
theorem VRel.mono {Ψ Ψ' : Psi} (F : Fix Ψ Ψ') {v : Value} {m : MV} (h : VRel Ψ v m) : VRel Ψ' v m := by
  cases h with
  | tup h => exact .tup (F _ _ h rfl)
  | rng h => exact .rng (F _ _ h rfl)
  | exc h => exact .exc (F _ _ h rfl)
  | _ => constructor

/-- a row of values in an object of the model -/
inductive SeqO (T : String) (Ψ : Psi) (o : Obj) (vs : List MV) : Prop
  | mk (items : Array Value) (n : Nat) (e : o = { cls := .type T, dict := none, data := .seq items n, slots := #[] }) (r : All2 (VRel Ψ) items.toList vs) (hl : vs.length ≤ bigList)
section
variable (prog : Program) (w : World) (ca : String → Addr)
noncomputable def ORel (Ψ : Psi) (o : Obj) : HK → Prop
  | .lst vs => SeqO "list" Ψ o vs
  | .ro vs => ∃ items n, o.cls = .type "list" ∧ o.data = .seq items n ∧ All2 (VRel Ψ) items.toList vs ∧ vs.length ≤ bigList
  | .dct es => ∃ kvs, o.IsDictOf (intKind prog w) kvs ∧ All2 (fun (p : Int × Value) (q : Int × MV) => p.1 = q.1 ∧ VRel Ψ p.2 q.2) kvs es
  | .inst d => o.cls = .ref (ca "Train") ∧ o.dict = some d ∧ o.data = .plain
  | .idict _ fs => o.ExactDict ∧ ∃ ents n, o.data = .dict ents n ∧ (StrKeys ents ∧ ents.size ≤ fs.length) ∧
      (∀ x, fsGet fs x = none → nsFind ents (Str.ofString x) = none) ∧ ∀ x mv, fsGet fs x = some mv → ∃ v, nsFind ents (Str.ofString x) = some v ∧ VRel Ψ v mv
  | .tup vs => SeqO "tuple" Ψ o vs
  | .rng a b c => (∃ t u v, o = { cls := .type "range", dict := none, data := .fields #[.int a t, .int b u, .int c v], slots := #[] }) ∧ smallI a ∧ smallI b ∧ smallI c ∧ 0 < c
  | .exc c => excNames.contains c = true ∧ o.cls = .ref (ca c) ∧ ∃ vs, o.data = .fields vs
  | .cell v => (∃ w, o.data = .cell w) ∧ ∀ mv, v = some mv → ∃ w, o.data = .cell (some w) ∧ VRel Ψ w mv
  | .ns m => ∃ ents n, o.data = .dict ents n ∧ StrKeys ents ∧ ∀ x v, m x = some v → ∃ w, nsFind ents (Str.ofString x) = some w ∧ VRel Ψ w v
  | .raw o' => o = o'
  | .hid vs => SeqO "list" Ψ o vs

variable {prog w ca}
theorem SeqO.mono {T : String} {Ψ Ψ' : Psi} (F : Fix Ψ Ψ') {o : Obj} {vs : List MV} (h : SeqO T Ψ o vs) : SeqO T Ψ' o vs := by
  cases h with | mk items n e r hl => exact ⟨items, n, e, r.mono fun _ _ => VRel.mono F, hl⟩
theorem ORel.mono {Ψ Ψ' : Psi} (F : Fix Ψ Ψ') {o : Obj} {k : HK} (h : ORel prog w ca Ψ o k) : ORel prog w ca Ψ' o k := by
  cases k with
  | lst vs => exact SeqO.mono F h
  | tup vs => exact SeqO.mono F h
  | hid vs => exact SeqO.mono F h
  | ro vs => obtain ⟨items, n, c, c', d, e⟩ := h; exact ⟨items, n, c, c', d.mono fun _ _ => VRel.mono F, e⟩
  | dct es => obtain ⟨kvs, a, d⟩ := h; exact ⟨kvs, a, d.mono fun _ _ x => ⟨x.1, x.2.mono F⟩⟩
  | idict a fs =>
    obtain ⟨a, ents, n, c, d, e, f⟩ := h
    refine ⟨a, ents, n, c, d, e, fun x mv hx => ?_⟩
    obtain ⟨v, h1, h2⟩ := f x mv hx; exact ⟨v, h1, h2.mono F⟩
  | cell v => refine ⟨h.1, fun mv e => ?_⟩; obtain ⟨w, a, b⟩ := h.2 mv e; exact ⟨w, a, b.mono F⟩
  | ns m => obtain ⟨ents, n, c, d, e⟩ := h; refine ⟨ents, n, c, d, fun x v hx => ?_⟩; obtain ⟨w, a, b⟩ := e x v hx; exact ⟨w, a, b.mono F⟩
  | _ => exact h

variable (prog w ca)
noncomputable def Typed (Ψ : Psi) (h : Heap) : Prop := ∀ a k, Ψ a = some k → ∃ o, h.get? a = some o ∧ ORel prog w ca Ψ o k
variable {prog w ca}
theorem Typed.mod {Ψ Ψ' : Psi} {h h' : Heap} (T : Typed prog w ca Ψ h) (P : Addr → Prop) (F : Fix Ψ Ψ')
    (hsame : ∀ a k, Ψ' a = some k → ¬ P a → Ψ a = some k ∧ ∀ o, h.get? a = some o → h'.get? a = some o)
    (hnew : ∀ a k, Ψ' a = some k → P a → ∃ o, h'.get? a = some o ∧ ORel prog w ca Ψ' o k) : Typed prog w ca Ψ' h' := fun a k e => by
  by_cases hp : P a
  · exact hnew a k e hp
  · obtain ⟨e1, e2⟩ := hsame a k e hp
    obtain ⟨o, ho, hr⟩ := T a k e1
    exact ⟨o, e2 o ho, hr.mono F⟩
theorem Typed.keeps {Ψ : Psi} {h h' : Heap} (T : Typed prog w ca Ψ h) (k : ∀ a k, Ψ a = some k → ∀ o, h.get? a = some o → h'.get? a = some o) : Typed prog w ca Ψ h' :=
  T.mod (fun _ => False) (.refl _) (fun a x e _ => ⟨e, k a x e⟩) fun _ _ _ hp => hp.elim
end

theorem Fix.set_new {Ψ : Psi} {a : Addr} (k : HK) (h : Ψ a = none) : Fix Ψ (Ψ.set a k) := fun b x e _ => by
  unfold Psi.set; split
  · rename_i q; subst q; rw [h] at e; cases e
  · exact e
theorem Fix.set_turn {Ψ : Psi} {a : Addr} {k₀ : HK} (k : HK) (h : Ψ a = some k₀) (hf : k₀.fixed = false) : Fix Ψ (Ψ.set a k) := fun b x e f => by
  unfold Psi.set; split
  · rename_i q; subst q; rw [h] at e; cases e; rw [hf] at f; cases f
  · exact e
theorem Psi.set_self (Ψ : Psi) (a : Addr) (k : HK) : Ψ.set a k a = some k := if_pos rfl
theorem Psi.set_ne (Ψ : Psi) {a b : Addr} (k : HK) (h : b ≠ a) : Ψ.set a k b = Ψ b := if_neg h
theorem MH.set_self (H : MH) (a : Addr) (k : MObj) : H.set a k a = some k := if_pos rfl
theorem MH.set_ne (H : MH) {a b : Addr} (k : MObj) (h : b ≠ a) : H.set a k b = H b := if_neg h

/-- what a step may turn of frames, cells and hidden things -/
structure Keep (own : Addr → Prop) (Ψ Ψ' : Psi) : Prop where
  fix : Fix Ψ Ψ'
  slot : ∀ a k, Ψ a = some k → k.slot = true → ¬ own a → Ψ' a = some k
  ns : ∀ a m, Ψ a = some (.ns m) → ∃ m', Ψ' a = some (.ns m')
  cell : ∀ a v, Ψ a = some (.cell v) → ∃ v', Ψ' a = some (.cell v')
noncomputable def none_ : Addr → Prop := fun _ => False
theorem Keep.refl (own : Addr → Prop) (Ψ : Psi) : Keep own Ψ Ψ := ⟨.refl _, fun _ _ h _ _ => h, fun _ m h => ⟨m, h⟩, fun _ v h => ⟨v, h⟩⟩
theorem Keep.trans {own : Addr → Prop} {Ψ Ψ' Ψ'' : Psi} (x : Keep own Ψ Ψ') (y : Keep own Ψ' Ψ'') : Keep own Ψ Ψ'' :=
  ⟨x.fix.trans y.fix, fun a k h f n => y.slot a k (x.slot a k h f n) f n, fun a m h => (x.ns a m h).elim fun m' e => y.ns a m' e, fun a v h => (x.cell a v h).elim fun v' e => y.cell a v' e⟩
theorem Keep.weaken {own own' : Addr → Prop} {Ψ Ψ' : Psi} (x : Keep own Ψ Ψ') (h : ∀ a, own a → own' a) : Keep own' Ψ Ψ' :=
  ⟨x.fix, fun a k e f n => x.slot a k e f fun q => n (h a q), x.ns, x.cell⟩
theorem Keep.of_none {own : Addr → Prop} {Ψ Ψ' : Psi} (x : Keep none_ Ψ Ψ') : Keep own Ψ Ψ' := x.weaken fun _ h => h.elim
theorem nn {α : Type} {x : Option α} {y : α} {p : Prop} (h : x = none) (e : x = some y) : p := by rw [h] at e; cases e
theorem ne_of_none {Ψ : Psi} {a b : Addr} {k : HK} (h : Ψ a = none) (e : Ψ b = some k) : b ≠ a := fun q => nn h (q ▸ e)
/-- what is new does not count as own -/
theorem Keep.drop {own own' : Addr → Prop} {Ψ Ψ' : Psi} (x : Keep own Ψ Ψ') (h : ∀ a, own a → Ψ a = none ∨ own' a) : Keep own' Ψ Ψ' :=
  ⟨x.fix, fun a k e f n => x.slot a k e f fun q => (h a q).elim (fun z => nn z e) n, x.ns, x.cell⟩
theorem Psi.set_up {Ψ : Psi} {a b : Addr} {k k' : HK} (h : Ψ a = none) (e : Ψ b = some k) : Ψ.set a k' b = some k := (Psi.set_ne _ _ (ne_of_none h e)).trans e
theorem Keep.set_new {Ψ : Psi} {a : Addr} (k : HK) (h : Ψ a = none) : Keep none_ Ψ (Ψ.set a k) :=
  ⟨.set_new k h, fun b x e _ _ => Psi.set_up h e, fun b m e => ⟨m, Psi.set_up h e⟩, fun b m e => ⟨m, Psi.set_up h e⟩⟩
noncomputable def HK.data : HK → Bool
  | .lst _ | .dct _ | .inst .. | .idict .. => true
  | _ => false
noncomputable def HK.sort : HK → Nat
  | .lst _ | .dct _ | .inst .. | .idict .. => 0
  | .ns _ => 1
  | .cell _ => 2
  | .raw _ => 3
  | .hid _ => 4
  | _ => 5
theorem sort_data {k : HK} (h : k.data = true) : k.sort = 0 ∧ k.fixed = false := by cases k <;> first | exact ⟨rfl, rfl⟩ | exact absurd h Bool.noConfusion
theorem sort_slot {k : HK} (h : k.slot = true) : k.sort ≠ 0 := by cases k <;> first | exact absurd h Bool.noConfusion | exact Nat.noConfusion
theorem ne_of_sort {Ψ : Psi} {a b : Addr} {k k' : HK} (h : Ψ a = some k) (e : Ψ b = some k') (n : k.sort ≠ k'.sort) : b ≠ a := fun q => by
  subst q; rw [h] at e; exact n (congrArg HK.sort (Option.some.inj e))
theorem Psi.set_sort {Ψ : Psi} {a b : Addr} {k k' k₁ : HK} (h : Ψ a = some k) (e : Ψ b = some k') (n : k.sort ≠ k'.sort) : Ψ.set a k₁ b = some k' := (Psi.set_ne _ _ (ne_of_sort h e n)).trans e
theorem Keep.set_data {Ψ : Psi} {a : Addr} {k₀ : HK} (k : HK) (h : Ψ a = some k₀) (hd : k₀.data = true) : Keep none_ Ψ (Ψ.set a k) :=
  have z := sort_data hd
  ⟨.set_turn k h z.2, fun b x e f _ => Psi.set_sort h e (z.1.symm ▸ (sort_slot f).symm), fun b m e => ⟨m, Psi.set_sort h e (z.1.symm ▸ Nat.noConfusion)⟩, fun b m e => ⟨m, Psi.set_sort h e (z.1.symm ▸ Nat.noConfusion)⟩⟩
/-- a slot of one's own is turned -/
theorem Keep.set_own {Ψ : Psi} {a : Addr} {k₀ k : HK} {own : Addr → Prop} (h : Ψ a = some k₀) (hf : k₀.fixed = false) (ho : own a) (hns : ∀ m, k₀ = .ns m → ∃ m', k = .ns m') (hce : ∀ m, k₀ = .cell m → ∃ m', k = .cell m') : Keep own Ψ (Ψ.set a k) := by
  refine ⟨.set_turn k h hf, fun b x e f n => (Psi.set_ne _ _ fun (q : b = a) => n (q.symm ▸ ho)).trans e, fun b m e => ?_, fun b m e => ?_⟩
  · by_cases q : b = a
    · subst q; obtain ⟨m', rfl⟩ := hns m (Option.some.inj (h.symm.trans e)); exact ⟨m', Psi.set_self _ _ _⟩
    · exact ⟨m, (Psi.set_ne _ _ q).trans e⟩
  · by_cases q : b = a
    · subst q; obtain ⟨m', rfl⟩ := hce m (Option.some.inj (h.symm.trans e)); exact ⟨m', Psi.set_self _ _ _⟩
    · exact ⟨m, (Psi.set_ne _ _ q).trans e⟩

noncomputable def HRel (Ψ : Psi) (a : Addr) : MObj → Prop
  | .lst vs => Ψ a = some (.lst vs)
  | .ro vs => Ψ a = some (.ro vs)
  | .dct es => Ψ a = some (.dct es)
  | .inst fs => ∃ d, Ψ a = some (.inst d) ∧ Ψ d = some (.idict a fs)

structure EnvRel (Ψ : Psi) (env : Env) (ρ : Sto) : Prop where
  kind : env.scope.kind = .function
  glob : env.globals = mainGlobals
  blt : env.builtins = builtinsNs
  loc : ∃ m, Ψ env.locals = some (.ns m) ∧ ∀ x v, x ≠ ".0" → env.kindOf (Str.ofString x) = some .local → ρ x = some v → m x = some v
  val : ∀ x v, (env.kindOf (Str.ofString x) = some .cell ∨ env.kindOf (Str.ofString x) = some .free) → ρ x = some v →
    ∃ c, env.cells.lookup (Str.ofString x) = some c ∧ Ψ c = some (.cell (some v))
  cel : ∀ n, env.kindOf n = some .cell → ∃ c w, env.cells.lookup n = some c ∧ Ψ c = some (.cell w)
  apart : env.cells.Pairwise fun x y => x.2 ≠ y.2

noncomputable def ownOf (env : Env) (a : Addr) : Prop := a = env.locals ∨ ∃ n, env.kindOf n = some .cell ∧ env.cells.lookup n = some a

theorem EnvRel.keep {Ψ Ψ' : Psi} {env : Env} {ρ : Sto} (E : EnvRel Ψ env ρ) (K : Keep none_ Ψ Ψ') : EnvRel Ψ' env ρ where
  kind := E.kind
  glob := E.glob
  blt := E.blt
  loc := E.loc.imp fun _ x => ⟨K.slot _ _ x.1 rfl id, x.2⟩
  val x v hk hv := (E.val x v hk hv).imp fun _ y => ⟨y.1, K.slot _ _ y.2 rfl id⟩
  cel n hn := (E.cel n hn).imp fun _ y => y.imp fun _ z => ⟨z.1, K.slot _ _ z.2 rfl id⟩
  apart := E.apart

end Mine
end
section
set_option autoImplicit false
set_option linter.unusedVariables false
set_option genInjectivity false
set_option genSizeOf false
namespace Mine
open PySem

structure Amb where
  prog : Program
  w : World
  h₀ : Heap
  ca : String → Addr
  g₀ : Array GenState
  os₀ : OsState
  big : ∃ a o, sysModules < a ∧ h₀.get? a = some o

abbrev Amb.M (W : Amb) : Model := model W.prog W.w
abbrev Amb.O (W : Amb) (Ψ : Psi) (o : Obj) (k : HK) : Prop := ORel W.prog W.w W.ca Ψ o k

structure St (W : Amb) (fs : List Env) (Ψ : Psi) (H : MH) (s : Shared) : Prop where
  typed : Typed W.prog W.w W.ca Ψ s.heap
  fresh : ∀ a k, Ψ a = some k → (∀ vs, k ≠ .ro vs) → W.h₀.get? a = none
  heap : ∀ a o, H a = some o → HRel Ψ a o
  base : W.h₀.StaysIn s.heap
  frames : ∀ e ∈ fs, e.scope.kind ≠ .module ∧ ∃ L m, e.frame = some L ∧ Ψ L = some (.ns m)
  gens : s.gens = W.g₀
  os : s.os = W.os₀
  dsys : ∀ a es, Ψ a = some (.dct es) → (a == sysModules) = false

section
variable {W : Amb} {fs : List Env} {Ψ Ψ' : Psi} {H : MH} {s s' : Shared}

theorem St.none_at (S : St W fs Ψ H s) : Ψ s.heap.objs.size = none := by
  cases q : Ψ s.heap.objs.size with
  | none => rfl
  | some k => obtain ⟨o, ho, _⟩ := S.typed _ _ q; exact absurd (Heap.lt_size ho) (Nat.lt_irrefl _)
theorem HRel.some {a : Addr} {o : MObj} (h : HRel Ψ a o) : ∃ k, Ψ a = some k := by
  cases o with
  | inst fs => obtain ⟨d, h, _⟩ := h; exact ⟨_, h⟩
  | _ => exact ⟨_, h⟩
theorem St.hNone (S : St W fs Ψ H s) {a : Addr} (h : Ψ a = none) : H a = none := by
  cases q : H a with
  | none => rfl
  | some o => exact (S.heap a o q).some.elim fun _ e => nn h e
theorem St.free_at (S : St W fs Ψ H s) : H s.heap.objs.size = none := S.hNone S.none_at
theorem St.base_at (S : St W fs Ψ H s) : W.h₀.get? s.heap.objs.size = none := S.base.fresh

theorem St.notSysAt (S : St W fs Ψ H s) : (s.heap.objs.size == sysModules) = false := by
  obtain ⟨a, o, h1, h2⟩ := W.big
  exact beq_eq_false_iff_ne.mpr (Nat.ne_of_gt (Nat.lt_trans h1 (Heap.lt_size (S.base a o h2))))
theorem HRel.keepN {a : Addr} {o : MObj} (h : HRel Ψ a o) (k : ∀ b x, Ψ b = Option.some x → Ψ' b = Option.some x) : HRel Ψ' a o := by
  cases o with
  | inst fs => obtain ⟨d, h1, h2⟩ := h; exact ⟨d, k _ _ h1, k _ _ h2⟩
  | _ => exact k _ _ h

theorem St.toks (S : St W fs Ψ H s) (n : Nat) : St W fs Ψ H { s with toks := n } := ⟨S.typed, S.fresh, S.heap, S.base, S.frames, S.gens, S.os, S.dsys⟩
/-- a heap that keeps all that is known -/
theorem St.of_keeps (S : St W fs Ψ H s) (hk : ∀ a k, Ψ a = some k → ∀ o, s.heap.get? a = some o → s'.heap.get? a = some o) (hb : W.h₀.StaysIn s'.heap) (hg : s'.gens = s.gens) (ho : s'.os = s.os) : St W fs Ψ H s' :=
  ⟨S.typed.keeps hk, S.fresh, S.heap, hb, S.frames, hg.trans S.gens, ho.trans S.os, S.dsys⟩
theorem St.of_all (S : St W fs Ψ H s) (hk : ∀ a o, s.heap.get? a = some o → s'.heap.get? a = some o) (hg : s'.gens = s.gens) (ho : s'.os = s.os) : St W fs Ψ H s' :=
  S.of_keeps (fun a _ _ o => hk a o) (fun b o e => hk b o (S.base b o e)) hg ho
theorem ne_none {α : Type} {f : Addr → Option α} {a b : Addr} {x : α} (h : f a = none) (e : f b = some x) : b ≠ a := fun q => nn h (q ▸ e)
theorem St.of_extBut (S : St W fs Ψ H s) {a : Addr} (hn : Ψ a = none) (h0 : W.h₀.get? a = none) (hk : Heap.ExtBut a s.heap s'.heap) (hg : s'.gens = s.gens) (ho : s'.os = s.os) : St W fs Ψ H s' :=
  S.of_keeps (fun b k e o => hk b o (ne_none hn e)) (fun b o e => hk b o (ne_none (f := W.h₀.get?) h0 e) (S.base b o e)) hg ho
theorem Psi.set_inv {Ψ : Psi} {a b : Addr} {k x : HK} (e : Ψ.set a k b = some x) : (b = a ∧ x = k) ∨ (b ≠ a ∧ Ψ b = some x) := by
  by_cases q : b = a
  · subst q; exact .inl ⟨rfl, (Option.some.inj ((Psi.set_self _ _ _).symm.trans e)).symm⟩
  · exact .inr ⟨q, (Psi.set_ne _ _ q).symm.trans e⟩
/-- something new at a free place -/
theorem St.placed (S : St W fs Ψ H s) {a : Addr} {o : Obj} {k : HK} (hk : ∀ b o, s.heap.get? b = some o → s'.heap.get? b = some o) (ha : s.heap.get? a = none) (hsys : (a == sysModules) = false) (ho : s'.heap.get? a = some o)
    (hr : W.O (Ψ.set a k) o k) (hg : s'.gens = s.gens) (hos : s'.os = s.os) : Ψ a = none ∧ St W fs (Ψ.set a k) H s' := by
  have hn : Ψ a = none := by
    cases q : Ψ a with
    | none => rfl
    | some k => exact (S.typed _ _ q).elim fun o ho => nn ha ho.1
  have hb : W.h₀.get? a = none := by
    cases q : W.h₀.get? a with
    | none => rfl
    | some o => exact nn ha (S.base a o q)
  refine ⟨hn, ⟨fun b x e => ?_, fun b x e hx => ?_, fun b x e => (S.heap b x e).keepN fun _ _ => Psi.set_up hn, fun b o e => hk b o (S.base b o e), fun e he => ?_, hg.trans S.gens, hos.trans S.os, fun b es e => ?_⟩⟩
  · rcases Psi.set_inv e with ⟨rfl, rfl⟩ | ⟨_, e⟩
    · exact ⟨o, ho, hr⟩
    · exact (S.typed b x e).elim fun o z => ⟨o, hk _ _ z.1, z.2.mono (.set_new k hn)⟩
  · rcases Psi.set_inv e with ⟨rfl, _⟩ | ⟨_, e⟩
    · exact hb
    · exact S.fresh b x e hx
  · obtain ⟨p, L, m, b, c⟩ := S.frames e he; exact ⟨p, L, m, b, Psi.set_up hn c⟩
  · rcases Psi.set_inv e with ⟨rfl, _⟩ | ⟨_, e⟩
    · exact hsys
    · exact S.dsys b es e
theorem St.push (S : St W fs Ψ H s) {o : Obj} {k : HK} (hf : o.isFreed = false) (hr : W.O (Ψ.set s.heap.objs.size k) o k)
    (hh : s'.heap = s.heap.push o) (hg : s'.gens = s.gens) (ho : s'.os = s.os) : St W fs (Ψ.set s.heap.objs.size k) H s' :=
  (S.placed (fun b o e => hh ▸ Heap.get?_push_of_some _ e) (Heap.get?_none_of_le (Nat.le_refl _)) S.notSysAt (hh ▸ Heap.get?_push_size _ hf) hr hg ho).2
theorem St.pushKeep (S : St W fs Ψ H s) (k : HK) : Keep none_ Ψ (Ψ.set s.heap.objs.size k) := .set_new k S.none_at

/-- something becomes visible -/
theorem St.shown (S : St W fs Ψ H s) {c : Addr} {o : MObj} (h : HRel Ψ c o) : St W fs Ψ (H.set c o) s :=
  ⟨S.typed, S.fresh, fun a x e => by
    by_cases q : a = c
    · subst q; exact Option.some.inj ((MH.set_self _ _ _).symm.trans e) ▸ h
    · exact S.heap a x ((MH.set_ne _ _ q).symm.trans e), S.base, S.frames, S.gens, S.os, S.dsys⟩

/-- one object turned -/
theorem St.turned (S : St W fs Ψ H s) {a : Addr} {o' : Obj} {k₀ k : HK} {H' : MH} (e₀ : Ψ a = some k₀) (hfix : k₀.fixed = false) (hns : ∀ m, k₀ = .ns m → ∃ m', k = .ns m')
    (hr : W.O (Ψ.set a k) o' k) (hs : Heap.SameBut a s.heap s'.heap) (ho' : s'.heap.get? a = some o') (hH : ∀ b x, H' b = some x → HRel (Ψ.set a k) b x)
    (hg : s'.gens = s.gens) (ho : s'.os = s.os) (hdc : ∀ es, k = .dct es → (a == sysModules) = false := by intro _ q; cases q) : St W fs (Ψ.set a k) H' s' := by
  have h0 := S.fresh a k₀ e₀ fun vs q => by subst q; exact Bool.noConfusion hfix
  refine ⟨fun b x e => ?_, fun b x e hx => ?_, hH, fun b o e => (hs.2 b (ne_none (f := W.h₀.get?) h0 e)).trans (S.base b o e), fun e he => ?_, hg.trans S.gens, ho.trans S.os, fun b es e => ?_⟩
  · rcases Psi.set_inv e with ⟨rfl, rfl⟩ | ⟨q, e⟩
    · exact ⟨o', ho', hr⟩
    · exact (S.typed b x e).elim fun o z => ⟨o, (hs.2 b q).trans z.1, z.2.mono (.set_turn k e₀ hfix)⟩
  · rcases Psi.set_inv e with ⟨rfl, _⟩ | ⟨_, e⟩
    · exact h0
    · exact S.fresh b x e hx
  · obtain ⟨p, L, m, q, r⟩ := S.frames e he
    refine ⟨p, L, ?_⟩
    by_cases hL : L = a
    · subst hL
      obtain ⟨m', hm'⟩ := hns m (Option.some.inj (e₀.symm.trans r))
      exact ⟨m', q, hm' ▸ Psi.set_self _ _ _⟩
    · exact ⟨m, q, (Psi.set_ne _ _ hL).trans r⟩
  · rcases Psi.set_inv e with ⟨rfl, q⟩ | ⟨_, e⟩
    · exact hdc es q.symm
    · exact S.dsys b es e
end

/-! what a step leaves -/
inductive PostE (W : Amb) (fs : List Env) (Ψ : Psi) (Q : MV → MH → Prop) (v : Value) (s' : Shared) : Prop
  | mk (Ψ' : Psi) (H' : MH) (mv : MV) (S : St W fs Ψ' H' s') (K : Keep none_ Ψ Ψ') (hv : VRel Ψ' v mv) (q : Q mv H')
inductive PostB (W : Amb) (fs : List Env) (Ψ : Psi) (Q : Bool → MH → Prop) (v : Bool) (s' : Shared) : Prop
  | mk (Ψ' : Psi) (H' : MH) (S : St W fs Ψ' H' s') (K : Keep none_ Ψ Ψ') (q : Q v H')
inductive PostL (W : Amb) (fs : List Env) (Ψ : Psi) (Q : List MV → MH → Prop) (vs : List Value) (s' : Shared) : Prop
  | mk (Ψ' : Psi) (H' : MH) (mvs : List MV) (S : St W fs Ψ' H' s') (K : Keep none_ Ψ Ψ') (hv : All2 (VRel Ψ') vs mvs) (q : Q mvs H')

theorem PostE.from {W : Amb} {fs : List Env} {Ψ Ψ₁ : Psi} {Q : MV → MH → Prop} {v : Value} {s' : Shared} (K : Keep none_ Ψ Ψ₁) (x : PostE W fs Ψ₁ Q v s') : PostE W fs Ψ Q v s' := by
  cases x with | mk Ψ' H' mv a b c d => exact ⟨Ψ', H', mv, a, K.trans b, c, d⟩

/-! exceptions in flight -/
noncomputable def ExcAt (B h : Heap) (e : Addr) (cls : Value) (fs : List Env) : Prop :=
  (∃ a0, h.TracedAtW B e cls a0 .none) ∨
  (∃ a0 L env outer, fs = env :: outer ∧ env.frame = some L ∧ h.TracedAtW B e cls a0 (rawInt L)) ∨
  (∃ oe vs a0, h.get? e = some oe ∧ oe.cls = cls ∧ oe.data = .fields vs ∧ vs[0]? = some a0 ∧ vs[1]? = some .none)

noncomputable def Fly (W : Amb) (fs : List Env) (Ψ : Psi) (e : Addr) (c : String) (h : Heap) : Prop :=
  excNames.contains c = true ∧ ∃ B : Heap, W.h₀.StaysIn B ∧ B.StaysIn h ∧ B.get? e = none ∧ (∀ a k, Ψ a = some k → (∀ m, k ≠ .ns m) → ∃ o, B.get? a = some o) ∧ h.FunFrames B fs ∧ ExcAt B h e (.ref (W.ca c)) fs

inductive PostX (W : Amb) (fs : List Env) (Ψ : Psi) (X : String → MH → Prop) (e : Value) (s' : Shared) : Prop
  | mk (ea : Addr) (c : String) (Ψ' : Psi) (H' : MH) (he : e = .ref ea) (F : Fly W fs Ψ' ea c s'.heap) (S : St W fs Ψ' H' s') (K : Keep none_ Ψ Ψ') (q : X c H')
theorem PostX.from {W : Amb} {fs : List Env} {Ψ Ψ₁ : Psi} {X : String → MH → Prop} {e : Value} {s' : Shared} (K : Keep none_ Ψ Ψ₁) (x : PostX W fs Ψ₁ X e s') : PostX W fs Ψ X e s' := by
  cases x with | mk ea c Ψ' H' a b d k r => exact ⟨ea, c, Ψ', H', a, b, d, K.trans k, r⟩

end Mine
end
section
set_option autoImplicit false
set_option linter.unusedVariables false
namespace Mine
open PySem

noncomputable def opOf : BOp → Operator
  | .add => .Add | .sub => .Sub | .mul => .Mult | .fdiv => .FloorDiv | .mod => .Mod | .pow => .Pow

section
variable {W : Amb} {fs : List Env} {Ψ : Psi} {H : MH} {s : Shared} {A : Around} {E : Value → Shared → Prop} {Q : MV → MH → Prop}

theorem PostE.now {v : Value} {mv : MV} (S : St W fs Ψ H s) (hv : VRel Ψ v mv) (h : Q mv H) : PostE W fs Ψ Q v s := ⟨Ψ, H, mv, S, .refl _ _, hv, h⟩
theorem PostE.int {i : Int} {t n : Nat} (S : St W fs Ψ H s) (h : Q (.int i) H) : PostE W fs Ψ Q (.int i t) { s with toks := n } := .now (S.toks n) .int h

/-- a list of the ledger, as the library names it -/
inductive ListO (Ψ : Psi) (h : Heap) (a : Addr) (vs : List MV) : Prop
  | mk (items : Array Value) (n : Nat) (l : IsL h a items n) (r : All2 (VRel Ψ) items.toList vs) (z : items.size = vs.length) (b : vs.length ≤ bigList)
theorem all2_size {items : Array Value} {vs : List MV} (r : All2 (VRel Ψ) items.toList vs) : items.size = vs.length := (Array.length_toList ..).symm.trans r.length_eq
theorem St.lst (S : St W fs Ψ H s) {a : Addr} {vs : List MV} (h : H a = some (.lst vs)) : ListO Ψ s.heap a vs := by
  obtain ⟨o, ho, items, n, rfl, r, b⟩ := S.typed _ _ (S.heap a _ h)
  exact ⟨items, n, ho, r, all2_size r, b⟩
theorem IsL.isList {h : Heap} {a : Addr} {items : Array Value} {n : Nat} (x : IsL h a items n) : h.IsList a items := ⟨_, x, rfl, n, rfl⟩
inductive ListAt (Ψ : Psi) (h : Heap) (a : Addr) (vs : List MV) : Prop
  | mk (items : Array Value) (l : h.IsList a items) (r : All2 (VRel Ψ) items.toList vs) (z : items.size = vs.length) (b : vs.length ≤ bigList)
theorem St.lstAt (S : St W fs Ψ H s) {a : Addr} {vs : List MV} (h : LstAt H a vs) : ListAt Ψ s.heap a vs := by
  cases h with
  | inl e => obtain ⟨items, n, l, r, z, b⟩ := S.lst e; exact ⟨items, IsL.isList l, r, z, b⟩
  | inr e =>
    obtain ⟨o, ho, items, n, hc, hd, r, b⟩ := S.typed _ _ (S.heap a _ e)
    exact ⟨items, ⟨o, ho, hc, n, hd⟩, r, all2_size r, b⟩

/-- a new list -/
theorem PostE.placed {a : Addr} {items : Array Value} {n : Nat} {vs : List MV} {s' : Shared} (S : St W fs Ψ H s) (hk : ∀ b o, s.heap.get? b = some o → s'.heap.get? b = some o) (ha : s.heap.get? a = none) (hsys : (a == sysModules) = false)
    (hl : IsL s'.heap a items n) (hv : All2 (VRel Ψ) items.toList vs) (hb : vs.length ≤ bigList) (hg : s'.gens = s.gens) (hos : s'.os = s.os) (h : New H Q vs) : PostE W fs Ψ Q (.ref a) s' := by
  have F : ∀ {k : HK}, Ψ a = none → Fix Ψ (Ψ.set a k) := fun hn => .set_new _ hn
  have hn : Ψ a = none := by
    cases q : Ψ a with
    | none => rfl
    | some k => exact (S.typed _ _ q).elim fun o ho => nn ha ho.1
  have S' := (S.placed (s' := s') (k := .lst vs) hk ha hsys hl ⟨items, n, rfl, hv.mono fun _ _ => VRel.mono (.set_new _ hn), hb⟩ hg hos).2
  exact ⟨_, _, .ref a, S'.shown (o := .lst vs) (Psi.set_self _ _ _), .set_new _ hn, .ref, h _ (S.hNone hn)⟩
theorem PostE.newList {items : Array Value} {vs : List MV} (S : St W fs Ψ H s) (hv : All2 (VRel Ψ) items.toList vs) (hb : vs.length ≤ bigList) (h : New H Q vs) :
    PostE W fs Ψ Q (.ref s.heap.objs.size) { s with heap := s.heap.push { cls := .type "list", data := .seq items } } :=
  .placed (n := 0) S (fun _ _ => Heap.get?_push_of_some _) (Heap.get?_none_of_le (Nat.le_refl _)) S.notSysAt (Heap.get?_push_size _ rfl) hv hb rfl rfl h
theorem intBits_le {a : Int} {k : Nat} (h : a.natAbs ≤ 2 ^ k) : Builtin.Int.intBits a ≤ k + 1 := by
  unfold Builtin.Int.intBits
  split
  · (first | lia | omega)
  · rename_i hz
    have hne : a.natAbs ≠ 0 := by intro q; apply hz; simp_all
    have : Nat.log2 a.natAbs < k + 1 := (Nat.log2_lt hne).mpr (Nat.lt_of_le_of_lt h (Nat.pow_lt_pow_right (by decide) (Nat.lt_succ_self k)))
    (first | lia | omega)

theorem foldl_rep (v : Value) : ∀ (n : Nat) (acc : Array Value), (List.foldl (fun x1 x2 => x1 ++ x2) acc (List.replicate n #[v])).toList = acc.toList ++ List.replicate n v
  | 0, acc => by simp
  | n + 1, acc => by rw [List.replicate_succ, List.foldl_cons, foldl_rep v n, List.replicate_succ]; simp

theorem big_le {n : Nat} (h : n ≤ bigList) : n ≤ sizeLine := Nat.le_trans h (by decide)
theorem op_bin {op : BOp} {a b : Value} {ma mb : MV} (S : St W fs Ψ H s) (ha : VRel Ψ a ma) (hb : VRel Ψ b mb) (h : BinR H Q op ma mb) :
    wpAny W.M A (binaryOp (opOf op) a b) (PostE W fs Ψ Q) E s := by
  have ii : ∀ {x y : Int} {op : Operator}, VRel Ψ a (.int x) → VRel Ψ b (.int y) → (∀ t u, wpAny W.M A (binaryOp op (.int x t) (.int y u)) (PostE W fs Ψ Q) E s) → wpAny W.M A (binaryOp op a b) (PostE W fs Ψ Q) E s := by
    intro x y op ha hb h
    obtain ⟨t, rfl⟩ := vint ha
    obtain ⟨u, rfl⟩ := vint hb
    exact h t u
  cases h with
  | add q => exact ii ha hb fun _ _ => P.add_int (.int S q)
  | sub q => exact ii ha hb fun _ _ => P.sub_int (.int S q)
  | mul h q =>
    refine ii ha hb fun _ _ => P.mul_int (.int S q) ?_
    rcases h with h | h
    · exact .of_left (Nat.le_trans (intBits_le (k := 63) h) (Nat.le_refl _))
    · exact .of_right (Nat.le_trans (intBits_le (k := 63) h) (Nat.le_refl _))
  | fdiv h h2 q => exact ii ha hb fun _ _ => PyProof.Rows.floordiv_int h (.int S q) (.inl (PyProof.noPylong_small h2))
  | mod h q => exact ii ha hb fun _ _ => PyProof.Rows.mod_int h (.int S q)
  | @pow x y h0 h1 h2 q =>
    refine ii ha hb fun _ _ => PyProof.Rows.pow_int h0 ?_ (.int S q)
    have h3 : (Builtin.Int.intBits x : Int) ≤ 5 := Int.ofNat_le.mpr (intBits_le (a := x) (k := 4) (Nat.le_trans h2 (by decide)))
    exact Int.le_trans (Int.mul_le_mul h3 h1 h0 (by decide)) (by decide)
  | app hx hy hl q =>
    obtain rfl := vref ha
    obtain rfl := vref hb
    obtain ⟨i1, n1, l1, r1, z1, _⟩ := S.lst hx
    obtain ⟨i2, n2, l2, r2, z2, _⟩ := S.lst hy
    exact P.add_list l1 l2 (.newList S (by rw [Array.toList_append]; exact r1.append r2) (by rw [List.length_append]; exact hl) q) (by rw [z1, z2]; exact big_le hl)
  | cat hl q =>
    obtain ⟨t, rfl⟩ := vstr ha
    obtain ⟨u, rfl⟩ := vstr hb
    exact SB.add (fun t' k => .now (S.toks k) .str q) (big_le hl)
  | @rep x k v hx h0 h1 q =>
    obtain rfl := vref ha
    obtain ⟨t, rfl⟩ := vint hb
    obtain ⟨i1, n1, l1, r1, z1, _⟩ := S.lst hx
    have kb : k.toNat ≤ bigList := Int.toNat_le.mpr h1
    have hk : i1.size * k.toNat ≤ 2 ^ 24 := by rw [z1, List.length_cons, List.length_nil, Nat.zero_add, Nat.one_mul]; exact Nat.le_trans kb (by decide)
    refine wpAny_binaryOp_repeat_ref (T := "list") (U := "int") (by decide) ⟨_, l1, rfl⟩ (fun s' => typeIs_int s' k _) noFill_list_mul F.fills_int_mul F.slot_int_rmul repeat_list F.slot_int_index.lookup
      (call_meets F.slot_int_rmul (typeIs_int s k _) F.entry_int_rmul (F.args_int_rmul_2 _ _) (int___rmul___int_list k _ x i1 n1)
        ⟨l1, rfl, ⟨_, l1, rfl⟩, call_meets F.slot_list_mul ⟨_, l1, rfl⟩ F.entry_list_mul (F.args_list_mul_2 _ _)
          (AutoListH.list___mul___list_int_3 x i1 n1 k _ (by simp [Builtin.List.listFitsIndex]; unfold bigList at h1; (first | lia | omega)) (by (first | lia | omega)) (by simp [Builtin.List.listTooLong, sizeLine]; (first | lia | omega)))
          ⟨l1, ?_⟩⟩)
    refine .newList S ?_ (by rw [List.length_replicate]; exact kb) q
    obtain ⟨il⟩ := i1
    cases r1 with
    | cons hv t =>
      cases t
      rw [if_neg (by simp)]
      rw [foldl_rep]
      exact All2.replicate _ hv

/-! comparisons -/
noncomputable def copOf : COp → CmpOp
  | .eq => .Eq | .ne => .NotEq | .lt => .Lt | .le => .LtE | .gt => .Gt | .ge => .GtE | .isin => .In | .notin => .NotIn | .is_ => .Is | .isnot => .IsNot

/-- the reading of plain data -/
inductive Rd (h : Heap) (n : Nat) (v : Value) (d : PyData) : Prop
  | mk (as : List Addr) (r : Reads h v d as) (c : d.canLay0 = true) (p : d.depth ≤ n)
inductive RdAll (h : Heap) (n : Nat) (v : List Value) (d : List PyData) : Prop
  | mk (as : List Addr) (r : ReadsAll h v d as) (c : PyData.canLayAll0 d = true) (p : PyData.depthAll d ≤ n)
theorem readsAll_of {n : Nat} (ih : ∀ v mv d, VRel Ψ v mv → DR H n mv d → Rd s.heap n v d) {vs : List Value} {mvs : List MV} (h : All2 (VRel Ψ) vs mvs) : ∀ {ds : List PyData}, All2 (DR H n) mvs ds → RdAll s.heap n vs ds := by
  induction h with
  | nil => intro ds h; cases h; exact ⟨[], .nil, rfl, Nat.zero_le _⟩
  | cons hv _ IH =>
    intro ds h
    cases h with
    | cons h1 t =>
      obtain ⟨as, r, c, p⟩ := ih _ _ _ hv h1
      obtain ⟨bs, rs, c', p'⟩ := IH t
      exact ⟨_, .cons r rs, by unfold PyData.canLayAll0; rw [c, c']; rfl, Nat.max_le.mpr ⟨p, p'⟩⟩
theorem reads_of (S : St W fs Ψ H s) : ∀ (n : Nat) (v : Value) (mv : MV) (d : PyData), VRel Ψ v mv → DR H n mv d → Rd s.heap n v d := by
  intro n
  induction n with
  | zero => intro _ _ _ _ h; exact h.elim
  | succ n ih =>
    intro v mv d hv h
    cases d with
    | none => obtain rfl : mv = .none := h; obtain rfl := vnone hv; exact ⟨_, .none, rfl, Nat.zero_le _⟩
    | bool b => obtain rfl : mv = .bool b := h; obtain rfl := vbool hv; exact ⟨_, .bool _, rfl, Nat.zero_le _⟩
    | int i => obtain rfl : mv = .int i := h; obtain ⟨t, rfl⟩ := vint hv; exact ⟨_, .int _ _, rfl, Nat.zero_le _⟩
    | str x => obtain ⟨rfl, hs⟩ : mv = .str x ∧ _ := h; obtain ⟨t, rfl⟩ := vstr hv; exact ⟨_, .str _ _, hs, Nat.zero_le _⟩
    | list ds =>
      obtain ⟨a, vs, rfl, hl, hds⟩ : ∃ a vs, mv = .ref a ∧ LstAt H a vs ∧ All2 (DR H n) vs ds := h
      obtain rfl := vref hv
      obtain ⟨items, ⟨ol, l1, hc, k, hdt⟩, r1, _, _⟩ := S.lstAt hl
      obtain ⟨as, ra, c, p⟩ := readsAll_of ih r1 hds
      exact ⟨_, .list l1 hc hdt ra, c, Nat.succ_le_succ p⟩
    | tuple ds =>
      obtain ⟨vs, rfl, hds⟩ : ∃ vs, mv = .tup vs ∧ All2 (DR H n) vs ds := h
      obtain ⟨a, rfl, ha⟩ := vtup hv
      obtain ⟨o, ho, items, k, rfl, r1, _⟩ := S.typed _ _ ha
      obtain ⟨as, ra, c, p⟩ := readsAll_of ih r1 hds
      exact ⟨_, .tuple ho rfl rfl ra, c, Nat.succ_le_succ p⟩
    | _ => exact h.elim
theorem shaped_of {d : PyData} (c : d.canLay0 = true) (p : d.depth ≤ 8) : SeqAt.shaped d = true := by
  unfold SeqAt.shaped; rw [c, Bool.true_and]; exact decide_eq_true (Nat.le_trans p (by decide))
end
end Mine
end
section
set_option autoImplicit false
set_option linter.unusedVariables false
namespace Mine
open PySem

section
variable {W : Amb} {fs : List Env} {Ψ : Psi} {H : MH} {s : Shared} {A : Around} {E : Value → Shared → Prop} {Q : MV → MH → Prop}

/-- entries of a dict -/
abbrev ERel (Ψ : Psi) (p : Int × Value) (q : Int × MV) : Prop := p.1 = q.1 ∧ VRel Ψ p.2 q.2
theorem valueAt_ne {x k : Int} {v : Value} {ents : List (Int × Value)} (q : ¬ k = x) : valueAt ((x, v) :: ents) k = valueAt ents k := by
  unfold valueAt
  rw [List.find?_cons_of_neg (by simpa using fun e : x = k => q e.symm)]
theorem valueAt_dct (k : Int) {kvs : List (Int × Value)} {es : List (Int × MV)} (h : All2 (ERel Ψ) kvs es) : (valueAt kvs k = none ∧ dGet es k = none) ∨ ∃ v mv, valueAt kvs k = some v ∧ dGet es k = some mv ∧ VRel Ψ v mv := by
  induction h with
  | nil => exact .inl ⟨rfl, rfl⟩
  | @cons p q l r e _ ih =>
    obtain ⟨x, v⟩ := p
    obtain ⟨y, u⟩ := q
    obtain ⟨e1, e2⟩ := e
    obtain rfl : x = y := e1
    by_cases q : k = x
    · subst q; exact .inr ⟨v, u, by simp [valueAt], if_pos rfl, e2⟩
    · have e3 : dGet ((x, u) :: r) k = dGet r k := if_neg q
      rw [valueAt_ne q, e3]; exact ih
inductive DctAt (W : Amb) (Ψ : Psi) (h : Heap) (a : Addr) (es : List (Int × MV)) : Prop
  | mk (kvs : List (Int × Value)) (d : h.DictOf (intKind W.prog W.w) a kvs) (r : All2 (ERel Ψ) kvs es) (ns : (a == sysModules) = false)
theorem St.dct (S : St W fs Ψ H s) {a : Addr} {es : List (Int × MV)} (h : H a = some (.dct es)) : DctAt W Ψ s.heap a es := by
  have e := S.heap a _ h
  obtain ⟨o, ho, kvs, hd, r⟩ := S.typed _ _ e
  exact ⟨kvs, Heap.dictOf_iff.mpr ⟨o, ho, hd⟩, r, S.dsys _ _ e⟩
theorem dct_some {kvs : List (Int × Value)} {es : List (Int × MV)} (r : All2 (ERel Ψ) kvs es) (k : Int) : (dGet es k).isSome = (valueAt kvs k).isSome := by
  rcases valueAt_dct k r with ⟨h1, h2⟩ | ⟨v, mv, h1, h2, _⟩ <;> rw [h1, h2] <;> rfl
theorem intKey {k : Int} {t : Tok} : (intKind W.prog W.w).is k (.int k t) = true := by simp [intKind, Value.isInt]
theorem intsAre_of {vs : List Value} {is : List Int} (h : All2 (VRel Ψ) vs (is.map .int)) : PyProof.Rows.IntsAre vs is := by
  induction is generalizing vs with
  | nil => cases h; exact .nil
  | cons i is ih => cases h with | cons hv t => obtain ⟨t', rfl⟩ := vint hv; exact .cons _ _ (ih t)
theorem of_intsAre {vs : List Value} {is : List Int} (h : PyProof.Rows.IntsAre vs is) : All2 (VRel Ψ) vs (is.map .int) := by
  induction h with
  | nil => exact .nil
  | cons n t _ ih => exact .cons .int ih
theorem any_mem {x : Int} {is : List Int} : is.any (· == x) = decide (x ∈ is) := by
  induction is with
  | nil => rfl
  | cons i is ih => rw [List.any_cons, ih, List.decide_mem_cons, Bool.beq_comm]
theorem is_none {v : Value} {a : MV} (h : VRel Ψ v a) : plainIs v .none = true ∧ (v == .none) = isNil a := by cases h <;> exact ⟨rfl, rfl⟩
theorem is_tru {v : Value} {a : MV} (h : VRel Ψ v a) : plainIs v (.bool true) = true ∧ (v == .bool true) = isTru a := by
  cases h with
  | @bool b => exact ⟨rfl, by cases b <;> rfl⟩
  | _ => exact ⟨rfl, rfl⟩
theorem op_cmp {op : COp} {a b : Value} {ma mb : MV} {r : Bool} (S : St W fs Ψ H s) (ha : VRel Ψ a ma) (hb : VRel Ψ b mb) (h : CmpR H op ma mb r) (hu : A.units + 65 < cLine) (hq : Q (.bool r) H) : wpAny W.M A (compareOp (copOf op) a b) (PostE W fs Ψ Q) E s := by
  have now : PostE W fs Ψ Q (.bool r) s := .now S .bool hq
  have now1 : ∀ n, PostE W fs Ψ Q (.bool r) { s with toks := n } := fun n => .now (S.toks n) .bool hq
  have ii : ∀ {x y : Int} {op : CmpOp}, VRel Ψ a (.int x) → VRel Ψ b (.int y) → (∀ t u, wpAny W.M A (compareOp op (.int x t) (.int y u)) (PostE W fs Ψ Q) E s) → wpAny W.M A (compareOp op a b) (PostE W fs Ψ Q) E s := by
    intro x y op ha hb h
    obtain ⟨t, rfl⟩ := vint ha
    obtain ⟨u, rfl⟩ := vint hb
    exact h t u
  cases h with
  | eqi => exact ii ha hb fun _ _ => P.eq_int now
  | nei => exact ii ha hb fun _ _ => P.ne_int now
  | eqs => obtain ⟨t, rfl⟩ := vstr ha; obtain ⟨u, rfl⟩ := vstr hb; exact PyProof.Rows.eq_str now
  | nes => obtain ⟨t, rfl⟩ := vstr ha; obtain ⟨u, rfl⟩ := vstr hb; exact PyProof.Rows.ne_str now
  | eqd hx hy =>
    obtain ⟨as, ra, c1, p1⟩ := reads_of S 8 _ _ _ ha hx
    obtain ⟨bs, rb, c2, p2⟩ := reads_of S 8 _ _ _ hb hy
    exact PyProof.Rows.eq_dataH ra rb (shaped_of c1 p1) (shaped_of c2 p2) (Nat.lt_of_succ_lt hu) now
  | ned hx hy =>
    obtain ⟨as, ra, c1, p1⟩ := reads_of S 8 _ _ _ ha hx
    obtain ⟨bs, rb, c2, p2⟩ := reads_of S 8 _ _ _ hb hy
    exact PyProof.Rows.ne_dataH ra rb (shaped_of c1 p1) (shaped_of c2 p2) (Nat.lt_of_succ_lt hu) now
  | lt => exact ii ha hb fun _ _ => P.lt_int now
  | le => exact ii ha hb fun _ _ => P.le_int now
  | gt => exact ii ha hb fun _ _ => P.gt_int now
  | ge => exact ii ha hb fun _ _ => P.ge_int now
  | ind h =>
    obtain ⟨t, rfl⟩ := vint ha; obtain rfl := vref hb
    obtain ⟨kvs, d, r, ns⟩ := S.dct h
    exact wpAny_in_of (knd := intKind W.prog W.w) intKey ns d.mapOf (dct_some r _ ▸ now1 _)
  | notind h =>
    obtain ⟨t, rfl⟩ := vint ha; obtain rfl := vref hb
    obtain ⟨kvs, d, r, ns⟩ := S.dct h
    exact wpAny_notIn_of (knd := intKind W.prog W.w) intKey ns d.mapOf (dct_some r _ ▸ now1 _)
  | inl h =>
    obtain ⟨t, rfl⟩ := vint ha; obtain rfl := vref hb
    obtain ⟨items, l, r, _, _⟩ := S.lstAt h
    exact PyProof.Rows.in_list_ints (vs := items.toList) l (intsAre_of r) (by rw [any_mem]; exact now)
  | notinl h =>
    obtain ⟨t, rfl⟩ := vint ha; obtain rfl := vref hb
    obtain ⟨items, l, r, _, _⟩ := S.lstAt h
    exact PyProof.Rows.notin_list_ints (vs := items.toList) l (intsAre_of r) (by rw [any_mem]; exact now)
  | ins => obtain ⟨t, rfl⟩ := vstr ha; obtain ⟨u, rfl⟩ := vstr hb; exact SB.contains now
  | notins => obtain ⟨t, rfl⟩ := vstr ha; obtain ⟨u, rfl⟩ := vstr hb; exact SB.notContains now
  | isN => obtain rfl := vnone hb; exact wpAny_is_plain (is_none ha).1 ((is_none ha).2.symm ▸ now)
  | isnotN => obtain rfl := vnone hb; exact wpAny_isNot_plain (is_none ha).1 ((is_none ha).2.symm ▸ now)
  | isT => obtain rfl := vbool hb; exact wpAny_is_plain (is_tru ha).1 ((is_tru ha).2.symm ▸ now)

/-! items -/
theorem seqIndex_pos {k : Int} {n : Nat} (h0 : 0 ≤ k) (h : k.toNat < n) : seqIndex? k n = some k.toNat := by
  unfold seqIndex?
  have h1 : ¬ k < 0 := Int.not_lt.mpr h0
  have h2 : k < n := (Int.toNat_lt h0).mp h
  simp [h1, h0, h2]
theorem seqIndex_neg {k : Int} {n : Nat} (h0 : k < 0) (h : 0 ≤ k + n) : seqIndex? k n = some (k + n).toNat := by
  unfold seqIndex?
  have h2 : k + n < n := by (first | lia | omega)
  simp [h0, h, h2]
/-- where an index falls -/
theorem at_cases {vs : List MV} {i : Int} {x : MV} (h : atIdx vs i = some x) (hb : vs.length ≤ bigList) : ∃ j : Nat, vs[j]? = some x ∧ seqIndex? i vs.length = some j ∧ -(2 ^ 62) ≤ i ∧ i < 2 ^ 62 ∧ ((0 ≤ i ∧ j = i.toNat) ∨ (i < 0 ∧ 0 ≤ i + vs.length ∧ j = (i + vs.length).toNat)) := by
  unfold atIdx at h
  unfold bigList at hb
  split at h
  · rename_i h0
    have := (List.getElem?_eq_some_iff.mp h).1
    exact ⟨_, h, seqIndex_pos h0 this, by (first | lia | omega), by (first | lia | omega), .inl ⟨h0, rfl⟩⟩
  · split at h
    · exact ⟨_, h, seqIndex_neg (by (first | lia | omega)) (by (first | lia | omega)), by (first | lia | omega), by (first | lia | omega), .inr ⟨by (first | lia | omega), by (first | lia | omega), rfl⟩⟩
    · cases h
theorem tup_at (S : St W fs Ψ H s) {a : Addr} {vs : List MV} (h : Ψ a = some (.tup vs)) : ∃ items, PyProof.Rows.IsTup s.heap a items ∧ All2 (VRel Ψ) items.toList vs ∧ items.size = vs.length ∧ vs.length ≤ bigList := by
  obtain ⟨o, ho, items, k, rfl, r1, hb⟩ := S.typed _ _ h
  exact ⟨items, ⟨_, ho, rfl, k, rfl⟩, r1, all2_size r1, hb⟩
theorem two62 : (2 : Int) ^ 62 < 2 ^ 63 := by decide
theorem op_sub {value slice : PySem.Expr} {v i : Value} {mv mi x : MV} (S : St W fs Ψ H s) (hv : VRel Ψ v mv) (hi : VRel Ψ i mi) (h : SubR H mv mi x) (q : Q x H)
    (hs : ∀ o i, subscripted slice false o i = operate [o, i] (getItem o i)) : wpAny W.M A (PyProof.Rows.subscriptTail value slice v i) (PostE W fs Ψ Q) E s := by
  cases h with
  | @lst a vs k x hl hx =>
    obtain rfl := vref hv
    obtain ⟨t, rfl⟩ := vint hi
    obtain ⟨items, l, r, z, b⟩ := S.lstAt hl
    obtain ⟨j, hj, _, lo, hi, hc⟩ := at_cases hx b
    obtain ⟨v, hv', hr⟩ := r.get _ _ hj
    rw [Array.getElem?_toList] at hv'
    refine PyProof.Rows.tail_any (Heap.IsList.typeIs l) slot_list_getitem.lookup ?_ (hs _ _)
    rcases hc with ⟨h0, rfl⟩ | ⟨h0, h1, rfl⟩
    · exact wpAny_getItem_list l h0 (Int.lt_trans hi two62) hv' (.now S hr q)
    · rw [← z] at h1 hv'
      exact wpAny_getItem_list_neg l h0 (by (first | lia | omega)) (Int.le_trans (by decide) lo) hv' (.now S hr q)
  | tup hx =>
    obtain ⟨a, rfl, ha⟩ := vtup hv
    obtain ⟨t, rfl⟩ := vint hi
    obtain ⟨items, ht, r, z, b⟩ := tup_at S ha
    obtain ⟨j, hj, hq, lo, hi, _⟩ := at_cases hx b
    obtain ⟨v, hv', hr⟩ := r.get _ _ hj
    rw [Array.getElem?_toList] at hv'
    rw [← z] at hq
    exact PyProof.Rows.tail_any ht.typeIs PyProof.Rows.slot_tuple_getitem.lookup (PyProof.Rows.getItem_tuple ht (Int.le_trans (by decide) lo) (Int.lt_trans hi two62) hq hv' (.now S hr q)) (hs _ _)
  | @dct a es k x hd hx =>
    obtain rfl := vref hv
    obtain ⟨t, rfl⟩ := vint hi
    obtain ⟨kvs, d, r, _⟩ := S.dct hd
    rcases valueAt_dct k r with ⟨_, h2⟩ | ⟨v, mv, h1, h2, hr⟩
    · exact nn h2 hx
    · obtain rfl := Option.some.inj (h2.symm.trans hx)
      exact PyProof.Rows.tail_any d.mapOf.typeIs slot_dict_getitem.lookup (wpAny_getItem_of (knd := intKind W.prog W.w) intKey d.mapOf h1 (.now (S.toks _) hr q)) (hs _ _)
  | @str x k hk hx =>
    obtain ⟨t, rfl⟩ := vstr hv
    obtain ⟨u, rfl⟩ := vint hi
    refine PyProof.Rows.tail_any (typeIs_str _ _ _) F.slot_str_getitem.lookup (SB.getItem ?_ hx (.now (S.toks _) .str q)) (hs _ _)
    unfold fitsSsize
    obtain ⟨k1, k2⟩ := hk
    simp; (first | lia | omega)
end
end Mine
end
section
set_option autoImplicit false
set_option linter.unusedVariables false
namespace Mine
open PySem
section
variable {W : Amb} {fs : List Env} {Ψ : Psi} {H : MH} {s : Shared} {A : Around} {E : Value → Shared → Prop} {Q : MV → MH → Prop}
theorem part_of {v : Value} {mv : MV} {p : Option Int} (hv : VRel Ψ v mv) (h : OptI mv p) : IsPart v p := by
  cases h with
  | none => obtain rfl := vnone hv; exact .none
  | int => obtain ⟨t, rfl⟩ := vint hv; exact .int _ _
theorem cut_len {α : Type} {l : List α} {a b : Option Int} : (cut l a b).length ≤ l.length := Nat.le_trans (List.length_take_le' _ _) (by rw [List.length_drop]; exact Nat.sub_le _ _)
/-- the slice object stands, new, at the heap's end -/
theorem op_slice {value slice : PySem.Expr} {v lo hi : Value} {mv ml mh : MV} (S : St W fs Ψ H s) (hv : VRel Ψ v mv) (hl : VRel Ψ lo ml) (hh : VRel Ψ hi mh) (h : SliceR H Q mv ml mh)
    (hs : ∀ o i, subscripted slice false o i = operate [i, o] (getItem o i)) :
    wpAny W.M A (PyProof.Rows.subscriptTail value slice v (.ref s.heap.objs.size)) (PostE W fs Ψ Q) E { s with heap := s.heap.push { cls := .type "slice", data := .fields #[lo, hi, .none] } } := by
  have S1 : St W fs Ψ H { s with heap := s.heap.push { cls := .type "slice", data := .fields #[lo, hi, .none] } } :=
    S.of_all (fun a o e => Heap.get?_push_of_some _ e) rfl rfl
  cases h with
  | lst hv' h1 h2 q =>
    obtain rfl := vref hv
    obtain ⟨items, l, r, z, b⟩ := S1.lstAt hv'
    refine PyProof.Rows.tail_any (Heap.IsList.typeIs l) slot_list_getitem.lookup (wpAny_getItem_list_slice l (Heap.IsSliceOf.new ..) (part_of hl h1) (part_of hh h2) .none (by simp) ?_ (z ▸ big_le b)) (hs _ _)
    refine .newList S1 ?_ (Nat.le_trans cut_len b) q
    rw [slicePick_plain]
    unfold cut
    rw [z]
    exact (r.drop _).take _
  | @str x _ _ _ _ hx h1 h2 q =>
    obtain ⟨t, rfl⟩ := vstr hv
    have fin : ∀ t' k, PostE W fs Ψ Q (.str (Txt.slice x _ _) t') { s with heap := s.heap.push { cls := .type "slice", data := .fields #[lo, hi, .none] }, toks := k } := fun t' k => .now (S1.toks k) .str q
    have hz : x.length ≤ sizeLine := big_le hx
    refine PyProof.Rows.tail_any (typeIs_str _ _ _) F.slot_str_getitem.lookup ?_ (hs _ _)
    cases h1 with
    | none =>
      obtain rfl := vnone hl
      cases h2 with
      | none => obtain rfl := vnone hh; exact wpAny_getItem_str_slice (l := none) (u := none) (st := none) ⟨_, Heap.get?_push_size _ rfl, rfl, rfl⟩ rfl (post_val_or_str ⟨Nat.le_trans (Txt.slice_le x _ _) hz, fin⟩)
      | int => obtain ⟨u, rfl⟩ := vint hh; exact wpAny_getItem_str_slice (l := none) (u := some (_, u)) (st := none) ⟨_, Heap.get?_push_size _ rfl, rfl, rfl⟩ rfl (post_val_or_str ⟨Nat.le_trans (Txt.slice_le x _ _) hz, fin⟩)
    | int =>
      obtain ⟨u, rfl⟩ := vint hl
      cases h2 with
      | none => obtain rfl := vnone hh; exact wpAny_getItem_str_slice (l := some (_, u)) (u := none) (st := none) ⟨_, Heap.get?_push_size _ rfl, rfl, rfl⟩ rfl (post_val_or_str ⟨Nat.le_trans (Txt.slice_le x _ _) hz, fin⟩)
      | int => obtain ⟨u', rfl⟩ := vint hh; exact wpAny_getItem_str_slice (l := some (_, u)) (u := some (_, u')) (st := none) ⟨_, Heap.get?_push_size _ rfl, rfl, rfl⟩ rfl (post_val_or_str ⟨Nat.le_trans (Txt.slice_le x _ _) hz, fin⟩)
end
end Mine
end
section
set_option autoImplicit false
set_option linter.unusedVariables false
namespace Mine
open PySem

noncomputable def Psi.del (Ψ : Psi) (a : Addr) : Psi := fun b => if b = a then none else Ψ b
theorem Psi.del_ne (Ψ : Psi) {a b : Addr} (h : b ≠ a) : Ψ.del a b = Ψ b := if_neg h
theorem Psi.of_del {Ψ : Psi} {a b : Addr} {k : HK} (h : Ψ.del a b = some k) : b ≠ a ∧ Ψ b = some k := by
  unfold Psi.del at h; split at h
  · cases h
  · exact ⟨by assumption, h⟩

noncomputable def ItAt (Ψ : Psi) (sv : Value) (src : MV) (it : Addr) (i : Nat) : Prop := ∃ o, Ψ it = some (.raw o) ∧ match src with
  | .ref a => o.cls = .type "list_iterator" ∧ o.data = .fields #[.ref a, .int i 0]
  | .tup _ => ∃ a, sv = .ref a ∧ o.cls = .type "tuple_iterator" ∧ o.data = .fields #[.ref a, .int i 0]
  | .str x => ∃ t, o.cls = .type (strIterType x) ∧ o.data = .fields #[.str x t, .int i 0]
  | .rng a b c => o = { cls := .type "range_iterator", dict := none, data := .fields #[rawInt (a + c * i), rawInt (Builtin.Range.rangeSize a b c - i), rawInt c], slots := #[] }
  | _ => False

section
variable {W : Amb} {fs : List Env} {Ψ Ψ' : Psi} {H : MH} {s s' : Shared} {A : Around} {E : Value → Shared → Prop} {Q : MV → MH → Prop}

theorem ne31 : (3 : Nat) ≠ 1 := by decide
theorem ne32 : (3 : Nat) ≠ 2 := by decide
theorem ne35 : (3 : Nat) ≠ 5 := by decide
theorem ne30 : (3 : Nat) ≠ 0 := by decide
theorem Psi.del_sort {a b : Addr} {k k' : HK} (h : Ψ a = some k) (e : Ψ b = some k') (n : k.sort ≠ k'.sort) : Ψ.del a b = some k' := (Psi.del_ne _ (ne_of_sort h e n)).trans e
theorem fixed_sort {k : HK} (h : k.fixed = true) : k.sort = 5 := by cases k <;> first | rfl | exact absurd h Bool.noConfusion
theorem Keep.del_raw {a : Addr} {o : Obj} (h : Ψ a = some (.raw o)) : Keep (· = a) Ψ (Ψ.del a) :=
  ⟨fun b x e f => Psi.del_sort h e (fixed_sort f ▸ ne35), fun b x e _ n => (Psi.del_ne _ n).trans e, fun b m e => ⟨m, Psi.del_sort h e ne31⟩, fun b m e => ⟨m, Psi.del_sort h e ne32⟩⟩
/-- what the law can see stands for data -/
theorem HRel.keepS {a : Addr} {o : MObj} (h : HRel Ψ a o) (k : ∀ b (x : HK), Ψ b = Option.some x → (x.sort = 0 ∨ x.sort = 5) → Ψ' b = Option.some x) : HRel Ψ' a o := by
  cases o with
  | inst fs => exact h.imp fun d z => ⟨k _ _ z.1 (.inl rfl), k _ _ z.2 (.inl rfl)⟩
  | ro vs => exact k _ _ h (.inr rfl)
  | _ => exact k _ _ h (.inl rfl)
theorem sort3 {k : HK} (o : Obj) (h : k.sort = 0 ∨ k.sort = 5) : (HK.raw o).sort ≠ k.sort := h.elim (fun h => h ▸ ne30) (fun h => h ▸ ne35)

/-- something hidden goes -/
theorem St.gone (S : St W fs Ψ H s) {a : Addr} {o : Obj} (e₀ : Ψ a = some (.raw o)) (hk : Heap.ExtBut a s.heap s'.heap) (hg : s'.gens = s.gens) (ho : s'.os = s.os) : St W fs (Ψ.del a) H s' := by
  have h0 := S.fresh a _ e₀ fun _ q => HK.noConfusion q
  refine ⟨fun b k e => ?_, fun b k e hx => S.fresh b k (Psi.of_del e).2 hx, fun b x e => (S.heap b x e).keepS fun c k e q => Psi.del_sort e₀ e (sort3 o q), fun b o e => hk b o (ne_none (f := W.h₀.get?) h0 e) (S.base b o e), fun e he => ?_, hg.trans S.gens, ho.trans S.os, fun b es e => S.dsys b es (Psi.of_del e).2⟩
  · obtain ⟨hne, e⟩ := Psi.of_del e
    exact (S.typed b k e).imp fun o z => ⟨hk b o hne z.1, z.2.mono (Keep.del_raw e₀).fix⟩
  · obtain ⟨p, L, m, q, r⟩ := S.frames e he
    exact ⟨p, L, m, q, Psi.del_sort e₀ r ne31⟩

/-- an iterator goes on -/
theorem St.stepped (S : St W fs Ψ H s) {a : Addr} {o o' : Obj} (e₀ : Ψ a = some (.raw o)) (hs : Heap.SameBut a s.heap s'.heap) (ho' : s'.heap.get? a = some o') (hg : s'.gens = s.gens) (ho : s'.os = s.os) :
    St W fs (Ψ.set a (.raw o')) H s' :=
  S.turned e₀ rfl (fun m q => HK.noConfusion q) rfl hs ho' (fun b x e => (S.heap b x e).keepS fun c k e q => Psi.set_sort e₀ e (sort3 o q)) hg ho

theorem Keep.set_raw {a : Addr} {o o' : Obj} (e₀ : Ψ a = some (.raw o)) : Keep (· = a) Ψ (Ψ.set a (.raw o')) :=
  .set_own e₀ rfl rfl (fun _ q => HK.noConfusion q) (fun _ q => HK.noConfusion q)

theorem rng_at (S : St W fs Ψ H s) {r : Addr} {a b c : Int} (h : Ψ r = some (.rng a b c)) : (∃ t u v, IsRange s.heap r a b c t u v) ∧ smallI a ∧ smallI b ∧ smallI c ∧ 0 < c := by
  obtain ⟨o, ho, ⟨t, u, v, rfl⟩, q⟩ := S.typed _ _ h
  exact ⟨⟨t, u, v, ho⟩, q⟩
theorem rangeSize_le {a b c : Int} (hc : 0 < c) : 0 ≤ Builtin.Range.rangeSize a b c ∧ Builtin.Range.rangeSize a b c ≤ max (b - a) 0 := by
  unfold Builtin.Range.rangeSize
  rw [if_pos hc]
  split
  · have h1 : (b - a - 1) / c ≤ b - a - 1 := Int.ediv_le_self _ (by (first | lia | omega))
    have h2 : 0 ≤ (b - a - 1) / c := Int.ediv_nonneg (by (first | lia | omega)) (by (first | lia | omega))
    (first | lia | omega)
  · (first | lia | omega)
theorem small_of {a b c : Int} (h : smallI a ∧ smallI b ∧ smallI c ∧ 0 < c) : Builtin.Range.small a b c = true := by
  obtain ⟨⟨a1, a2⟩, ⟨b1, b2⟩, ⟨c1, c2⟩, hc⟩ := h
  obtain ⟨z1, z2⟩ := rangeSize_le (a := a) (b := b) hc
  unfold Builtin.Range.small Builtin.Range.rangeFitsLong
  simp only [Bool.and_eq_true, decide_eq_true_eq, Bool.or_eq_true, beq_iff_eq]
  refine ⟨⟨⟨⟨⟨by (first | lia | omega), by (first | lia | omega)⟩, by (first | lia | omega), by (first | lia | omega)⟩, by (first | lia | omega), by (first | lia | omega)⟩, by (first | lia | omega), by (first | lia | omega)⟩, .inr ?_⟩
  rw [if_pos hc]
  simp only [Bool.and_eq_true, decide_eq_true_eq]
  (first | lia | omega)
theorem rangeL_length (a b c : Int) : (rangeL a b c).length = (Builtin.Range.rangeSize a b c).toNat := by unfold rangeL; simp

theorem op_iter {sv : Value} {src : MV} {vs : List MV} (S : St W fs Ψ H s) (hv : VRel Ψ sv src) (he : Elems H src vs) {QQ : Value → Shared → Prop}
    (h : ∀ it Ψ' s', St W fs Ψ' H s' → Keep none_ Ψ Ψ' → Ψ it = none → (∀ b k, Ψ b = some k → Ψ' b = some k) → ItAt Ψ' sv src it 0 → QQ (.ref it) s') : wpAny W.M A (pyIter sv) QQ E s := by
  have mk : ∀ o : Obj, o.isFreed = false → (∀ Ψ' : Psi, Ψ' s.heap.objs.size = some (.raw o) → ItAt Ψ' sv src s.heap.objs.size 0) → QQ (.ref s.heap.objs.size) { s with heap := s.heap.push o } := fun o hf z =>
    h _ _ _ (S.push (s' := { s with heap := s.heap.push o }) (k := .raw o) hf rfl rfl rfl rfl) (S.pushKeep _) S.none_at (fun b k e => Psi.set_up S.none_at e) (z _ (Psi.set_self _ _ _))
  cases he with
  | lst hl =>
    obtain rfl := vref hv
    obtain ⟨items, l, r, _, _⟩ := S.lstAt hl
    exact wpAny_pyIter_list l (mk _ rfl fun Ψ' e => ⟨_, e, rfl, rfl⟩)
  | tup =>
    obtain ⟨a, rfl, ha⟩ := vtup hv
    obtain ⟨items, ht, r, _, _⟩ := tup_at S ha
    exact wpAny_pyIter_tuple ht (mk _ rfl fun Ψ' e => ⟨_, e, _, rfl, rfl, rfl⟩)
  | rng =>
    obtain ⟨x, rfl, ha⟩ := vrng hv
    obtain ⟨⟨t, u, v, hR⟩, hr⟩ := rng_at S ha
    refine wpAny_pyIter_range hR (small_of hr) (mk _ rfl fun Ψ' e => ⟨_, e, ?_⟩)
    simp
  | str =>
    obtain ⟨t, rfl⟩ := vstr hv
    exact wpAny_pyIter_strU (mk _ rfl fun Ψ' e => ⟨_, e, t, rfl, rfl⟩)

theorem next_str {prog : Program} {w : World} {it : Addr} {x : Str} {t : Tok} {i c : Nat} {Q : Option Value → Shared → Prop} (hit : s.heap.IsStrIter it (strIterType x) x t i) (hx : x.cps[i]? = some c)
    (hQ : ∀ h', h'.IsStrIter it (strIterType x) x t (i + 1) → Heap.SameBut it s.heap h' → Q (some (.str ⟨#[c]⟩ s.toks)) { s with heap := h', toks := s.toks + 1 }) : wpAny (model prog w) A (pyNext (.ref it)) Q E s := by
  unfold strIterType at hit hQ
  split at hit
  · rename_i h; rw [if_pos h] at hQ; exact wpAny_pyNext_ascii_item hit hx hQ
  · rename_i h; rw [if_neg h] at hQ; exact wpAny_pyNext_wide_item hit hx hQ
theorem done_str {prog : Program} {w : World} {it : Addr} {x : Str} {t : Tok} {i : Nat} {Q : Option Value → Shared → Prop} (hh : A.handled = none) (hit : s.heap.IsStrIter it (strIterType x) x t i) (hx : x.cps[i]? = none)
    (hQ : ∀ h', Heap.ExtBut it s.heap h' → Q none { s with heap := h' }) : wpAny (model prog w) A (pyNext (.ref it)) Q E s := by
  unfold strIterType at hit
  split at hit
  · exact wpAny_pyNext_ascii_end hh hit hx hQ
  · exact wpAny_pyNext_wide_end hh hit hx hQ
theorem op_next {sv : Value} {src : MV} {vs : List MV} {it : Addr} {i : Nat} {x : MV} (S : St W fs Ψ H s) (hv : VRel Ψ sv src) (he : Elems H src vs) (hi : ItAt Ψ sv src it i) (hx : vs[i]? = some x)
    {QQ : Option Value → Shared → Prop} (h : ∀ v Ψ' s', St W fs Ψ' H s' → Keep (· = it) Ψ Ψ' → VRel Ψ' v x → ItAt Ψ' sv src it (i + 1) → QQ (some v) s') : wpAny W.M A (pyNext (.ref it)) QQ E s := by
  obtain ⟨o, ho, hm⟩ := hi
  obtain ⟨o', hg, hraw⟩ := S.typed _ _ ho
  obtain rfl : o' = o := hraw
  have nx : ∀ {v : Value} {h' : Heap} {tk : Nat} {o2 : Obj}, VRel Ψ v x → h'.get? it = some o2 → Heap.SameBut it s.heap h' → (∀ Ψ' : Psi, Ψ' it = some (.raw o2) → ItAt Ψ' sv src it (i + 1)) → QQ (some v) { s with heap := h', toks := tk } := fun {v h' tk o2} hr e2 hs z =>
    h v _ _ (S.stepped (s' := { s with heap := h', toks := tk }) ho hs e2 rfl rfl) (Keep.set_raw ho) (hr.mono (Keep.set_raw ho).fix) (z _ (Psi.set_self _ _ _))
  cases he with
  | lst hl =>
    obtain rfl := vref hv
    obtain ⟨items, l, r, _, _⟩ := S.lstAt hl
    obtain ⟨v, hv', hr⟩ := r.get _ _ hx
    rw [Array.getElem?_toList] at hv'
    refine wpAny_pyNext_list_item ⟨_, hg, hm.1, hm.2⟩ l hv' fun h' hit hs => ?_
    obtain ⟨o2, e2, c2, d2⟩ := hit
    exact nx hr e2 hs fun Ψ' e => ⟨o2, e, c2, d2⟩
  | tup =>
    obtain ⟨a, rfl, ha⟩ := vtup hv
    obtain ⟨items, ht, r, _, _⟩ := tup_at S ha
    obtain ⟨a', e', h1, h2⟩ := hm
    obtain rfl := Value.ref.inj e'
    obtain ⟨v, hv', hr⟩ := r.get _ _ hx
    rw [Array.getElem?_toList] at hv'
    refine wpAny_pyNext_tuple_item ⟨_, hg, h1, h2⟩ ht hv' fun h' hit hs => ?_
    obtain ⟨o2, e2, c2, d2⟩ := hit
    exact nx hr e2 hs fun Ψ' e => ⟨o2, e, _, rfl, c2, d2⟩
  | @rng a b c =>
    rw [List.getElem?_map] at hx
    obtain ⟨y, hy, rfl⟩ := Option.map_eq_some_iff.mp hx
    have hlt : i < (Builtin.Range.rangeSize a b c).toNat := rangeL_length a b c ▸ (List.getElem?_eq_some_iff.mp hy).1
    unfold rangeL at hy
    rw [List.getElem?_map, List.getElem?_range hlt] at hy
    obtain rfl := Option.some.inj hy
    have hm' : o' = _ := hm
    subst hm'
    refine wpAny_pyNext_range_item hg (by (first | lia | omega)) fun h' hit hs => ?_
    refine nx .int hit hs fun Ψ' e => ⟨_, e, ?_⟩
    have e1 : a + c * ((i + 1 : Nat) : Int) = a + c * i + c := by rw [Int.natCast_add, Int.mul_add]; simp; (first | lia | omega)
    have e2 : Builtin.Range.rangeSize a b c - ((i + 1 : Nat) : Int) = Builtin.Range.rangeSize a b c - i - 1 := by (first | lia | omega)
    dsimp only
    rw [e1, e2]
  | @str y =>
    obtain ⟨t, h1, h2⟩ := hm
    rw [List.getElem?_map] at hx
    obtain ⟨c, hc, rfl⟩ := Option.map_eq_some_iff.mp hx
    rw [Array.getElem?_toList] at hc
    refine next_str ⟨_, hg, h1, h2⟩ hc fun h' hit hs => ?_
    obtain ⟨o2, e2, c2, d2⟩ := hit
    exact nx .str e2 hs fun Ψ' e => ⟨o2, e, t, c2, d2⟩

theorem op_done {sv : Value} {src : MV} {vs : List MV} {it : Addr} {i : Nat} (hh : A.handled = none) (S : St W fs Ψ H s) (hv : VRel Ψ sv src) (he : Elems H src vs) (hi : ItAt Ψ sv src it i) (hx : vs[i]? = none)
    {QQ : Option Value → Shared → Prop} (h : ∀ Ψ' s', St W fs Ψ' H s' → Keep (· = it) Ψ Ψ' → QQ none s') : wpAny W.M A (pyNext (.ref it)) QQ E s := by
  obtain ⟨o, ho, hm⟩ := hi
  obtain ⟨o', hg, hraw⟩ := S.typed _ _ ho
  obtain rfl : o' = o := hraw
  have fin : ∀ h', Heap.ExtBut it s.heap h' → QQ none { s with heap := h' } := fun h' hs => h _ _ (S.gone (s' := { s with heap := h' }) ho hs rfl rfl) (Keep.del_raw ho)
  cases he with
  | lst hl =>
    obtain rfl := vref hv
    obtain ⟨items, l, r, z, _⟩ := S.lstAt hl
    exact wpAny_pyNext_list_end hh ⟨_, hg, hm.1, hm.2⟩ l (by rw [Array.getElem?_eq_none_iff, z]; exact List.getElem?_eq_none_iff.mp hx) fin
  | tup =>
    obtain ⟨a, rfl, ha⟩ := vtup hv
    obtain ⟨items, ht, r, z, _⟩ := tup_at S ha
    obtain ⟨a', e', h1, h2⟩ := hm
    obtain rfl := Value.ref.inj e'
    exact wpAny_pyNext_tuple_end hh ⟨_, hg, h1, h2⟩ ht (by rw [Array.getElem?_eq_none_iff, z]; exact List.getElem?_eq_none_iff.mp hx) fin
  | @rng a b c =>
    have hlt : (Builtin.Range.rangeSize a b c).toNat ≤ i := by have := List.getElem?_eq_none_iff.mp hx; rwa [List.length_map, rangeL_length] at this
    have hm' : o' = _ := hm
    subst hm'
    exact wpAny_pyNext_range_end hh hg (by (first | lia | omega)) fin
  | str =>
    obtain ⟨t, h1, h2⟩ := hm
    have hx := List.getElem?_eq_none_iff.mp hx
    rw [List.length_map, Array.length_toList] at hx
    exact done_str hh ⟨_, hg, h1, h2⟩ (Array.getElem?_eq_none_iff.mpr hx) fin
end
end Mine
end
section
set_option autoImplicit false
set_option linter.unusedVariables false
namespace Mine
open PySem PyProof.Rows

/-! a row that ascends is one run -/
theorem minRun_le : ∀ (f n r : Nat), minRun' f n r ≤ n + r
  | 0, n, r => Nat.le_refl _
  | f + 1, n, r => by
    rw [minRun'_succ]
    split
    · exact Nat.le_refl _
    · have := minRun_le f (n / 2) (max r (n % 2))
      (first | lia | omega)
section
variable {prog : Program} {w : World} {A : Around} {E : Value → Shared → Prop} {s : Shared} {a₀ : Array Keyed}
theorem runs_asc {st : SortSt} {Q : Unit → SortSt → Prop} (h0 : IntKeys a₀) (hB : SBase a₀ st) (h2 : 2 ≤ a₀.size) (hs : SortedTo (arrOf st) a₀.size)
    (h : ∀ st', (arrOf st').Perm a₀ → failedOf st' = none → SortedTo (arrOf st') a₀.size → Q () st') : wpS (model prog w) A E s sortRuns' Q st := by
  rw [sortRuns'_eq]
  refine wpS_bind (wpS_get ?_)
  dsimp only
  have hmr : ¬ a₀.size < minRun' a₀.size a₀.size 0 := Nat.not_lt.mpr (minRun_le _ _ _)
  simp only [hB.size]
  refine wpS_bind (wpS_mono (wpS_forRange (I := fun x c st' => (x = 0 ∧ c = (none, 0) ∧ st' = st) ∨ (1 ≤ x ∧ c = (none, a₀.size) ∧ SDone a₀ st')) (Q := fun c st' => c = (none, a₀.size) ∧ SDone a₀ st') ?_ ?_ (.inl ⟨rfl, rfl, rfl⟩)) ?_)
  · rintro x c st' _ hx (⟨rfl, rfl, rfl⟩ | ⟨_, rfl, hD⟩)
    · dsimp only
      rw [if_neg (Nat.not_le.mpr hx)]
      simp only [Nat.sub_zero, Nat.zero_add]
      rw [countRun0_eq]
      refine wpS_bind (wpS_bind (wpS_ascLoop h0 (Nat.le_refl _) (Nat.le_refl 1) (Nat.le_of_lt h2) hB (fun i j hij hj => hs i j hij (Nat.lt_of_lt_of_le hj (Nat.le_of_lt h2))) fun n hn1 hn2 hsn hor => ?_))
      obtain rfl : n = a₀.size := by
        rcases hor with q | q
        · exact q
        · by_cases hlt : n < a₀.size
          · exact absurd (hs (n - 1) n (Nat.sub_le _ _) hlt) (Int.not_le.mpr q)
          · exact Nat.le_antisymm hn2 (Nat.not_lt.mp hlt)
      dsimp only
      rw [if_pos (beq_self_eq_true _)]
      refine wpS_pure ?_
      dsimp only
      rw [if_neg hmr]
      refine wpS_bind (wpS_get ?_)
      have hb : (pendingOf st').back? = none := by rw [hB.pend]; rfl
      rw [hb]
      dsimp only
      exact wpS_bind (wpS_modify (wpS_pure (.inr ⟨Nat.le_refl _, rfl, hB.done hs⟩)))
    · dsimp only
      rw [if_pos (Nat.le_refl _)]
      exact wpS_pure ⟨rfl, hD⟩
  · rintro c st' (⟨hx, _, _⟩ | ⟨_, hc, hD⟩)
    · exact absurd hx (by (first | lia | omega))
    · exact ⟨hc, hD⟩
  · rintro c st' ⟨rfl, hD⟩
    dsimp only
    refine wpS_bind (wpS_mono (wpS_forRange (I := fun _ c st'' => st'' = st' ∧ c = (none, ())) (Q := fun c st'' => st'' = st' ∧ c = (none, ())) ?_ (fun _ _ hh => hh) ⟨rfl, rfl⟩) ?_)
    · rintro x c st'' _ _ ⟨rfl, rfl⟩
      refine wpS_bind (wpS_get ?_)
      rw [if_pos (by rw [hD.2.2.1]; exact Nat.le_refl 1)]
      exact wpS_pure ⟨rfl, rfl⟩
    · rintro c st'' ⟨rfl, rfl⟩
      exact wpS_pure (h _ hD.1 hD.2.1 hD.2.2.2)
theorem pairs_asc {vs : List Value} {ns : List Int} (hI : IntsAre vs ns) (ha : ns.Pairwise (· ≤ ·)) : SortedTo (pairsOf vs) (pairsOf vs).size := by
  intro i j hij hj
  have hj' := hj
  rw [pairsOf_size] at hj'
  have e : ∀ k, k < vs.length → ∃ h : k < ns.length, K (pairsOf vs) k = ns[k] := fun k hk => by
    have hn := hI.nums
    have hl : k < ns.length := by rw [← hn, List.length_map]; exact hk
    refine ⟨hl, ?_⟩
    rw [K_eq (by rw [pairsOf_size]; exact hk)]
    simp only [← hn, List.getElem_map, pairsOf, Array.getElem_zip, List.getElem_toArray]
  obtain ⟨l1, e1⟩ := e i (Nat.lt_of_le_of_lt hij hj')
  obtain ⟨l2, e2⟩ := e j hj'
  rw [e1, e2]
  rcases Nat.lt_or_eq_of_le hij with q | q
  · exact List.pairwise_iff_getElem.mp ha i j l1 l2 q
  · subst q; exact Int.le_refl _
theorem sort_asc {a : Addr} {vs : List Value} {ns : List Int} {n : Nat} {P : Fin → Shared → Prop} (ho : s.heap.get? a = some (seqObj "list" vs.toArray n)) (hI : IntsAre vs ns) (hasc : ns.Pairwise (· ≤ ·)) (hz : vs.length ≤ sizeLine)
    (h : ∀ out : Array Value, IntsAre out.toList ns → P (.done (.ret .none)) { s with heap := sortedHeap s.heap a vs out }) : wpAny (model prog w) A (Builtin.«list.sort» ⟨[.ref a], []⟩) P E s := by
  rw [list_sort_plain]
  have ha : a < s.heap.objs.size := Heap.lt_size ho
  refine wpAny_bind (listItems_at ho rfl ?_)
  refine wpAny_bind (listUpdate_at ho rfl ?_ (by rw [List.size_toArray]; exact hz) (Nat.zero_le _))
  obtain ⟨e1, ho1⟩ : ∃ e1, (s.heap.update a (Obj.mapSeq fun _ => #[])).get? a = some (seqObj "list" #[] e1) := ⟨_, get?_update_seq ho (fun _ => #[])⟩
  refine wpAny_bind (seqEpoch_at ho1 rfl ?_)
  refine wpAny_bind (wpAny_newTuple ?_)
  refine wpAny_bind (wpAny_newList ?_)
  refine wpAny_holding ?_
  have ho6 : (((s.heap.update a (Obj.mapSeq fun _ => #[])).push (seqObj "tuple" vs.toArray 0)).push (seqObj "list" #[] 0)).get? a = some (seqObj "list" #[] e1) := by
    rw [Heap.get?_push_ne _ _ _ (by rw [size_push', Heap.size_update]; exact Nat.ne_of_lt (Nat.lt_succ_of_lt ha)), Heap.get?_push_ne _ _ _ (by rw [Heap.size_update]; exact Nat.ne_of_lt ha)]
    exact ho1
  show wpAny (model prog w) A _ P E { s with heap := ((s.heap.update a (Obj.mapSeq fun _ => #[])).push (seqObj "tuple" vs.toArray 0)).push (seqObj "list" #[] 0) }
  dsimp only
  have fin : ∀ st' : SortSt, (arrOf st').Perm (pairsOf vs) → SortedTo (arrOf st') (pairsOf vs).size → P (.done (.ret .none)) { s with heap := sortedHeap s.heap a vs ((arrOf st').map (·.2)) } := by
    intro st' hp hs
    obtain ⟨ns', h1, h2, h3⟩ := sorted_out hI hp hs
    obtain rfl : ns' = ns := h2.eq_of_pairwise (fun x y _ _ p q => Int.le_antisymm p q) h3 hasc
    exact h _ h1
  have sz : ∀ st' : SortSt, (arrOf st').Perm (pairsOf vs) → ((arrOf st').map (·.2)).size ≤ sizeLine + 1 := fun st' hp => by
    rw [Array.size_map, hp.size_eq, pairsOf_size]; exact Nat.le_succ_of_le hz
  by_cases h2 : vs.toArray.size < 2
  · rw [if_pos h2, if_pos h2]
    refine wpAny_bind (wpAny_pure ?_)
    rw [StateT.run_pure]
    refine wpAny_bind (wpAny_pure ?_)
    dsimp only
    refine wpAny_bind (seqEpoch_at ho6 rfl ?_)
    refine wpAny_bind (listUpdate_at ho6 rfl ?_ (Nat.zero_le _) (sz (SortSt.mk' general' (vs.toArray.zip vs.toArray) #[] 7 none) (Array.Perm.refl _)))
    simp only [bne_self_eq_false, Bool.false_eq_true, if_false]
    exact wpAny_pure (fin (SortSt.mk' general' (vs.toArray.zip vs.toArray) #[] 7 none) (Array.Perm.refl _) (pairs_asc hI hasc))
  · rw [if_neg h2, if_neg h2]
    obtain ⟨v₁, v₂, rest, rfl⟩ : ∃ v₁ v₂ rest, vs = v₁ :: v₂ :: rest := by
      match vs, h2 with
      | [], h2 => simp at h2
      | [_], h2 => simp at h2
      | v₁ :: v₂ :: rest, _ => exact ⟨v₁, v₂, rest, rfl⟩
    rw [keyKind_ints hI]
    refine wpAny_bind (wpAny_pure ?_)
    refine wpAny_bind (wpAny_mono (runs_asc (a₀ := pairsOf (v₁ :: v₂ :: rest)) (st := SortSt.mk' oneType' ((v₁ :: v₂ :: rest).toArray.zip (v₁ :: v₂ :: rest).toArray) #[] 7 none)
      (Q := fun _ st' => (arrOf st').Perm (pairsOf (v₁ :: v₂ :: rest)) ∧ failedOf st' = none ∧ SortedTo (arrOf st') (pairsOf (v₁ :: v₂ :: rest)).size)
      hI.intKeys ⟨Array.Perm.refl _, rfl, rfl, rfl⟩ (by rw [pairsOf_size]; simp) (pairs_asc hI hasc) fun st' a1 a2 a3 => ⟨a1, a2, a3⟩) ?_ fun _ _ e => e)
    rintro ⟨⟨⟩, st'⟩ s' ⟨rfl, hp, hf, hs⟩
    dsimp only
    refine wpAny_bind (seqEpoch_at ho6 rfl ?_)
    refine wpAny_bind (listUpdate_at ho6 rfl ?_ (Nat.zero_le _) (sz st' hp))
    rw [hf]
    simp only [bne_self_eq_false, Bool.false_eq_true, if_false]
    exact wpAny_pure (fin st' hp hs)
theorem sorted_asc {l : Addr} {vs : List Value} {ns : List Int} {Q : Value → Shared → Prop} (hl : s.heap.IsList l vs.toArray) (hI : IntsAre vs ns) (hasc : ns.Pairwise (· ≤ ·)) (hz : vs.length ≤ sizeLine)
    (h : ∀ out : Array Value, IntsAre out.toList ns → Q (.ref (s.heap.objs.size + 1)) { s with heap := sortedAll s.heap vs out }) : wpAny (model prog w) A (call (.builtin "sorted") [.ref l]) Q E s := by
  refine Calls.call_function_entry kind_sorted plain_sorted entry_sorted (args_sorted1 _) ?_
  unfold Builtin.«sorted»
  refine wpAny_bind (m := checkCount "sorted" 1 1 _) (wpAny_pure ?_)
  refine wpAny_bind (collect_list hl ?_ hz)
  refine wpAny_bind (wpAny_newList ?_)
  have hsz : ((s.heap.push (seqObj "list" #[] 0)).update s.heap.objs.size (Obj.mapSeq (· ++ vs.toArray))).objs.size = s.heap.objs.size + 1 := by rw [Heap.size_update, size_push']
  have hoL : (((s.heap.push (seqObj "list" #[] 0)).update s.heap.objs.size (Obj.mapSeq (· ++ vs.toArray))).push (seqObj "list" vs.toArray 0)).get? (s.heap.objs.size + 1) = some (seqObj "list" vs.toArray 0) := by rw [← hsz]; exact Heap.get?_push_size _ rfl
  show wpAny _ _ _ _ _ { s with heap := ((s.heap.push (seqObj "list" #[] 0)).update s.heap.objs.size (Obj.mapSeq (· ++ vs.toArray))).push (seqObj "list" vs.toArray 0) }
  rw [hsz]
  refine wpAny_bind (wpAny_holding (wpAny_call_entry slot_list_sort ⟨_, hoL, rfl⟩ entry_list_sort (sort_asc hoL hI hasc hz fun out a1 => ⟨_, rfl, ?_⟩) (args_list_sort _)))
  exact wpAny_pure ⟨_, rfl, h out a1⟩
end
end Mine
end
section
set_option autoImplicit false
set_option linter.unusedVariables false
namespace Mine
open PySem

section
variable {W : Amb} {fs : List Env} {Ψ Ψ' : Psi} {H : MH} {s s' : Shared} {A : Around} {E : Value → Shared → Prop} {Q : MV → MH → Prop}

/-- a new list at the end of a heap that has grown -/
theorem PostE.grown {a : Addr} {items : Array Value} {n : Nat} {vs : List MV} {h' : Heap} {tk : Nat} (S : St W fs Ψ H s) (hk : ∀ b o, s.heap.get? b = some o → h'.get? b = some o) (ha : s.heap.objs.size ≤ a)
    (hl : IsL h' a items n) (hv : All2 (VRel Ψ) items.toList vs) (hb : vs.length ≤ bigList) (h : New H Q vs) : PostE W fs Ψ Q (.ref a) { s with heap := h', toks := tk } :=
  .placed (s' := { s with heap := h', toks := tk }) S hk (Heap.get?_none_of_le ha) (W.big.elim fun _ x => x.elim fun _ y => beq_eq_false_iff_ne.mpr (Nat.ne_of_gt (Nat.lt_of_lt_of_le (Nat.lt_trans y.1 (Heap.lt_size (S.base _ _ y.2))) ha))) hl hv hb rfl rfl h
theorem PostE.same {v : Value} {mv : MV} {h' : Heap} {tk : Nat} (S : St W fs Ψ H s) (hk : ∀ b o, s.heap.get? b = some o → h'.get? b = some o) (hv : VRel Ψ v mv) (h : Q mv H) : PostE W fs Ψ Q v { s with heap := h', toks := tk } :=
  .now (S.of_all (s' := { s with heap := h', toks := tk }) hk rfl rfl) hv h
theorem bools_of {vs : List Value} {bs : List Bool} (h : All2 (VRel Ψ) vs (bs.map .bool)) : vs = bs.map Value.bool := by
  induction bs generalizing vs with
  | nil => cases h; rfl
  | cons i is ih => cases h with | cons hv t => obtain rfl := vbool hv; rw [ih t]; rfl

noncomputable def biVal : String → Value
  | "range" => .type "range"
  | "list" => .type "list"
  | "str" => .type "str"
  | "int" => .type "int"
  | b => .builtin b

theorem all2_1 {α β : Type} {R : α → β → Prop} {l : List α} {b : β} (h : All2 R l [b]) : ∃ a, l = [a] ∧ R a b := by
  cases h with | cons h t => cases t; exact ⟨_, rfl, h⟩
theorem all2_2 {α β : Type} {R : α → β → Prop} {l : List α} {b c : β} (h : All2 R l [b, c]) : ∃ a a', l = [a, a'] ∧ R a b ∧ R a' c := by
  cases h with | cons h t => obtain ⟨a', rfl, h'⟩ := all2_1 t; exact ⟨_, _, rfl, h, h'⟩
theorem arg_ref {l : List Value} {a : Addr} (h : All2 (VRel Ψ) l [.ref a]) : l = [.ref a] := by obtain ⟨v, rfl, h1⟩ := all2_1 h; rw [vref h1]
theorem arg_int {l : List Value} {a : Int} (h : All2 (VRel Ψ) l [.int a]) : ∃ t, l = [.int a t] := by obtain ⟨v, rfl, h1⟩ := all2_1 h; obtain ⟨t, rfl⟩ := vint h1; exact ⟨t, rfl⟩
theorem arg_ints {l : List Value} {a b : Int} (h : All2 (VRel Ψ) l [.int a, .int b]) : ∃ t u, l = [.int a t, .int b u] := by
  obtain ⟨v, v', rfl, h1, h2⟩ := all2_2 h; obtain ⟨t, rfl⟩ := vint h1; obtain ⟨u, rfl⟩ := vint h2; exact ⟨t, u, rfl⟩

theorem arg_int3 {l : List Value} {a b c : Int} (h : All2 (VRel Ψ) l [.int a, .int b, .int c]) : ∃ t u v, l = [.int a t, .int b u, .int c v] := by
  cases h with | cons h t => obtain ⟨x, rfl⟩ := vint h; obtain ⟨u, v, rfl⟩ := arg_ints t; exact ⟨_, _, _, rfl⟩
theorem newRange {a b c : Int} {t u v : Tok} {tk : Nat} (S : St W fs Ψ H s) (hs : smallI a ∧ smallI b ∧ smallI c ∧ 0 < c) (h : Q (.rng a b c) H) :
    PostE W fs Ψ Q (.ref s.heap.objs.size) { s with heap := s.heap.push { cls := .type "range", data := .fields #[.int a t, .int b u, .int c v] }, toks := tk } :=
  ⟨_, H, .rng a b c, S.push (s' := { s with heap := s.heap.push { cls := .type "range", data := .fields #[.int a t, .int b u, .int c v] }, toks := tk }) (k := .rng a b c) rfl ⟨⟨t, u, v, rfl⟩, hs⟩ rfl rfl rfl,
    S.pushKeep _, .rng (Psi.set_self _ _ _), h⟩
theorem small0 : smallI 0 := ⟨by decide, by decide⟩
theorem small1 : smallI 1 := ⟨by decide, by decide⟩

/-- all of a row of truths -/
theorem all_getD (bs : List Bool) : (List.range bs.length).all (fun i => bs.getD i false) = bs.all id := by
  induction bs with
  | nil => rfl
  | cons b bs ih => rw [List.length_cons, List.range_succ_eq_map, List.all_cons, List.all_map, List.all_cons, ← ih]; rfl
theorem bi_all {a : Addr} {bs : List Bool} (S : St W fs Ψ H s) (hh : A.handled = none) (hl : LstAt H a (bs.map .bool)) (h : Q (.bool (bs.all id)) H) : wpAny W.M A (call (.builtin "all") [.ref a]) (PostE W fs Ψ Q) E s := by
  obtain ⟨items, l1, r1, z, _⟩ := S.lstAt hl
  have e := bools_of r1
  rw [List.length_map] at z
  have hne : a ≠ s.heap.objs.size := Nat.ne_of_lt (l1.elim fun _ q => Heap.lt_size q.1)
  refine call_all_walk (wpAny_pyIter_list l1 ⟨_, _, _, _, _, _, fun i => bs.getD i false, rfl, Walks.list (A := A.in1) hh _ a hne items, ⟨⟨_, Heap.get?_push_size _ rfl, rfl, rfl⟩, l1.push _⟩, ?_, ?_⟩)
  · intro i v s2 QQ EE hP hQ
    have : items.toList[i]? = some v := (Array.getElem?_toList ..).trans hP
    rw [e, List.getElem?_map] at this
    obtain ⟨b, hb', rfl⟩ := Option.map_eq_some_iff.mp this
    have hQ' : QQ (bs.getD i false) s2 := hQ
    rw [List.getD_eq_getElem?_getD, hb'] at hQ'
    exact wpAny_truthy_bool hQ'
  · intro h' tk hk
    rw [z, all_getD]
    show PostE W fs Ψ Q _ { s with heap := h', toks := tk }
    exact .same S (fun b o e => hk b o (fun q => Nat.ne_of_lt (Heap.lt_size e) (List.mem_singleton.mp q)) (Heap.get?_push_of_some _ e)) .bool h
theorem keys_of : ∀ (l : List Value) (kvs : List (Int × Value)) (es : List (Int × MV)), l.length = kvs.length → All2 (ERel Ψ) kvs es →
    (∀ (j : Nat) (v : Value), l[j]? = some v → ∃ k x, kvs[j]? = some (k, x) ∧ (intKind W.prog W.w).is k v = true) → All2 (VRel Ψ) l (es.map fun e => MV.int e.1) := by
  intro l kvs es hl r
  induction r generalizing l with
  | nil => intro _; cases l with | nil => exact .nil | cons _ _ => cases hl
  | @cons p q kvs es h1 _ ih =>
    intro hv
    cases l with
    | nil => cases hl
    | cons v l =>
      obtain ⟨k, x, e1, e2⟩ := hv 0 v rfl
      obtain rfl := Option.some.inj e1
      obtain ⟨t', rfl⟩ := Value.isInt_shape e2
      refine .cons ?_ (ih l (Nat.succ.inj hl) fun j v' e => hv (j + 1) v' e)
      show VRel Ψ (.int k t') (.int q.1)
      rw [← h1.1]; exact .int
theorem bi_listD {a : Addr} {es : List (Int × MV)} (S : St W fs Ψ H s) (hh : A.handled = none) (hl : H a = some (.dct es)) (hb : es.length ≤ bigList) (h : New H Q (es.map fun e => .int e.1)) : wpAny W.M A (call (.type "list") [.ref a]) (PostE W fs Ψ Q) E s := by
  obtain ⟨kvs, d, r, ns⟩ := S.dct hl
  obtain ⟨ep, hda⟩ := d.dictAt
  refine PySem.W.kdl_call (PySem.W.kdl_dict ns) hh hda (by rw [r.length_eq]; exact big_le hb) fun h' tk acc' c' hk hS hacc => ?_
  exact .grown S hk (Nat.le_refl _) hS (keys_of _ _ _ (by rw [Array.length_toList]; exact hacc.1) r fun j v e => hacc.2 j v (by rw [← Array.getElem?_toList]; exact e)) (by rw [List.length_map]; exact hb) h

theorem all2_get {α β : Type} {R : α → β → Prop} : ∀ {l : List α} {r : List β}, l.length = r.length → (∀ (j : Nat) a b, l[j]? = some a → r[j]? = some b → R a b) → All2 R l r
  | [], [], _, _ => .nil
  | a :: l, b :: r, h, k => .cons (k 0 a b rfl rfl) (all2_get (Nat.succ.inj h) fun j a b e1 e2 => k (j + 1) a b e1 e2)
theorem bi_listR {x : Addr} {a b : Int} (S : St W fs Ψ H s) (hh : A.handled = none) (hl : Ψ x = some (.rng a b 1)) (hb : (rangeL a b 1).length ≤ bigList) (h : New H Q ((rangeL a b 1).map .int)) : wpAny W.M A (call (.type "list") [.ref x]) (PostE W fs Ψ Q) E s := by
  obtain ⟨⟨t, u, v, hr⟩, hs⟩ := rng_at S hl
  have hn := (rangeSize_le (a := a) (b := b) hs.2.2.2).1
  have hb' := big_le hb
  rw [rangeL_length] at hb'
  refine call_list_range hh hr (small_of hs) (Int.toNat_of_nonneg hn).symm hb' fun h' tk acc' c' hk hS hacc => ?_
  refine .grown S hk (Nat.le_refl _) hS ?_ (by rw [List.length_map]; exact hb) h
  refine all2_get (by rw [List.length_map, rangeL_length, Array.length_toList]; exact hacc.1) fun j y z e1 e2 => ?_
  obtain ⟨t', rfl⟩ := hacc.2 j y (by rw [← Array.getElem?_toList]; exact e1)
  rw [List.getElem?_map] at e2
  obtain ⟨i, hi, rfl⟩ := Option.map_eq_some_iff.mp e2
  unfold rangeL at hi
  rw [List.getElem?_map] at hi
  obtain ⟨m, hm, rfl⟩ := Option.map_eq_some_iff.mp hi
  obtain ⟨hm1, hm2⟩ := List.getElem?_eq_some_iff.mp hm
  rw [List.getElem_range] at hm2
  subst hm2
  rw [Int.mul_one, Int.one_mul]
  exact .int
theorem bi_max {a : Addr} {is : List Int} {m : Int} (S : St W fs Ψ H s) (hh : A.handled = none) (hl : LstAt H a (is.map .int)) (hm : m ∈ is) (hx : ∀ i ∈ is, i ≤ m) (h : Q (.int m) H) : wpAny W.M A (call (.builtin "max") [.ref a]) (PostE W fs Ψ Q) E s := by
  obtain ⟨items, l1, r1, z, _⟩ := S.lstAt hl
  have hI := intsAre_of r1
  obtain ⟨xs, e⟩ := hI.allInts.items
  have hns : is = xs.toList.map (·.1) := by rw [← hI.numsOf, ← nums_intItems, ← e]
  have hln : is.length = xs.size := by rw [hns, List.length_map, Array.length_toList]
  have hsz : 0 < xs.size := hln ▸ List.length_pos_of_mem hm
  have l2 : s.heap.IsList a (intItems xs) := by rw [← e]; exact l1
  refine max_intList hh l2 hsz fun v h' tk hv' hk => ?_
  obtain ⟨t, rfl⟩ := intItems_at hv'
  obtain ⟨g1, g2⟩ := argBest_gt (numAt xs) (xs.size - 1)
  obtain ⟨j, hj, hj'⟩ := PySem.mem_getD (hns ▸ hm)
  rw [List.length_map, Array.length_toList] at hj
  have m3 := g2 j (Nat.le_sub_one_of_lt hj)
  have hlt : argBest (fun i j => decide (numAt xs i > numAt xs j)) (xs.size - 1) < is.length := by (first | lia | omega)
  have m2 := hx _ (PySem.getD_mem hlt)
  rw [PySem.numAt_eq, PySem.numAt_eq, ← hns] at m3
  rw [← hns] at hj'
  rw [hj'] at m3
  rw [PySem.numAt_eq, ← hns, Int.le_antisymm m2 m3]
  exact .same S hk .int h

theorem ints_all2 {l : List Value} {is : List Int} (h : PyProof.Rows.IntsAre l is) : All2 (VRel Ψ) l (is.map .int) := by
  induction h with
  | nil => exact .nil
  | cons _ _ _ ih => exact .cons .int ih
theorem op_bi {hd : Bool} {b : String} {args : List Value} {vs : List MV} (S : St W fs Ψ H s) (hv : All2 (VRel Ψ) args vs) (hh : hd = false → A.handled = none) (h : BiR hd H Q b vs) :
    wpAny W.M A (call (biVal b) args) (PostE W fs Ψ Q) E s := by
  cases h with
  | lenL h q =>
    obtain rfl := arg_ref hv
    obtain ⟨items, l, r, z, b⟩ := S.lstAt h
    exact Calls.call_len_list l (by rw [z]; unfold bigList at b; (first | lia | omega)) (z.symm ▸ .int S q)
  | lenT q =>
    obtain ⟨v, rfl, h1⟩ := all2_1 hv
    obtain ⟨a, rfl, h2⟩ := vtup h1
    obtain ⟨items, ht, r, z, b⟩ := tup_at S h2
    exact PyProof.Rows.len_tuple ht (by rw [z]; unfold bigList at b; (first | lia | omega)) (z.symm ▸ .int S q)
  | range1 h q => obtain ⟨t, rfl⟩ := arg_int hv; exact call_range_1 (newRange S ⟨small0, h, small1, by decide⟩ q)
  | range2 h0 h q => obtain ⟨t, u, rfl⟩ := arg_ints hv; exact call_range_2 (newRange S ⟨h0, h, small1, by decide⟩ q)
  | @min2 a b h q =>
    obtain ⟨t, u, rfl⟩ := arg_ints hv
    refine min_two_ints (hh h) fun h' tk hk => .same (mv := .int (minI a b)) S hk ?_ q
    unfold minI; split <;> exact .int
  | @max2 a b h q =>
    obtain ⟨t, u, rfl⟩ := arg_ints hv
    refine max_two_ints (hh h) fun h' tk hk => .same (mv := .int (maxI a b)) S hk ?_ q
    unfold maxI; split <;> exact .int
  | maxL h hl hm hx q => obtain rfl := arg_ref hv; exact bi_max S (hh h) hl hm hx q
  | allL h hl q => obtain rfl := arg_ref hv; exact bi_all S (hh h) hl q
  | listL h hl q =>
    obtain rfl := arg_ref hv
    obtain ⟨items, ⟨ol, l1, hc, n, hdt⟩, r1, z, b⟩ := S.lstAt hl
    exact call_list_seq _ (.inl rfl) l1 hc hdt (fun h' c' hk hS => .grown (tk := s.toks) S hk (Nat.le_refl _) hS r1 b q) (z ▸ big_le b)
  | sortedL hl ha q =>
    obtain rfl := arg_ref hv
    obtain ⟨items, l1, r1, z, b⟩ := S.lstAt hl
    refine sorted_asc (vs := items.toList) (by rw [Array.toArray_toList]; exact l1) (intsAre_of r1) ha (by rw [Array.length_toList, z]; exact big_le b) fun out ho => ?_
    obtain ⟨e, he⟩ := PyProof.Rows.sortedAll_at s.heap items.toList out
    exact .grown (tk := s.toks) S (fun _ _ => PyProof.Rows.sortedAll_old) (Nat.le_succ _) he (ints_all2 ho) b q
  | listD h hl hb q => obtain rfl := arg_ref hv; exact bi_listD S (hh h) hl hb q
  | lenS hl q => obtain ⟨v, rfl, h1⟩ := all2_1 hv; obtain ⟨t, rfl⟩ := vstr h1; exact P.len_str (by unfold bigList at hl; (first | lia | omega)) (.now (S.toks _) .int q)
  | @strI i h q =>
    obtain ⟨t, rfl⟩ := arg_int hv
    refine P.str_of_int ?_ (.now (S.toks _) .str q)
    by_cases z : i.natAbs = 0
    · rw [z]; decide
    · exact Nat.lt_trans ((Nat.log2_lt z).mpr h) (by decide)
  | intS hl hn q => obtain ⟨v, rfl, h1⟩ := all2_1 hv; obtain ⟨t, rfl⟩ := vstr h1; exact PySem.W.KIN.call_text hn hl (.now (S.toks _) .int q)
  | @range3 a b c h0 h1 h2 hc q =>
    obtain ⟨t, u, v, rfl⟩ := arg_int3 hv
    refine call_range_3 (by (first | lia | omega)) (newRange S ⟨h0, h1, h2, hc⟩ q) (Or.inl (PyProof.noPylong_of_log2 ?_))
    obtain ⟨c1, c2⟩ := h2
    exact Nat.lt_trans ((Nat.log2_lt (by (first | lia | omega))).mpr (show c.natAbs < 2 ^ 41 by (first | lia | omega))) (by decide)
  | listT h q =>
    obtain ⟨v, rfl, h1⟩ := all2_1 hv
    obtain ⟨a, rfl, h2⟩ := vtup h1
    obtain ⟨items, ⟨ol, l1, hc, n, hdt⟩, r, z, b⟩ := tup_at S h2
    exact call_list_seq _ (.inr rfl) l1 hc hdt (fun h' c' hk hS => .grown (tk := s.toks) S hk (Nat.le_refl _) hS r b q) (z ▸ big_le b)
  | listR h hb q =>
    obtain ⟨v, rfl, h1⟩ := all2_1 hv
    obtain ⟨x, rfl, ha⟩ := vrng h1
    exact bi_listR S (hh h) ha hb q
end
end Mine
end
section
set_option autoImplicit false
set_option linter.unusedVariables false
namespace Mine
open PySem

abbrev Names := List (Str × NameKind)
noncomputable def strEqL : List Nat → List Nat → Bool
  | [], [] => true
  | a :: r, b :: q => Nat.beq a b && strEqL r q
  | _, _ => false
noncomputable def strEq (a b : Str) : Bool := strEqL a.cps.toList b.cps.toList
theorem strEqL_eq : ∀ {a b : List Nat}, strEqL a b = true → a = b
  | [], [], _ => rfl
  | _ :: _, _ :: _, h => by
    simp only [strEqL, Bool.and_eq_true] at h
    rw [Nat.eq_of_beq_eq_true h.1, strEqL_eq h.2]
theorem strEq_eq {a b : Str} (h : strEq a b = true) : a = b := by
  obtain ⟨⟨a⟩⟩ := a; obtain ⟨⟨b⟩⟩ := b
  have := strEqL_eq (a := a) (b := b) h
  rw [this]

/-- what the text's written part says -/
structure Facts (W : Amb) (K : PySem.W.Frag) : Prop where
  inn : K.In W.h₀
  top : ∃ p loose mg mb, PySem.W.TopRead p loose mg mb W.h₀
  nolim : W.h₀.NoLimit

structure Cx (n : Nat) (hd : Bool) (A : Around) (fs : List Env) (env : Env) (nm : Names) : Prop where
  frames : A.frames = some fs
  top : ∃ e₀ outer, fs = e₀ :: outer ∧ e₀.frame = env.frame
  names : env.scope.names = nm
  hand : hd = false → A.handled = none
  depth : A.depth + n ≤ 900
  units : A.units + 4 * n ≤ 9000

section
variable {W : Amb} {fs : List Env} {Ψ Ψ₁ : Psi} {H : MH} {s : Shared} {A : Around} {Q : MV → MH → Prop} {X : String → MH → Prop}

theorem lift {t : Sem Value} (K : Keep none_ Ψ Ψ₁) (h : wpAny W.M A t (PostE W fs Ψ₁ Q) (PostX W fs Ψ₁ X) s) : wpAny W.M A t (PostE W fs Ψ Q) (PostX W fs Ψ X) s :=
  wpAny_mono h (fun _ _ x => x.from K) fun _ _ x => x.from K
end

variable (W : Amb) (K : PySem.W.Frag) (Δ : CallT) (n : Nat)

/-- the meaning of a node is sound -/
noncomputable def SndE (nm : Names) (e : ME) (x : PySem.Expr) : Prop :=
  ∀ {hd : Bool} {A : Around} {fs : List Env} {env : Env} {ρ : Sto} {Ψ : Psi} {H : MH} {s : Shared} {Q : MV → MH → Prop} {X : String → MH → Prop},
    Cx n hd A fs env nm → EnvRel Ψ env ρ → St W fs Ψ H s → wE Δ hd e ρ H Q X → wpAny W.M A (eval x env) (PostE W fs Ψ Q) (PostX W fs Ψ X) s
noncomputable def SndL (nm : Names) (es : MEs) (xs : List PySem.Expr) : Prop :=
  ∀ {hd : Bool} {A : Around} {fs : List Env} {env : Env} {ρ : Sto} {Ψ : Psi} {H : MH} {s : Shared} {pos : Pos} {Q : List MV → MH → Prop} {X : String → MH → Prop},
    Cx n hd A fs env nm → EnvRel Ψ env ρ → St W fs Ψ H s → wEs Δ hd es ρ H Q X → wpAny W.M A (spliced (backTo pos (starEach xs env))) (fun vs s' => vs.length = xs.length ∧ PostL W fs Ψ Q vs s') (PostX W fs Ψ X) s
/-- the meaning of a test is sound -/
noncomputable def SndT (nm : Names) (e : ME) (x : PySem.Expr) : Prop :=
  ∀ {hd : Bool} {A : Around} {fs : List Env} {env : Env} {ρ : Sto} {Ψ : Psi} {H : MH} {s : Shared} {k : Bool → MH → Prop} {X : String → MH → Prop},
    Cx n hd A fs env nm → EnvRel Ψ env ρ → St W fs Ψ H s → wE Δ hd e ρ H (asTruth k) X → wpAny W.M A (isTrue x env (eval x env)) (PostB W fs Ψ k) (PostX W fs Ψ X) s

noncomputable def varKind (k : Option NameKind) : Bool := match k with
  | some .local | some .cell | some .free => true
  | _ => false
noncomputable def isVar (nm : Names) (x : String) (id : Str) : Bool := strEq id (Str.ofString x) && varKind (nm.lookup id) && !(id == ("__debug__" : Str)) && !(id == ("__classdict__" : Str)) && !(x == ".0")
noncomputable def isGlob (nm : Names) (x : String) (id : Str) : Bool := strEq id (Str.ofString x) && (nm.lookup id == some .globalImplicit) && !(id == ("__debug__" : Str))

variable {W K Δ n}
section
variable {nm : Names}

/-- a step, and what follows on it -/
theorem monoE {A : Around} {fs : List Env} {Ψ : Psi} {s : Shared} {t : Sem Value} {Z : MV → MH → Prop} {X : String → MH → Prop} {R : Value → Shared → Prop} (h : wpAny W.M A t (PostE W fs Ψ Z) (PostX W fs Ψ X) s)
    (k : ∀ Ψ₁ H₁ mv v s₁, St W fs Ψ₁ H₁ s₁ → Keep none_ Ψ Ψ₁ → VRel Ψ₁ v mv → Z mv H₁ → R v s₁) : wpAny W.M A t R (PostX W fs Ψ X) s :=
  wpAny_mono h (fun v s₁ p => by cases p with | mk Ψ₁ H₁ mv S K hv q => exact k Ψ₁ H₁ mv v s₁ S K hv q) fun _ _ x => x
theorem monoB {A : Around} {fs : List Env} {Ψ : Psi} {s : Shared} {t : Sem Bool} {Z : Bool → MH → Prop} {X : String → MH → Prop} {R : Bool → Shared → Prop} (h : wpAny W.M A t (PostB W fs Ψ Z) (PostX W fs Ψ X) s)
    (k : ∀ Ψ₁ H₁ b s₁, St W fs Ψ₁ H₁ s₁ → Keep none_ Ψ Ψ₁ → Z b H₁ → R b s₁) : wpAny W.M A t R (PostX W fs Ψ X) s :=
  wpAny_mono h (fun v s₁ p => by cases p with | mk Ψ₁ H₁ S K q => exact k Ψ₁ H₁ v s₁ S K q) fun _ _ x => x

theorem snd_none {k : Nat} {pos : Pos} : SndE W Δ n nm .none (.Constant .none k pos) := by
  intro hd A fs env ρ Ψ H s Q X _ _ S h
  exact wpAny_pure (.now S .none h)
theorem snd_bool {b : Bool} {k : Nat} {pos : Pos} : SndE W Δ n nm (.bool b) (.Constant (.bool b) k pos) := by
  intro hd A fs env ρ Ψ H s Q X _ _ S h
  exact wpAny_pure (.now S .bool h)
theorem snd_int {i : Int} {k : Nat} {pos : Pos} : SndE W Δ n nm (.int i) (.Constant (.int i) k pos) := by
  intro hd A fs env ρ Ψ H s Q X _ _ S h
  exact wpAny_Constant_int (.int S h)
theorem snd_str {x : String} {k : Nat} {pos : Pos} : SndE W Δ n nm (.str x) (.Constant (.str (Str.ofString x)) k pos) := by
  intro hd A fs env ρ Ψ H s Q X _ _ S h
  exact Calls.Constant_str (.now (S.toks _) .str h)

theorem and_of {a b : Bool} (h : (a && b) = true) : a = true ∧ b = true := Bool.and_eq_true_iff.mp h
theorem not_of {a : Bool} (h : (!a) = true) : a = false := Bool.not_eq_true' a ▸ h
theorem varKind_of {k : Option NameKind} (h : varKind k = true) : k = some .local ∨ k = some .cell ∨ k = some .free := by
  unfold varKind at h; split at h
  · exact .inl rfl
  · exact .inr (.inl rfl)
  · exact .inr (.inr rfl)
  · exact absurd h Bool.noConfusion
theorem loadVar {hd : Bool} {A : Around} {fs : List Env} {env : Env} {ρ : Sto} {Ψ : Psi} {H : MH} {s : Shared} {E : Value → Shared → Prop} {QQ : Value → Shared → Prop} {x : String} {id : Str} {v : MV}
    (C : Cx n hd A fs env nm) (R : EnvRel Ψ env ρ) (S : St W fs Ψ H s) (hx : isVar nm x id = true) (hv : ρ x = some v) (h : ∀ w, VRel Ψ w v → QQ w s) : wpAny W.M A (loadName env id) QQ E s := by
  obtain ⟨hx, h5⟩ := and_of hx
  obtain ⟨hx, h4⟩ := and_of hx
  obtain ⟨hx, _⟩ := and_of hx
  obtain ⟨h1, h2⟩ := and_of hx
  obtain rfl := strEq_eq h1
  have cl : ∀ {c : Addr}, Ψ c = some (.cell (some v)) → ∃ o w, s.heap.get? c = some o ∧ o.data = .cell (some w) ∧ VRel Ψ w v := fun hm => by
    obtain ⟨o, ho, _, hf⟩ := S.typed _ _ hm
    exact (hf v rfl).elim fun w z => ⟨o, w, ho, z⟩
  rcases varKind_of (C.names ▸ h2) with hk | hk | hk
  · obtain ⟨m, hm, hmv⟩ := R.loc
    obtain ⟨o, ho, ents, k, hd', hs, hf⟩ := S.typed _ _ hm
    obtain ⟨w, hw, hr⟩ := hf x v (hmv x v (beq_eq_false_iff_ne.mp (not_of h5)) hk hv)
    exact wpAny_loadName_local R.kind hk ⟨o, ents, k, ho, hd', hs, fun _ => rfl⟩ hw (h w hr)
  · obtain ⟨c, hc, hm⟩ := R.val x v (.inl hk) hv
    obtain ⟨o, w, ho, hd', hr⟩ := cl hm
    exact wpAny_loadName_cell R.kind hk hc ⟨o, ho, hd'⟩ (h w hr)
  · obtain ⟨c, hc, hm⟩ := R.val x v (.inr hk) hv
    obtain ⟨o, w, ho, hd', hr⟩ := cl hm
    exact wpAny_loadName_free R.kind hk hc ⟨o, ho, hd'⟩ (h w hr) (not_of h4)

theorem snd_var {x : String} {id : Str} {pos : Pos} (hx : isVar nm x id = true) : SndE W Δ n nm (.var x) (.Name id pos) := by
  intro hd A fs env ρ Ψ H s Q X C R S h
  obtain ⟨v, hv, h⟩ := h
  exact wpAny_Name (loadVar C R S hx hv fun w hr => .now S hr h) (not_of (and_of (and_of (and_of hx).1).1).2)

/-- a global name of the text -/
theorem loadGlob {hd : Bool} {A : Around} {fs : List Env} {env : Env} {ρ : Sto} {Ψ : Psi} {H : MH} {s : Shared} {E : Value → Shared → Prop} {QQ : Value → Shared → Prop} {x : String} {id : Str} {pos : Pos} {v : Value}
    (F : Facts W K) (C : Cx n hd A fs env nm) (R : EnvRel Ψ env ρ) (S : St W fs Ψ H s) (hx : isGlob nm x id = true) (hv : PySem.W.nsIn K mainGlobals (Str.ofString x) = some (some v)) (h : QQ v s) : wpAny W.M A (eval (.Name id pos) env) QQ E s := by
  obtain ⟨hx, h3⟩ := and_of hx
  obtain ⟨h1, h2⟩ := and_of hx
  replace h3 := not_of h3
  replace h2 := C.names ▸ eq_of_beq h2
  obtain rfl := strEq_eq h1
  obtain ⟨p, loose, mg, mb, T⟩ := F.top
  refine Calls.Name_function_global R.kind h2 (Calls.loadGlobal_global (mg := mg) ?_ (PySem.W.mg_of F.inn T.g hv) h) h3
  rw [R.glob]
  exact T.g.keeps S.base
/-- a built-in name -/
theorem loadBlt {hd : Bool} {A : Around} {fs : List Env} {env : Env} {ρ : Sto} {Ψ : Psi} {H : MH} {s : Shared} {E : Value → Shared → Prop} {QQ : Value → Shared → Prop} {x : String} {id : Str} {pos : Pos} {v : Value}
    (F : Facts W K) (C : Cx n hd A fs env nm) (R : EnvRel Ψ env ρ) (S : St W fs Ψ H s) (hx : isGlob nm x id = true) (hv : PySem.W.nsIn K mainGlobals (Str.ofString x) = some none) (hb : bootBuiltins (Str.ofString x) = some v) (hn : Str.ofString x ≠ "__name__") (h : QQ v s) : wpAny W.M A (eval (.Name id pos) env) QQ E s := by
  obtain ⟨hx, h3⟩ := and_of hx
  obtain ⟨h1, h2⟩ := and_of hx
  replace h3 := not_of h3
  replace h2 := C.names ▸ eq_of_beq h2
  obtain rfl := strEq_eq h1
  obtain ⟨p, loose, mg, mb, T⟩ := F.top
  refine Calls.Name_function_global R.kind h2 (Calls.loadGlobal_builtin (mg := mg) (mb := mb) ?_ (PySem.W.mg_none_of F.inn T.g hv) ?_ ((T.builtins _ hn).trans hb) h) h3
  · rw [R.glob]; exact T.g.keeps S.base
  · rw [R.blt]; exact T.b.keeps S.base

theorem snd_bin {op : BOp} {l r : ME} {l' r' : PySem.Expr} {pos : Pos} (hl : SndE W Δ n nm l l') (hr : SndE W Δ n nm r r') : SndE W Δ n nm (.bin op l r) (.BinOp l' (opOf op) r' pos) := by
  intro hd A fs env ρ Ψ H s Q X C R S h
  refine wpAny_BinOp (monoE (hl C R S h) fun Ψ₁ H₁ ma a s₁ S₁ K₁ va h₁ => ?_)
  refine wpAny_mono (monoE (hr C (R.keep K₁) S₁ h₁) fun Ψ₂ H₂ mb b s₂ S₂ K₂ vb h₂ => ?_) (fun _ _ x => x) fun _ _ x => x.from K₁
  exact lift (K₁.trans K₂) (op_bin S₂ (va.mono K₂.fix) vb h₂)
theorem snd_neg {e : ME} {x : PySem.Expr} {pos : Pos} (he : SndE W Δ n nm e x) : SndE W Δ n nm (.neg e) (.UnaryOp .USub x pos) := by
  intro hd A fs env ρ Ψ H s Q X C R S h
  refine wpAny_bind (monoE (he C R S h) fun Ψ₁ H₁ ma a s₁ S₁ K₁ va h₁ => ?_)
  obtain ⟨i, rfl, h₁⟩ := h₁
  obtain ⟨t, rfl⟩ := vint va
  exact lift K₁ (wpAny_bind (wpAny_standAt (wpAny_holding (P.neg_int (.int S₁ h₁)))))
theorem snd_not {e : ME} {x : PySem.Expr} {pos : Pos} (he : SndE W Δ n nm e x) : SndE W Δ n nm (.not e) (.UnaryOp .Not x pos) := by
  intro hd A fs env ρ Ψ H s Q X C R S h
  refine wpAny_bind (monoE (he C R S h) fun Ψ₁ H₁ ma a s₁ S₁ K₁ va h₁ => ?_)
  obtain ⟨b, rfl, h₁⟩ := asTruth_of h₁
  obtain rfl := vbool va
  exact lift K₁ (wpAny_bind (wpAny_standAt (wpAny_holding (PyProof.Rows.not_of (wpAny_truthy_bool (.now S₁ .bool h₁))))))

/-- a row of operands: where it stops -/
noncomputable def stopAt : BoolOp → Bool
  | .And => false
  | .Or => true
theorem boolOp_cons {A : Around} {fs : List Env} {Ψ : Psi} {s : Shared} {Q : MV → MH → Prop} {X : String → MH → Prop} {pos : Pos} {op : BoolOp} {t t' : Sem Value} {rest : List (Sem Value)} {Z : Bool → MH → Prop}
    (h : wpAny W.M A t (PostE W fs Ψ (asTruth Z)) (PostX W fs Ψ X) s)
    (k : ∀ Ψ₁ H₁ s₁ b, St W fs Ψ₁ H₁ s₁ → Keep none_ Ψ Ψ₁ → Z b H₁ → if b = stopAt op then Q (.bool b) H₁ else wpAny W.M A (boolOp pos op (t' :: rest)) (PostE W fs Ψ₁ Q) (PostX W fs Ψ₁ X) s₁) :
    wpAny W.M A (boolOp pos op (t :: t' :: rest)) (PostE W fs Ψ Q) (PostX W fs Ψ X) s := by
  refine wpAny_bind (monoE h fun Ψ₁ H₁ mv v s₁ S₁ K₁ va h₁ => ?_)
  obtain ⟨b, rfl, h₁⟩ := asTruth_of h₁
  obtain rfl := vbool va
  have := k Ψ₁ H₁ s₁ b S₁ K₁ h₁
  refine wpAny_bind (wpAny_standAt (wpAny_bind (wpAny_holding (wpAny_truthy_bool ?_))))
  cases op <;> cases b <;> first
    | exact wpAny_pure ⟨Ψ₁, H₁, .bool _, S₁, K₁, .bool, this⟩
    | exact lift K₁ this

/-- the meaning of a row of operands, by its operator -/
noncomputable def wB (Δ : CallT) (hd : Bool) (op : BoolOp) (es : MEs) (ρ : Sto) (H : MH) (Q : MV → MH → Prop) (X : String → MH → Prop) : Prop := match op with
  | .And => wAnd Δ hd es ρ H Q X
  | .Or => wOr Δ hd es ρ H Q X
theorem wB_one {hd : Bool} {op : BoolOp} {e : ME} {ρ : Sto} {H : MH} {Q : MV → MH → Prop} {X : String → MH → Prop} (h : wB Δ hd op (.cons e .nil) ρ H Q X) : wE Δ hd e ρ H Q X := by cases op <;> exact h
theorem wB_cons {hd : Bool} {op : BoolOp} {e e' : ME} {es : MEs} {ρ : Sto} {H : MH} {Q : MV → MH → Prop} {X : String → MH → Prop} (h : wB Δ hd op (.cons e (.cons e' es)) ρ H Q X) :
    ∃ Z, wE Δ hd e ρ H (asTruth Z) X ∧ ∀ b H₁, Z b H₁ → if b = stopAt op then Q (.bool b) H₁ else wB Δ hd op (.cons e' es) ρ H₁ Q X := by
  cases op
  · exact ⟨_, h, fun b H₁ z => by cases b <;> exact z⟩
  · exact ⟨_, h, fun b H₁ z => by cases b <;> exact z⟩
noncomputable def SndAnd (nm : Names) (es : MEs) (xs : List PySem.Expr) : Prop :=
  ∀ {hd : Bool} {A : Around} {fs : List Env} {env : Env} {ρ : Sto} {Ψ : Psi} {H : MH} {s : Shared} {pos : Pos} {op : BoolOp} {Q : MV → MH → Prop} {X : String → MH → Prop},
    Cx n hd A fs env nm → EnvRel Ψ env ρ → St W fs Ψ H s → wB Δ hd op es ρ H Q X → wpAny W.M A (boolOp pos op (evalEach xs env)) (PostE W fs Ψ Q) (PostX W fs Ψ X) s
theorem sndAnd_one {e : ME} {x : PySem.Expr} (he : SndE W Δ n nm e x) : SndAnd (W := W) (Δ := Δ) (n := n) nm (.cons e .nil) [x] := fun C R S h => he C R S (wB_one h)
theorem sndAnd_cons {e e' : ME} {es : MEs} {x x' : PySem.Expr} {xs : List PySem.Expr} (he : SndE W Δ n nm e x) (hr : SndAnd (W := W) (Δ := Δ) (n := n) nm (.cons e' es) (x' :: xs)) : SndAnd (W := W) (Δ := Δ) (n := n) nm (.cons e (.cons e' es)) (x :: x' :: xs) := by
  intro hd A fs env ρ Ψ H s pos op Q X C R S h
  obtain ⟨Z, h1, h2⟩ := wB_cons h
  refine boolOp_cons (rest := evalEach xs env) (he C R S h1) fun Ψ₁ H₁ s₁ b S₁ K₁ z => ?_
  have := h2 b H₁ z
  split at this
  · rename_i q; rw [if_pos q]; exact this
  · rename_i q; rw [if_neg q]; exact hr C (R.keep K₁) S₁ this
theorem snd_bop {op : BoolOp} {es : MEs} {e : ME} {xs : List PySem.Expr} {pos : Pos} (h : SndAnd (W := W) (Δ := Δ) (n := n) nm es xs) (he : ∀ {hd ρ H Q X}, wE Δ hd e ρ H Q X → wB Δ hd op es ρ H Q X) : SndE W Δ n nm e (.BoolOp op xs pos) := fun C R S z => h C R S (he z)

/-! tests -/
theorem sndT_not {e : ME} {x : PySem.Expr} {pos : Pos} (he : SndT W Δ n nm e x) : SndT W Δ n nm (.not e) (.UnaryOp .Not x pos) := by
  intro hd A fs env ρ Ψ H s k X C R S h
  exact PyProof.Rows.isTrue_not (monoB (he (k := fun b H => k (!b) H) C R S h) fun Ψ' H' b s' S K' q => ⟨Ψ', H', S, K', q⟩)
theorem sndT_plain {e : ME} {x : PySem.Expr} (he : SndE W Δ n nm e x) (hp : ∀ env whole, isTrue x env whole = (do let v ← whole; standAt x.pos; holding [v] (truthy v))) : SndT W Δ n nm e x := by
  intro hd A fs env ρ Ψ H s k X C R S h
  rw [hp]
  refine wpAny_bind (monoE (he C R S h) fun Ψ₁ H₁ mv v s₁ S₁ K₁ va h₁ => ?_)
  obtain ⟨b, rfl, h₁⟩ := asTruth_of h₁
  obtain rfl := vbool va
  exact wpAny_bind (wpAny_standAt (wpAny_holding (wpAny_truthy_bool ⟨Ψ₁, H₁, S₁, K₁, h₁⟩)))
theorem PostB.from {A : Around} {fs : List Env} {Ψ Ψ₁ : Psi} {k : Bool → MH → Prop} {X : String → MH → Prop} {s : Shared} {t : Sem Bool} (K : Keep none_ Ψ Ψ₁) (h : wpAny W.M A t (PostB W fs Ψ₁ k) (PostX W fs Ψ₁ X) s) : wpAny W.M A t (PostB W fs Ψ k) (PostX W fs Ψ X) s :=
  wpAny_mono (monoB h fun Ψ' H' b s' S K' q => (⟨Ψ', H', S, K.trans K', q⟩ : PostB W fs Ψ k b s')) (fun _ _ x => x) fun _ _ x => x.from K
/-- a row of tests -/
noncomputable def SndAllT (nm : Names) (es : MEs) (xs : List PySem.Expr) : Prop :=
  ∀ {hd : Bool} {A : Around} {fs : List Env} {env : Env} {ρ : Sto} {Ψ : Psi} {H : MH} {s : Shared} {op : BoolOp} {k : Bool → MH → Prop} {X : String → MH → Prop},
    Cx n hd A fs env nm → EnvRel Ψ env ρ → St W fs Ψ H s → wB Δ hd op es ρ H (asTruth k) X → wpAny W.M A (allTrue op xs env) (PostB W fs Ψ k) (PostX W fs Ψ X) s
theorem allTrue_cons {M : Model} {A : Around} {op : BoolOp} {x : PySem.Expr} {xs : List PySem.Expr} {env : Env} {Q : Bool → Shared → Prop} {E : Value → Shared → Prop} {s : Shared}
    (h : wpAny M A (isTrue x env (eval x env)) (fun b s' => if b = stopAt op then Q b s' else wpAny M A (allTrue op xs env) Q E s') E s) : wpAny M A (allTrue op (x :: xs) env) Q E s := by
  cases op
  · exact wpAny_allTrue_And_cons (wpAny_mono h (fun b s' q => by cases b <;> exact q) fun _ _ x => x)
  · exact wpAny_allTrue_Or_cons (wpAny_mono h (fun b s' q => by cases b <;> exact q) fun _ _ x => x)
theorem allTrue_nil {M : Model} {A : Around} {op : BoolOp} {env : Env} {Q : Bool → Shared → Prop} {E : Value → Shared → Prop} {s : Shared} (h : Q (!stopAt op) s) : wpAny M A (allTrue op [] env) Q E s := by
  cases op
  · exact wpAny_allTrue_And_nil h
  · exact wpAny_allTrue_Or_nil h
theorem bne_not {a b : Bool} (h : ¬ a = b) : a = !b := by cases a <;> cases b <;> first | rfl | exact absurd rfl h
theorem sndAllT_one {e : ME} {x : PySem.Expr} (he : SndT W Δ n nm e x) : SndAllT (W := W) (Δ := Δ) (n := n) nm (.cons e .nil) [x] := by
  intro hd A fs env ρ Ψ H s op k X C R S h
  refine allTrue_cons (wpAny_mono (he C R S (wB_one h)) (fun b s₁ h₁ => ?_) fun _ _ x => x)
  by_cases q : b = stopAt op
  · rw [if_pos q]; exact h₁
  · rw [if_neg q]; exact allTrue_nil (bne_not q ▸ h₁)
theorem sndAllT_cons {e e' : ME} {es : MEs} {x x' : PySem.Expr} {xs : List PySem.Expr} (he : SndT W Δ n nm e x) (hr : SndAllT (W := W) (Δ := Δ) (n := n) nm (.cons e' es) (x' :: xs)) : SndAllT (W := W) (Δ := Δ) (n := n) nm (.cons e (.cons e' es)) (x :: x' :: xs) := by
  intro hd A fs env ρ Ψ H s op k X C R S h
  obtain ⟨Z, h1, h2⟩ := wB_cons h
  refine allTrue_cons (monoB (he C R S h1) fun Ψ₁ H₁ b s₁ S₁ K₁ z => ?_)
  have := h2 b H₁ z
  by_cases q : b = stopAt op
  · rw [if_pos q] at this ⊢; exact ⟨Ψ₁, H₁, S₁, K₁, this⟩
  · rw [if_neg q] at this ⊢; exact PostB.from K₁ (hr C (R.keep K₁) S₁ this)
theorem sndT_bop {op : BoolOp} {es : MEs} {e : ME} {xs : List PySem.Expr} {pos : Pos} (h : SndAllT (W := W) (Δ := Δ) (n := n) nm es xs) (he : ∀ {hd ρ H Q X}, wE Δ hd e ρ H Q X → wB Δ hd op es ρ H Q X) : SndT W Δ n nm e (.BoolOp op xs pos) := fun C R S z => wpAny_isTrue_BoolOp (h C R S (he z))
end
end Mine
end
section
set_option autoImplicit false
set_option linter.unusedVariables false
namespace Mine
open PySem

section
variable {W : Amb} {K : PySem.W.Frag} {Δ : CallT} {n : Nat} {nm : Names}

theorem wpAny_release {M : Model} {A : Around} {E : Value → Shared → Prop} {s : Shared} {vs keep : List Value} {Q : Unit → Shared → Prop} (h : Q () s) : wpAny M A (release vs keep) Q E s := fun Γ p _ => by
  rw [Sem.wp_release]; exact h

/-! comparisons -/
noncomputable def notSet (x : PySem.Expr) : Bool := !Nat.beq x.ctorIdx 7
theorem notSet_marks {op : CmpOp} {e : PySem.Expr} (h : notSet e = true) : behindInMarks op e = false := by
  cases e <;> first | rfl | exact absurd h Bool.noConfusion

noncomputable def SndC (W : Amb) (Δ : CallT) (n : Nat) (nm : Names) (c : MCs) (ops : List CmpOp) (xs : List PySem.Expr) : Prop :=
  ∀ {hd : Bool} {A : Around} {fs : List Env} {env : Env} {ρ : Sto} {Ψ : Psi} {H : MH} {s : Shared} {pos : Pos} {a : Value} {ma : MV} {X : String → MH → Prop},
    Cx n hd A fs env nm → EnvRel Ψ env ρ → St W fs Ψ H s → VRel Ψ a ma →
    (∀ {Q : MV → MH → Prop}, wC Δ hd c ma ρ H Q X → wpAny W.M A (compareChain pos a ops (markedEach ops xs (evalEach xs env))) (PostE W fs Ψ Q) (PostX W fs Ψ X) s) ∧
    (∀ {k : Bool → MH → Prop}, wC Δ hd c ma ρ H (asTruth k) X → wpAny W.M A (testChain pos a ops (markedEach ops xs (evalEach xs env))) (PostB W fs Ψ k) (PostX W fs Ψ X) s)
theorem units_of {hd : Bool} {A : Around} {fs : List Env} {env : Env} (C : Cx n hd A fs env nm) : A.units + 65 < cLine := by have := C.units; unfold cLine; (first | lia | omega)
/-- a comparison's word is a truth -/
theorem cmp_step {A : Around} {fs : List Env} {Ψ Ψ₁ : Psi} {H₁ : MH} {s₁ : Shared} {op : COp} {a b : Value} {ma mb : MV} {r : Bool} {X : String → MH → Prop} {R : Value → Shared → Prop}
    (S₁ : St W fs Ψ₁ H₁ s₁) (va : VRel Ψ₁ a ma) (vb : VRel Ψ₁ b mb) (hr : CmpR H₁ op ma mb r) (hu : A.units + 65 < cLine) (K₁ : Keep none_ Ψ Ψ₁) (k : ∀ Ψ₂ s₂, St W fs Ψ₂ H₁ s₂ → Keep none_ Ψ₁ Ψ₂ → R (.bool r) s₂) : wpAny W.M A (compareOp (copOf op) a b) R (PostX W fs Ψ X) s₁ := by
  refine wpAny_mono (op_cmp (Q := fun mv H => mv = .bool r ∧ H = H₁) (E := PostX W fs Ψ X) S₁ va vb hr hu ⟨rfl, rfl⟩) (fun v s₂ p => ?_) fun _ _ x => x
  cases p with
  | mk Ψ₂ H₂ mv S K hv q =>
    obtain ⟨rfl, rfl⟩ := q
    obtain rfl := vbool hv
    exact k _ _ S K
theorem sndC_one {op : COp} {e : ME} {x : PySem.Expr} (F : Facts W K) (hx : notSet x = true) (he : SndE W Δ n nm e x) : SndC W Δ n nm (.cons op e .nil) [copOf op] [x] := by
  intro hd A fs env ρ Ψ H s pos a ma X C R S va
  have e1 : markedEach [copOf op] [x] (evalEach [x] env) = [eval x env] := by
    show [markedBehindIn (copOf op) x (eval x env)] = _
    rw [markedBehindIn_of_false (notSet_marks hx)]
  rw [e1]
  refine ⟨fun {Q} h => ?_, fun {k} h => ?_⟩
  · refine wpAny_bind (wpAny_holding (monoE (he C R S h) fun Ψ₁ H₁ mb b s₁ S₁ K₁ vb h₁ => ?_))
    obtain ⟨r, hr, h₁⟩ := h₁
    exact wpAny_bind (wpAny_standAt (wpAny_operating (cmp_step S₁ (va.mono K₁.fix) vb hr (units_of C) K₁ fun Ψ₂ s₂ S₂ K₂ => ⟨Ψ₂, H₁, .bool r, S₂, K₁.trans K₂, .bool, h₁⟩)))
  · refine wpAny_bind (wpAny_holding (monoE (he C R S h) fun Ψ₁ H₁ mb b s₁ S₁ K₁ vb h₁ => ?_))
    obtain ⟨r, hr, h₁⟩ := h₁
    exact wpAny_bind (wpAny_standAt (wpAny_bind (wpAny_operating (cmp_step S₁ (va.mono K₁.fix) vb hr (units_of C) K₁ fun Ψ₂ s₂ S₂ K₂ => wpAny_holding (wpAny_truthy_bool ⟨Ψ₂, H₁, S₂, K₁.trans K₂, h₁⟩)))))
theorem chain_cons {pos : Pos} {a : Value} {o o' : CmpOp} {ops : List CmpOp} {t : Sem Value} (ts : List (Sem Value)) : compareChain pos a (o :: o' :: ops) (t :: ts) = (do
      let rv ← holding [a] t
      standAt pos
      let c ← holding [a, rv] (compareOp o a rv)
      release [a, rv] [c]
      if ← holding [c, rv] (truthy c) then compareChain pos rv (o' :: ops) ts else pure c) := by cases ts <;> rfl
theorem test_cons {pos : Pos} {a : Value} {o o' : CmpOp} {ops : List CmpOp} {t : Sem Value} (ts : List (Sem Value)) : testChain pos a (o :: o' :: ops) (t :: ts) = (do
      let rv ← holding [a] t
      standAt pos
      let c ← holding [a, rv] (compareOp o a rv)
      release [a, rv] [c]
      if ← holding [c, rv] (truthy c) then testChain pos rv (o' :: ops) ts else pure false) := by cases ts <;> rfl
theorem sndC_cons {op op' : COp} {e e' : ME} {c : MCs} {x x' : PySem.Expr} {o' : CmpOp} {ops : List CmpOp} {xs : List PySem.Expr} (F : Facts W K) (he : SndE W Δ n nm e x) (hr : SndC W Δ n nm (.cons op' e' c) (o' :: ops) (x' :: xs)) :
    SndC W Δ n nm (.cons op e (.cons op' e' c)) (copOf op :: o' :: ops) (x :: x' :: xs) := by
  intro hd A fs env ρ Ψ H s pos a ma X C R S va
  have e1 : markedEach (copOf op :: o' :: ops) (x :: x' :: xs) (evalEach (x :: x' :: xs) env) = eval x env :: markedEach (o' :: ops) (x' :: xs) (evalEach (x' :: xs) env) := by
    cases ops <;> cases xs <;> rfl
  rw [e1]
  refine ⟨fun {Q} h => ?_, fun {k} h => ?_⟩
  · rw [chain_cons]
    refine wpAny_bind (wpAny_holding (monoE (he C R S h) fun Ψ₁ H₁ mb b s₁ S₁ K₁ vb h₁ => ?_))
    obtain ⟨r, hc, h₁⟩ := h₁
    refine wpAny_bind (wpAny_standAt (wpAny_bind (wpAny_holding (cmp_step S₁ (va.mono K₁.fix) vb hc (units_of C) K₁ fun Ψ₂ s₂ S₂ K₂ => wpAny_bind (wpAny_release (wpAny_bind (wpAny_holding (wpAny_truthy_bool ?_))))))))
    cases r with
    | true => exact lift (K₁.trans K₂) ((hr C (R.keep (K₁.trans K₂)) S₂ (vb.mono K₂.fix)).1 h₁)
    | false => exact wpAny_pure ⟨Ψ₂, H₁, .bool false, S₂, K₁.trans K₂, .bool, h₁⟩
  · rw [test_cons]
    refine wpAny_bind (wpAny_holding (monoE (he C R S h) fun Ψ₁ H₁ mb b s₁ S₁ K₁ vb h₁ => ?_))
    obtain ⟨r, hc, h₁⟩ := h₁
    refine wpAny_bind (wpAny_standAt (wpAny_bind (wpAny_holding (cmp_step S₁ (va.mono K₁.fix) vb hc (units_of C) K₁ fun Ψ₂ s₂ S₂ K₂ => wpAny_bind (wpAny_release (wpAny_bind (wpAny_holding (wpAny_truthy_bool ?_))))))))
    cases r with
    | true => exact PostB.from (K₁.trans K₂) ((hr C (R.keep (K₁.trans K₂)) S₂ (vb.mono K₂.fix)).2 h₁)
    | false => exact wpAny_pure ⟨Ψ₂, H₁, S₂, K₁.trans K₂, h₁⟩
theorem snd_cmp {l : ME} {c : MCs} {l' : PySem.Expr} {ops : List CmpOp} {xs : List PySem.Expr} {pos : Pos} (hl : SndE W Δ n nm l l') (hc : SndC W Δ n nm c ops xs) : SndE W Δ n nm (.cmp l c) (.Compare l' ops xs pos) := by
  intro hd A fs env ρ Ψ H s Q X C R S h
  exact wpAny_bind (monoE (hl C R S h) fun Ψ₁ H₁ ma a s₁ S₁ K₁ va h₁ => lift K₁ ((hc C (R.keep K₁) S₁ va).1 h₁))
theorem sndT_cmp {l : ME} {c : MCs} {l' : PySem.Expr} {ops : List CmpOp} {xs : List PySem.Expr} {pos : Pos} (hl : SndE W Δ n nm l l') (hc : SndC W Δ n nm c ops xs) : SndT W Δ n nm (.cmp l c) (.Compare l' ops xs pos) := by
  intro hd A fs env ρ Ψ H s k X C R S h
  exact wpAny_bind (monoE (hl C R S h) fun Ψ₁ H₁ ma a s₁ S₁ K₁ va h₁ => PostB.from K₁ ((hc C (R.keep K₁) S₁ va).2 h₁))

/-! rows of expressions, displays, items -/
noncomputable def notStarred (x : PySem.Expr) : Bool := !Nat.beq x.ctorIdx 22
theorem starEach_cons {x : PySem.Expr} {xs : List PySem.Expr} {env : Env} (h : notStarred x = true) : starEach (x :: xs) env = (false, eval x env) :: starEach xs env := by
  cases x <;> first | rfl | exact absurd h Bool.noConfusion
theorem sndL_nil : SndL W Δ n nm .nil [] := by
  intro hd A fs env ρ Ψ H s pos Q X C R S h
  exact wpAny_pure ⟨rfl, Ψ, H, [], S, .refl _ _, .nil, h⟩
theorem sndL_cons {e : ME} {es : MEs} {x : PySem.Expr} {xs : List PySem.Expr} (hx : notStarred x = true) (he : SndE W Δ n nm e x) (hr : SndL W Δ n nm es xs) : SndL W Δ n nm (.cons e es) (x :: xs) := by
  intro hd A fs env ρ Ψ H s pos Q X C R S h
  rw [starEach_cons hx]
  refine Calls.spliced_cons (monoE (he C R S h) fun Ψ₁ H₁ ma a s₁ S₁ K₁ va h₁ => ?_)
  refine wpAny_mono (hr (pos := pos) C (R.keep K₁) S₁ h₁) (fun vs s₂ h₂ => ?_) fun _ _ x => x.from K₁
  obtain ⟨hl, Ψ₂, H₂, mvs, S₂, K₂, vb, h₂⟩ := h₂
  exact ⟨congrArg Nat.succ hl, Ψ₂, H₂, ma :: mvs, S₂, K₁.trans K₂, .cons (va.mono K₂.fix) vb, h₂⟩
/-- a row of values, and what follows on it -/
theorem monoL {A : Around} {fs : List Env} {Ψ : Psi} {s : Shared} {t : Sem (List Value)} {m : Nat} {Z : List MV → MH → Prop} {X : String → MH → Prop} {R : List Value → Shared → Prop} (h : wpAny W.M A t (fun vs s' => vs.length = m ∧ PostL W fs Ψ Z vs s') (PostX W fs Ψ X) s)
    (k : ∀ Ψ₁ H₁ mvs vs s₁, vs.length = m → St W fs Ψ₁ H₁ s₁ → Keep none_ Ψ Ψ₁ → All2 (VRel Ψ₁) vs mvs → Z mvs H₁ → R vs s₁) : wpAny W.M A t R (PostX W fs Ψ X) s :=
  wpAny_mono h (fun v s₁ p => by cases p.2 with | mk Ψ₁ H₁ mv S K hv q => exact k Ψ₁ H₁ mv v s₁ p.1 S K hv q) fun _ _ x => x
theorem len_small {α : Type} {vs : List α} {m : Nat} (h : vs.length = m) (hs : m ≤ 1000) : vs.toArray.size ≤ sizeLine := by rw [List.size_toArray, h]; exact Nat.le_trans hs (by decide)
theorem len_big {α β : Type} {R : α → β → Prop} {vs : List α} {ws : List β} {m : Nat} (r : All2 R vs ws) (h : vs.length = m) (hs : m ≤ 1000) : ws.length ≤ bigList := by rw [← r.length_eq, h]; exact Nat.le_trans hs (by decide)
theorem snd_list {es : MEs} {xs : List PySem.Expr} {pos : Pos} (hl : SndL W Δ n nm es xs) (hsz : xs.length ≤ 1000) : SndE W Δ n nm (.list es) (.List xs pos) := by
  intro hd A fs env ρ Ψ H s Q X C R S h
  exact PyProof.Rows.List_ (monoL (hl C R S h) fun Ψ₁ H₁ mvs vs s₁ hlen S₁ K₁ va h₁ => lift K₁ (wpAny_newObj_type (.newList S₁ va (len_big va hlen hsz) h₁) (len_small hlen hsz)))
theorem newTuple_post {A : Around} {fs : List Env} {Ψ : Psi} {H : MH} {s : Shared} {Q : MV → MH → Prop} {E : Value → Shared → Prop} {vs : List Value} {mvs : List MV} {m : Nat} (S : St W fs Ψ H s) (va : All2 (VRel Ψ) vs mvs) (h : Q (.tup mvs) H) (hl : vs.length = m) (hsz : m ≤ 1000) :
    wpAny W.M A (newTuple vs) (PostE W fs Ψ Q) E s :=
  wpAny_newObj_type ⟨_, H, .tup mvs, S.push (s' := { s with heap := s.heap.push { cls := .type "tuple", data := .seq vs.toArray } }) (k := .tup mvs) rfl ⟨vs.toArray, 0, rfl, va.mono fun _ _ => VRel.mono (.set_new _ S.none_at), len_big va hl hsz⟩ rfl rfl rfl, S.pushKeep _, .tup (Psi.set_self _ _ _), h⟩ (len_small hl hsz)
theorem snd_tup {es : MEs} {xs : List PySem.Expr} {k : Nat} {pos : Pos} (hl : SndL W Δ n nm es xs) (hsz : xs.length ≤ 1000) : SndE W Δ n nm (.tup es) (.Tuple xs k pos) := by
  intro hd A fs env ρ Ψ H s Q X C R S h
  exact PyProof.Rows.Tuple_ (monoL (hl C R S h) fun Ψ₁ H₁ mvs vs s₁ hlen S₁ K₁ va h₁ => lift K₁ (newTuple_post S₁ va h₁ hlen hsz))
theorem snd_dict {pos : Pos} : SndE W Δ n nm .dict (.Dict [] [] pos) := by
  intro hd A fs env ρ Ψ H s Q X C R S h
  show wpAny W.M A (do standAt pos; newDict) _ _ s
  refine wpAny_bind (wpAny_standAt ?_)
  refine wpAny_newObj_type ?_
  have S' := S.push (s' := { s with heap := s.heap.push { cls := .type "dict", data := .dict #[] } }) (k := .dct []) rfl
    ⟨[], ⟨#[], 0, ⟨rfl, rfl, rfl⟩, rfl, fun _ he => by simp at he, .nil, .nil⟩, .nil⟩ rfl rfl rfl
  exact ⟨_, _, .ref s.heap.objs.size, S'.shown (o := .dct []) (Psi.set_self _ _ _), S.pushKeep _, .ref, h _ S.free_at⟩

noncomputable def notSlice (x : PySem.Expr) : Bool := !Nat.beq x.ctorIdx 26
theorem notSlice_sub {y : PySem.Expr} (h : notSlice y = true) : ∀ o i, subscripted y false o i = operate [o, i] (getItem o i) := fun o i => by cases y <;> first | rfl | exact absurd h Bool.noConfusion
/-- a slice's bound: none, or an expression -/
noncomputable def SndO (W : Amb) (Δ : CallT) (n : Nat) (nm : Names) (e : ME) (x : Option PySem.Expr) : Prop := match x with
  | none => e = .none
  | some x => SndE W Δ n nm e x
theorem valueOrNone_ {e : ME} {x : Option PySem.Expr} (h : SndO W Δ n nm e x) {hd : Bool} {A : Around} {fs : List Env} {env : Env} {ρ : Sto} {Ψ : Psi} {H : MH} {s : Shared} {Q : MV → MH → Prop} {X : String → MH → Prop}
    (C : Cx n hd A fs env nm) (R : EnvRel Ψ env ρ) (S : St W fs Ψ H s) (z : wE Δ hd e ρ H Q X) : wpAny W.M A (valueOrNone (evalOpt x env)) (PostE W fs Ψ Q) (PostX W fs Ψ X) s := by
  cases x with
  | none => obtain rfl : e = .none := h; exact wpAny_pure (.now S .none z)
  | some x => exact h C R S z
theorem snd_slice {e lo hi : ME} {x : PySem.Expr} {l u : Option PySem.Expr} {pos pos' : Pos} (he : SndE W Δ n nm e x) (hl : SndO W Δ n nm lo l) (hu : SndO W Δ n nm hi u) : SndE W Δ n nm (.slice e lo hi) (.Subscript x (.Slice l u none pos') pos) := by
  intro hd A fs env ρ Ψ H s Q X C R S h
  refine PyProof.Rows.Subscript_ (monoE (he C R S h) fun Ψ₁ H₁ ma a s₁ S₁ K₁ va h₁ => ?_)
  refine wpAny_bind (wpAny_mono (monoE (valueOrNone_ hl C (R.keep K₁) S₁ h₁) fun Ψ₂ H₂ mb b s₂ S₂ K₂ vb h₂ => ?_) (fun _ _ x => x) fun _ _ x => x.from K₁)
  have K12 := K₁.trans K₂
  refine wpAny_bind (wpAny_holding (wpAny_mono (monoE (valueOrNone_ hu C (R.keep K12) S₂ h₂) fun Ψ₃ H₃ mc c s₃ S₃ K₃ vc h₃ => ?_) (fun _ _ x => x) fun _ _ x => x.from K12))
  refine wpAny_bind (wpAny_holding (wpAny_pure ?_))
  refine wpAny_newObj_type ?_
  exact lift (K12.trans K₃) (op_slice S₃ (va.mono (K₂.trans K₃).fix) (vb.mono K₃.fix) vc h₃ fun o i => rfl)
theorem snd_sub {e i : ME} {x y : PySem.Expr} {pos : Pos} (hs : notSlice y = true) (he : SndE W Δ n nm e x) (hi : SndE W Δ n nm i y) : SndE W Δ n nm (.sub e i) (.Subscript x y pos) := by
  intro hd A fs env ρ Ψ H s Q X C R S h
  refine PyProof.Rows.Subscript_ (monoE (he C R S h) fun Ψ₁ H₁ ma a s₁ S₁ K₁ va h₁ => ?_)
  refine wpAny_mono (monoE (hi C (R.keep K₁) S₁ h₁) fun Ψ₂ H₂ mb b s₂ S₂ K₂ vb h₂ => ?_) (fun _ _ x => x) fun _ _ x => x.from K₁
  obtain ⟨x, hx, q⟩ := h₂
  exact lift (K₁.trans K₂) (op_sub S₂ (va.mono K₂.fix) vb hx q (notSlice_sub hs))
end
end Mine
end
section
set_option autoImplicit false
set_option linter.unusedVariables false
namespace Mine
open PySem

section
variable {W : Amb} {K : PySem.W.Frag} {Δ : CallT} {n : Nat} {nm : Names}

/-- the text's own objects stay -/
theorem Facts.at {fs : List Env} {Ψ : Psi} {H : MH} {s : Shared} (F : Facts W K) (S : St W fs Ψ H s) : K.In s.heap := F.inn.keeps S.base

noncomputable def allPlain (xs : List PySem.Expr) : Bool := xs.all notStarred
theorem backTo_plain {xs : List PySem.Expr} {pos : Pos} {env : Env} (h : allPlain xs = true) : (backTo pos (starEach xs env)).any (·.1) = false := by
  induction xs with
  | nil => rfl
  | cons x xs ih =>
    obtain ⟨h1, h2⟩ := and_of h
    rw [starEach_cons h1]
    exact ih h2
theorem evalArgs_of {xs : List PySem.Expr} {pos : Pos} {env : Env} {f : Value} {M : Model} {A : Around} {E : Value → Shared → Prop} {s : Shared} {Q : Args → Shared → Prop} (hp : allPlain xs = true)
    (h : wpAny M A (spliced (backTo pos (starEach xs env))) (fun vs s' => Q ⟨vs, []⟩ s') E s) : wpAny M A (evalArgs f true (backTo pos (starEach xs env)) []) Q E s := by
  cases xs with
  | nil =>
    unfold evalArgs
    show wpAny M A (spliced [] >>= _) Q E s
    refine wpAny_bind (wpAny_mono h (fun vs s' h' => ?_) fun _ _ x => x)
    refine wpAny_bind (wpAny_pure ?_)
    refine wpAny_holding ?_
    exact wpAny_bind (wpAny_pure (wpAny_bind (wpAny_pure (wpAny_pure h'))))
  | cons x xs =>
    rw [starEach_cons (and_of hp).1] at h ⊢
    exact Calls.evalArgs_plain h

/-- a call's arguments -/
theorem callArgs {hd : Bool} {A : Around} {fs : List Env} {env : Env} {ρ : Sto} {Ψ : Psi} {H : MH} {s : Shared} {Q : MV → MH → Prop} {X : String → MH → Prop} {es : MEs} {xs : List PySem.Expr} {pos : Pos} {f : Value} {first : List Value} {Z : List MV → MH → Prop}
    (hk : ∀ h, W.h₀.StaysIn h → ∃ k, (k = Keeper.frame ∨ k = Keeper.machine ∨ k = Keeper.boundFrame) ∧ PySem.W.Looks W.M h (keeperOf f) k)
    (hp : allPlain xs = true) (hl : SndL W Δ n nm es xs) (C : Cx n hd A fs env nm) (R : EnvRel Ψ env ρ) (S : St W fs Ψ H s) (h : wEs Δ hd es ρ H Z X)
    (k : ∀ Ψ₁ H₁ s₁ vs mvs, St W fs Ψ₁ H₁ s₁ → Keep none_ Ψ Ψ₁ → All2 (VRel Ψ₁) vs mvs → Z mvs H₁ → wpAny W.M A (call f (first ++ vs)) (PostE W fs Ψ₁ Q) (PostX W fs Ψ₁ X) s₁) :
    wpAny W.M A (callWith pos f first (backTo pos (starEach xs env)) []) (PostE W fs Ψ Q) (PostX W fs Ψ X) s := by
  refine PySem.W.callWith_of (P := fun h => W.h₀.StaysIn h) ?_ hk (evalArgs_of hp (monoL (hl C R S h) fun Ψ₁ H₁ mvs vs s₁ _ S₁ K₁ va h₁ => ⟨S₁.base, lift K₁ (k Ψ₁ H₁ s₁ vs mvs S₁ K₁ va h₁)⟩))
  rw [backTo_plain hp]; rfl

theorem keeps_builtin {h : Heap} {f : Value} (hf : ∀ a, f ≠ .ref a) : ∃ k, (k = Keeper.frame ∨ k = Keeper.machine ∨ k = Keeper.boundFrame) ∧ PySem.W.Looks W.M h (keeperOf f) k :=
  ⟨.machine, .inr (.inl rfl), by cases f <;> first | exact absurd rfl (hf _) | exact PySem.W.Looks.now⟩

noncomputable def biNames : List String := ["len", "range", "min", "max", "all", "list", "sorted", "str", "int"]
noncomputable def biOk (K : PySem.W.Frag) (b : String) : Bool := biNames.contains b && (PySem.W.nsIn K mainGlobals (Str.ofString b) == some none)
theorem bi_all_ok : (biNames.all fun b => (bootBuiltins (Str.ofString b) == some (biVal b)) && !(Str.ofString b == "__name__") && (match biVal b with | .ref _ => false | _ => true)) = true := by kernel_rfl
theorem bi_boot {b : String} (h : biNames.contains b = true) : bootBuiltins (Str.ofString b) = some (biVal b) ∧ Str.ofString b ≠ "__name__" ∧ ∀ a, biVal b ≠ .ref a := by
  obtain ⟨h1, h2⟩ := and_of (List.all_eq_true.mp bi_all_ok b (List.contains_iff_mem.mp h))
  obtain ⟨h1, h3⟩ := and_of h1
  exact ⟨eq_of_beq h1, beq_eq_false_iff_ne.mp (not_of h3), fun a q => by rw [q] at h2; exact Bool.noConfusion h2⟩
theorem snd_bi {b : String} {es : MEs} {xs : List PySem.Expr} {id : Str} {p pos : Pos} (F : Facts W K) (hb : biOk K b = true) (hx : isGlob nm b id = true) (hp : allPlain xs = true) (hl : SndL W Δ n nm es xs) :
    SndE W Δ n nm (.bi b es) (.Call (.Name id p) xs [] pos) := by
  intro hd A fs env ρ Ψ H s Q X C R S h
  obtain ⟨h1, h2, h3⟩ := bi_boot (and_of hb).1
  exact wpAny_bind (loadBlt F C R S hx (eq_of_beq (and_of hb).2) h1 h2 (callArgs (fun h _ => keeps_builtin h3) hp hl C R S h fun Ψ₁ H₁ s₁ vs mvs S₁ K₁ va z => op_bi S₁ va C.hand z))

/-- a global constant -/
noncomputable def constIs : Value → MV → Bool
  | .int i _, .int j => decide (i = j)
  | .str s _, .str t => strEq s t
  | _, _ => false
theorem constIs_rel {Ψ : Psi} {v : Value} {mv : MV} (h : constIs v mv = true) : VRel Ψ v mv := by
  unfold constIs at h; split at h
  · obtain rfl := of_decide_eq_true h; exact .int
  · obtain rfl := strEq_eq h; exact .str
  · exact Bool.noConfusion h
noncomputable def gcOk (K : PySem.W.Frag) (x : String) (mv : MV) : Bool := match PySem.W.nsIn K mainGlobals (Str.ofString x) with
  | some (some v) => constIs v mv
  | _ => false
theorem snd_gconst {x : String} {mv : MV} {id : Str} {pos : Pos} (F : Facts W K) (hg : gcOk K x mv = true) (hx : isGlob nm x id = true) : SndE W Δ n nm (.gconst x mv) (.Name id pos) := by
  intro hd A fs env ρ Ψ H s Q X C R S h
  unfold gcOk at hg
  split at hg
  · rename_i v hv
    exact loadGlob F C R S hx hv (.now S (constIs_rel hg) h)
  · exact Bool.noConfusion hg

/-! attributes of an instance -/
theorem nsFind_list {es : Array DictEntry} {x : Str} : nsFind es x = (es.toList.find? (·.key.isStr x)).map (·.val) := by
  unfold nsFind findBy
  rw [Array.find?_toList]
theorem noRef {es : Array DictEntry} (h : StrKeys es) : es.toList.any (·.refKey) = false := by
  rw [List.any_eq_false]
  intro e he
  obtain ⟨m, t, q⟩ := h e (by simpa using he)
  simp [DictEntry.refKey, q]
theorem look_own {es : Array DictEntry} {k : Nat} {o : Obj} {x : Str} (h : StrKeys es) (hd : o.data = .dict es k) : PySem.W.lookIn x o = some (nsFind es x) := by
  unfold PySem.W.lookIn
  rw [hd, nsFind_list]
  dsimp only
  cases q : List.find? (fun x_1 => x_1.key.isStr x) es.toList with
  | some e => rfl
  | none => simp [noRef h]
inductive InstO (W : Amb) (Ψ : Psi) (h : Heap) (a : Addr) (l : List (String × MV)) : Prop
  | mk (ox : Obj) (d : Addr) (od : Obj) (ents : Array DictEntry) (k : Nat) (h1 : Ψ a = some (.inst d)) (h2 : Ψ d = some (.idict a l)) (I : PySem.W.InstAt h a ox (W.ca "Train") (some od)) (hd : ox.dict = some d) (hod : h.get? d = some od) (he : od.ExactDict) (hk : od.data = .dict ents k) (hs : StrKeys ents) (hsz : ents.size ≤ l.length)
    (hn : ∀ x, fsGet l x = none → nsFind ents (Str.ofString x) = none) (hf : ∀ x mv, fsGet l x = some mv → ∃ v, nsFind ents (Str.ofString x) = some v ∧ VRel Ψ v mv)
theorem St.inst {fs : List Env} {Ψ : Psi} {H : MH} {s : Shared} (S : St W fs Ψ H s) {a : Addr} {l : List (String × MV)} (h : H a = some (.inst l)) : InstO W Ψ s.heap a l := by
  obtain ⟨d, h1, h2⟩ := S.heap a _ h
  obtain ⟨ox, ho, hc, hd, hp⟩ := S.typed _ _ h1
  obtain ⟨od, hod, he, ents, k, hk, hs, hn, hf⟩ := S.typed _ _ h2
  exact ⟨ox, d, od, ents, k, h1, h2, ⟨ho, hc, by unfold PySem.W.notCls; rw [hp], by rw [hd]; exact hod⟩, hd, hod, he, hk, hs.1, hs.2, hn, hf⟩
theorem handed_of {Ψ : Psi} {v : Value} {mv : MV} (h : VRel Ψ v mv) : PySem.W.handedIn v = true := by cases h <;> rfl
noncomputable def attrOk (ca : String → Addr) (K : PySem.W.Frag) (f : Str) : Bool := PySem.W.plainGet K (ca "Train") f && PySem.W.hasDictIn K (ca "Train") && (PySem.W.findIn K (.ref (ca "Train")) f == some none)
theorem op_attr {A : Around} {fs : List Env} {Ψ : Psi} {H : MH} {s : Shared} {Q : MV → MH → Prop} {E : Value → Shared → Prop} {v : Value} {mv x : MV} {f : String} {b : Bool} (F : Facts W K) (ha : attrOk W.ca K (Str.ofString f) = true) (S : St W fs Ψ H s) (hv : VRel Ψ v mv) (h : AttrR H mv f x) (q : Q x H) :
    wpAny W.M A (getAttr v (Str.ofString f) b) (PostE W fs Ψ Q) E s := by
  cases h with
  | mk hl hx =>
    obtain rfl := vref hv
    obtain ⟨ox, d, od, ents, k, h1, h2, I, hd, hod, he, hk, hs, hsz, hn, hf⟩ := S.inst hl
    obtain ⟨w, hw, vw⟩ := hf _ _ hx
    exact PySem.W.get_value (F.at S) I (PySem.W.plainGet_of (and_of (and_of ha).1).1).1 (PySem.W.findObj_own (and_of (and_of ha).1).2 (eq_of_beq (and_of ha).2) rfl ((look_own hs hk).trans (by rw [hw]))) (handed_of vw) (.now (S.toks _) vw q)
noncomputable def notSuper (x : PySem.Expr) : Bool := !Nat.beq x.ctorIdx 16
theorem base_of {o : PySem.Expr} {name : Str} {env : Env} {t : Sem Value} (h : notSuper o = true) : attributeBase o name env t = t := by
  cases o <;> first | rfl | exact absurd h Bool.noConfusion
theorem snd_attr {e : ME} {x : PySem.Expr} {f : String} {nf : Str} {pos : Pos} (F : Facts W K) (hf : strEq nf (Str.ofString f) = true) (ha : attrOk W.ca K (Str.ofString f) = true) (hb : notSuper x = true) (he : SndE W Δ n nm e x) : SndE W Δ n nm (.attr e f) (.Attribute x nf pos) := by
  intro hd A fs env ρ Ψ H s Q X C R S h
  obtain rfl := strEq_eq hf
  refine PyProof.Rows.Attribute_any_ (monoE (he C R S h) fun Ψ₁ H₁ mv v s₁ S₁ K₁ va h₁ => h₁.elim fun x z => lift K₁ (op_attr F ha S₁ va z.1 z.2)) ?_
  rw [arm_eval_Attribute, base_of hb]

/-! calls of a method -/
theorem methCall {o : PySem.Expr} {name : Str} {apos pos : Pos} {args : List PySem.Expr} {env : Env} {M : Model} {A : Around} {E : Value → Shared → Prop} {s : Shared} {Q : Value → Shared → Prop} (hb : notSuper o = true) (hp : allPlain args = true) (hl : args.length < 29) (hpos : (apos.endLine == pos.line) = true)
    (h : wpAny M A (eval o env) (fun ov s₁ => ∀ pl, wpAny M A (getMethod ov name pl) (fun fx s₂ => wpAny M A (callWith pos fx.1 fx.2 (backTo pos (starEach args env)) []) Q E s₂) E s₁) E s) :
    wpAny M A (eval (.Call (.Attribute o name apos) args [] pos) env) Q E s := by
  rw [arm_eval_Call, base_of hb]
  refine wpAny_bind (wpAny_mono h (fun ov s₁ h₁ => wpAny_bind (wpAny_standAt ?_)) fun _ _ x => x)
  have hfew : methodCallForm (args.length + ([] : List Keyword).length) (backTo pos (starEach args env)) (backToKw pos (keywordEach [] env)) = true := by
    unfold methodCallForm
    have e1 : (backTo pos (starEach args env)).all (fun x => !x.1) = true := by
      have := backTo_plain (pos := pos) (env := env) hp
      rw [List.any_eq_false] at this
      rw [List.all_eq_true]
      intro x hx; simpa using this x hx
    rw [e1]
    have : args.length + ([] : List Keyword).length + (if (backToKw pos (keywordEach [] env)).isEmpty then 0 else 1) < 30 := by
      show args.length + 0 + 0 < 30
      (first | lia | omega)
    simp only [Bool.true_and, Bool.and_eq_true, decide_eq_true_eq]
    exact ⟨rfl, this⟩
  unfold methodCall
  rw [hfew]
  unfold calleeOf
  rw [if_pos rfl]
  refine wpAny_bind (wpAny_holding (wpAny_mono (h₁ _) (fun fx s₂ h₂ => ?_) fun _ _ x => x))
  unfold methodCallPos
  rw [hpos, Bool.not_true, Bool.false_or, if_pos rfl]
  exact wpAny_bind (wpAny_pure h₂)
end
end Mine
end
section
set_option autoImplicit false
set_option linter.unusedVariables false
namespace Mine
open PySem

section
variable {W : Amb} {K : PySem.W.Frag} {Δ : CallT} {n : Nat} {nm : Names} {fs : List Env} {Ψ : Psi} {H : MH} {s : Shared} {A : Around} {Q : MV → MH → Prop} {E : Value → Shared → Prop} {X : String → MH → Prop}

/-! objects are turned -/
/-- a list or a dict in the law's sight becomes another -/
theorem St.setObj (S : St W fs Ψ H s) {a : Addr} {k₀ k : HK} {o : Obj} {mo : MObj} {tk : Nat} {h' : Heap} (e0 : Ψ a = some k₀) (hd : k₀.data = true) (hi : ∀ b fs, k₀ ≠ .idict b fs) (hk : HRel (Ψ.set a k) a mo) (hr : W.O (Ψ.set a k) o k)
    (hs : Heap.SameBut a s.heap h') (ho : h'.get? a = some o) (hdc : ∀ es, k = .dct es → (a == sysModules) = false) (q : Q .none (H.set a mo)) : PostE W fs Ψ Q .none { s with heap := h', toks := tk } ∧ St W fs (Ψ.set a k) (H.set a mo) { s with heap := h', toks := tk } := by
  have S' : St W fs (Ψ.set a k) (H.set a mo) { s with heap := h', toks := tk } := by
    refine S.turned (s' := { s with heap := h', toks := tk }) e0 (sort_data hd).2 (fun m z => by subst z; exact Bool.noConfusion hd) hr hs ho (fun b x e => ?_) rfl rfl hdc
    by_cases q : b = a
    · subst q; exact Option.some.inj ((MH.set_self _ _ _).symm.trans e) ▸ hk
    · have := S.heap b x ((MH.set_ne _ _ q).symm.trans e)
      cases x with
      | inst l => exact this.imp fun d z => ⟨(Psi.set_ne _ _ q).trans z.1, (Psi.set_ne _ _ (fun w => by subst w; exact hi _ _ (Option.some.inj (e0.symm.trans z.2)))).trans z.2⟩
      | _ => exact (Psi.set_ne _ _ q).trans this
  exact ⟨⟨_, _, .none, S', .set_data _ e0 hd, .none, q⟩, S'⟩
theorem set_list (S : St W fs Ψ H s) {a : Addr} {l l' : List MV} {items : Array Value} {k : Nat} {tk : Nat} {h' : Heap} (h : H a = some (.lst l)) (va : All2 (VRel Ψ) items.toList l') (hb : l'.length ≤ bigList)
    (hs : Heap.SameBut a s.heap h') (ho : h'.get? a = some { cls := .type "list", dict := none, data := .seq items k, slots := #[] }) :
    St W fs (Ψ.set a (.lst l')) (H.set a (.lst l')) { s with heap := h', toks := tk } ∧ Keep none_ Ψ (Ψ.set a (.lst l')) :=
  have e0 : Ψ a = some (.lst l) := S.heap a _ h
  ⟨(S.setObj (Q := fun _ _ => True) (mo := .lst l') e0 rfl (fun _ _ q => HK.noConfusion q) (Psi.set_self _ _ _) ⟨items, k, rfl, va.mono fun _ _ => VRel.mono (.set_turn _ e0 rfl), hb⟩ hs ho (fun _ q => HK.noConfusion q) trivial).2, .set_data _ e0 rfl⟩
theorem set_dict (S : St W fs Ψ H s) {a : Addr} {l l' : List (Int × MV)} {kvs : List (Int × Value)} {tk : Nat} {h' : Heap} (h : H a = some (.dct l)) (va : All2 (ERel Ψ) kvs l')
    (hs : Heap.SameBut a s.heap h') (ho : h'.DictOf (intKind W.prog W.w) a kvs) :
    St W fs (Ψ.set a (.dct l')) (H.set a (.dct l')) { s with heap := h', toks := tk } ∧ Keep none_ Ψ (Ψ.set a (.dct l')) := by
  have e0 : Ψ a = some (.dct l) := S.heap a _ h
  obtain ⟨o, ho, hd⟩ := Heap.dictOf_iff.mp ho
  exact ⟨(S.setObj (Q := fun _ _ => True) (mo := .dct l') e0 rfl (fun _ _ q => HK.noConfusion q) (Psi.set_self _ _ _) ⟨kvs, hd, va.mono fun _ _ x => ⟨x.1, x.2.mono (.set_turn _ e0 rfl)⟩⟩ hs ho (fun _ _ => S.dsys _ _ e0) trivial).2, .set_data _ e0 rfl⟩

/-! methods of lists and dicts -/
theorem op_append {a : Addr} {l : List MV} {v : Value} {x : MV} (S : St W fs Ψ H s) (h : H a = some (.lst l)) (hl : l.length < bigList) (hv : VRel Ψ v x) (hq : Q .none (H.set a (.lst (l ++ [x])))) :
    wpAny W.M A (call (.builtin "list.append") [.ref a, v]) (PostE W fs Ψ Q) E s := by
  obtain ⟨items, k, h1, r, z, b⟩ := S.lst h
  refine call_meets F.slot_list_append ⟨_, h1, rfl⟩ F.entry_list_append (F.args_list_append_2 _ _) (AutoListH.list_append_list_val_0 a items k v (by rw [z]; unfold bigList at hl; unfold sizeLine; (first | lia | omega))) ⟨h1, ?_⟩
  obtain ⟨k', ho⟩ : ∃ k', (s.heap.update a (Obj.mapSeq fun xs => xs.push v)).get? a = some { cls := .type "list", dict := none, data := .seq (items.push v) k', slots := #[] } := ⟨_, (Heap.get?_update_self _ h1 rfl).trans rfl⟩
  obtain ⟨S', K'⟩ := set_list (tk := s.toks) S h (l' := l ++ [x]) (items := items.push v) (by rw [Array.toList_push]; exact r.append (.cons hv .nil)) (by rw [List.length_append]; exact hl) (Heap.SameBut.update ..) ho
  exact ⟨_, _, .none, S', K', .none, hq⟩
theorem All2.erase {α β : Type} {R : α → β → Prop} {l : List α} {r : List β} (h : All2 R l r) : ∀ i : Nat, All2 R (l.eraseIdx i) (r.eraseIdx i) := by
  induction h with
  | nil => intro i; exact .nil
  | cons h t ih => intro i; cases i with
    | zero => exact t
    | succ i => exact .cons h (ih i)
theorem map_eraseIdx {α β : Type} (f : α → β) : ∀ (l : List α) (i : Nat), (l.eraseIdx i).map f = (l.map f).eraseIdx i
  | [], _ => rfl
  | _ :: _, 0 => rfl
  | x :: l, i + 1 => congrArg (f x :: ·) (map_eraseIdx f l i)
theorem erase_idx {x : Int} : ∀ {is : List Int}, x ∈ is → is.idxOf x < is.length ∧ is[is.idxOf x]? = some x ∧ (∀ m, m < is.idxOf x → is[m]? ≠ some x) ∧ (is.erase x).map MV.int = (is.map MV.int).eraseIdx (is.idxOf x) := by
  intro is h
  have h1 : is.idxOf x < is.length := List.idxOf_lt_length_of_mem h
  refine ⟨h1, by rw [List.getElem?_eq_getElem h1, List.getElem_idxOf], fun m hm q => ?_, by rw [List.erase_eq_eraseIdx_of_idxOf rfl]; exact map_eraseIdx _ _ _⟩
  have := List.not_of_lt_findIdx (p := (· == x)) hm
  have hl : m < is.length := Nat.lt_trans hm h1
  rw [List.getElem?_eq_getElem hl] at q
  rw [Option.some.inj q] at this
  simp at this
theorem op_remove {a : Addr} {is : List Int} {i : Int} {t : Tok} (S : St W fs Ψ H s) (h : H a = some (.lst (is.map .int))) (hi : i ∈ is) (hq : Q .none (H.set a (.lst ((is.erase i).map .int)))) :
    wpAny W.M A (call (.builtin "list.remove") [.ref a, .int i t]) (PostE W fs Ψ Q) E s := by
  obtain ⟨items, k, h1, r, z, b⟩ := S.lst h
  obtain ⟨j1, j2, j3, j4⟩ := erase_idx hi
  rw [List.length_map] at z b
  have hI := intsAre_of r
  have at_ : ∀ (m : Nat) (hm : m < items.size) (y : Int), is[m]? = some y → PyProof.Rows.isInt i items[m] = (y == i) := fun m hm y hy => by
    obtain ⟨v, hv, hr⟩ := r.get m (.int y) (by rw [List.getElem?_map, hy]; rfl)
    rw [Array.getElem?_toList, Array.getElem?_eq_getElem hm] at hv
    rw [Option.some.inj hv]
    obtain ⟨t, rfl⟩ := vint hr
    rfl
  refine call_meets F.slot_list_remove ⟨_, h1, rfl⟩ F.entry_list_remove (F.args_list_remove_2 _ _) (MeetsSeq.list_remove a items k (.int i t) (PyProof.Rows.isInt i) (fun y hy => PyProof.Rows.eq_isInt i t hI y (by simpa using hy)) (is.idxOf i) (z ▸ j1)
    ((at_ _ _ _ j2).trans (beq_self_eq_true i)) (fun m hm hlt => ?_) (z ▸ big_le b)) ⟨h1, ?_⟩
  · have hm' : m < is.length := z ▸ hm
    rw [at_ m hm _ (List.getElem?_eq_getElem hm')]
    exact beq_eq_false_iff_ne.mpr fun q => j3 m hlt (by rw [List.getElem?_eq_getElem hm', q])
  · obtain ⟨k', ho⟩ : ∃ k', (s.heap.update a (Obj.mapSeq fun xs => xs.eraseIdxIfInBounds (is.idxOf i))).get? a = some { cls := .type "list", dict := none, data := .seq (items.eraseIdxIfInBounds (is.idxOf i)) k', slots := #[] } := ⟨_, (Heap.get?_update_self _ h1 rfl).trans rfl⟩
    obtain ⟨S', K'⟩ := set_list (tk := s.toks) S h (l' := (is.erase i).map .int) (items := items.eraseIdxIfInBounds (is.idxOf i)) (by rw [j4, Array.eraseIdxIfInBounds, dif_pos (z ▸ j1 : is.idxOf i < items.size), Array.toList_eraseIdx]; exact r.erase _) (by rw [List.length_map]; exact Nat.le_trans List.length_erase_le b) (Heap.SameBut.update ..) ho
    exact ⟨_, _, .none, S', K', .none, hq⟩
theorem All2.map_both {α β γ δ : Type} {R : α → β → Prop} {T : γ → δ → Prop} {f : α → γ} {g : β → δ} {l : List α} {r : List β} (h : All2 R l r) (k : ∀ a b, R a b → T (f a) (g b)) : All2 T (l.map f) (r.map g) := by
  induction h with
  | nil => exact .nil
  | cons h _ ih => exact .cons (k _ _ h) ih
theorem without_rel {kvs : List (Int × Value)} {es : List (Int × MV)} {k : Int} (r : All2 (ERel Ψ) kvs es) : All2 (ERel Ψ) (without kvs k) (dDel es k) := by
  unfold without dDel
  induction r with
  | nil => exact .nil
  | @cons p q l r h _ ih =>
    rw [List.filter_cons, List.filter_cons, h.1]
    split
    · exact .cons h ih
    · exact ih
theorem stored_rel {kvs : List (Int × Value)} {es : List (Int × MV)} {k : Int} {v : Value} {x : MV} (hv : VRel Ψ v x) (r : All2 (ERel Ψ) kvs es) : All2 (ERel Ψ) (stored kvs k v) (dSet es k x) := by
  have e1 : kvs.any (fun kv => decide (kv.1 = k)) = es.any (fun kv => decide (kv.1 = k)) := by
    induction r with
    | nil => rfl
    | cons h _ ih => rw [List.any_cons, List.any_cons, h.1, ih]
  unfold stored dSet
  rw [e1]
  split
  · refine r.map_both fun p q h => ?_
    rw [h.1]
    by_cases z : q.1 = k
    · rw [if_pos z, if_pos z]; exact ⟨rfl, hv⟩
    · rw [if_neg z, if_neg z]; exact h
  · exact r.append (.cons ⟨rfl, hv⟩ .nil)
theorem op_dpop {a : Addr} {es : List (Int × MV)} {k : Int} {t : Tok} {x : MV} (S : St W fs Ψ H s) (h : H a = some (.dct es)) (hl : es.length ≤ bigList) (hx : dGet es k = some x) (hq : Q x (H.set a (.dct (dDel es k)))) :
    wpAny W.M A (call (.builtin "dict.pop") [.ref a, .int k t]) (PostE W fs Ψ Q) E s := by
  obtain ⟨kvs, d, r, _⟩ := S.dct h
  rcases valueAt_dct k r with ⟨_, h2⟩ | ⟨v, mv, h1, h2, hr⟩
  · exact nn h2 hx
  · obtain rfl := Option.some.inj (h2.symm.trans hx)
    refine call_meetsIn F.slot_dict_pop d.typeIs F.entry_dict_pop (F.args_dict_pop_2 _ _) (meets_dict_pop_there (intKind W.prog W.w) a intKey [] (.inl rfl) rfl) ⟨kvs, v, d, by rw [r.length_eq]; exact big_le hl, h1, fun h' hd hs => ?_⟩
    obtain ⟨S', K'⟩ := set_dict (tk := s.toks + 1) S h (without_rel (k := k) r) hs hd
    exact ⟨_, _, mv, S', K', hr.mono K'.fix, hq⟩

theorem op_index {a : Addr} {is : List Int} {i : Int} {t : Tok} (S : St W fs Ψ H s) (h : H a = some (.lst (is.map .int))) (hi : i ∈ is) (hq : Q (.int (is.idxOf i)) H) :
    wpAny W.M A (call (.builtin "list.index") [.ref a, .int i t]) (PostE W fs Ψ Q) E s := by
  obtain ⟨items, k, h1, r, z, b⟩ := S.lst h
  obtain ⟨j1, j2, j3, _⟩ := erase_idx hi
  rw [List.length_map] at z b
  have hI := intsAre_of r
  have at_ : ∀ (m : Nat) (hm : m < items.size) (y : Int), is[m]? = some y → PyProof.Rows.isInt i items[m] = (y == i) := fun m hm y hy => by
    obtain ⟨v, hv, hr⟩ := r.get m (.int y) (by rw [List.getElem?_map, hy]; rfl)
    rw [Array.getElem?_toList, Array.getElem?_eq_getElem hm] at hv
    rw [Option.some.inj hv]
    obtain ⟨t, rfl⟩ := vint hr
    rfl
  refine call_meets F.slot_list_index ⟨_, h1, rfl⟩ F.entry_list_index (F.args_list_index_2 _ _) (SeqAt.list_indexAt a items k none #[] (.int i t) (PyProof.Rows.isInt i) (is.idxOf i) (z ▸ j1) (by unfold bigList at b; (first | lia | omega))
    ((at_ _ _ _ j2).trans (beq_self_eq_true i)) (fun m hm hlt => ?_)) ⟨h1, fun y hy => (PyProof.Rows.eq_isInt i t hI y (by simpa using hy)).at _ _, .int S hq⟩
  have hm' : m < is.length := z ▸ hm
  rw [at_ m hm _ (List.getElem?_eq_getElem hm')]
  exact beq_eq_false_iff_ne.mpr fun q => j3 m hlt (by rw [List.getElem?_eq_getElem hm', q])
theorem op_lpop {a : Addr} {l : List MV} {i : Int} {x : MV} {t : Tok} (S : St W fs Ψ H s) (h : H a = some (.lst l)) (h0 : 0 ≤ i) (hx : l[i.toNat]? = some x) (hq : Q x (H.set a (.lst (l.eraseIdx i.toNat)))) :
    wpAny W.M A (call (.builtin "list.pop") [.ref a, .int i t]) (PostE W fs Ψ Q) E s := by
  obtain ⟨items, k, h1, r, z, b⟩ := S.lst h
  obtain ⟨v, hv, hr⟩ := r.get _ _ hx
  rw [Array.getElem?_toList] at hv
  have hlt : i.toNat < items.size := by
    by_cases q : i.toNat < items.size
    · exact q
    · rw [Array.getElem?_eq_none (Nat.not_lt.mp q)] at hv; cases hv
  unfold bigList at b
  refine call_meets F.slot_list_pop ⟨_, h1, rfl⟩ F.entry_list_pop (F.args_list_pop_2 _ _) (MeetsSeq.list_pop_at a items k i t i.toNat v (by unfold Builtin.List.listFitsIndex; simp; (first | lia | omega)) (by unfold seqIndex?; simp; (first | lia | omega)) hv (z ▸ big_le (by unfold bigList; exact b))) ⟨h1, ?_⟩
  obtain ⟨k', ho⟩ : ∃ k', (s.heap.update a (Obj.mapSeq fun xs => xs.eraseIdxIfInBounds i.toNat)).get? a = some { cls := .type "list", dict := none, data := .seq (items.eraseIdxIfInBounds i.toNat) k', slots := #[] } := ⟨_, (Heap.get?_update_self _ h1 rfl).trans rfl⟩
  obtain ⟨S', K'⟩ := set_list (tk := s.toks) S h (l' := l.eraseIdx i.toNat) (items := items.eraseIdxIfInBounds i.toNat) (by rw [Array.eraseIdxIfInBounds, dif_pos hlt, Array.toList_eraseIdx]; exact r.erase _) (by unfold bigList; exact Nat.le_trans (List.length_eraseIdx_le _ _) b) (Heap.SameBut.update ..) ho
  exact ⟨_, _, x, S', K', hr.mono K'.fix, hq⟩
theorem op_insert {a : Addr} {l : List MV} {i : Int} {v : Value} {x : MV} {t : Tok} (S : St W fs Ψ H s) (h : H a = some (.lst l)) (h0 : 0 ≤ i) (h1 : i ≤ bigList) (hl : l.length < bigList) (hv : VRel Ψ v x) (hq : Q .none (H.set a (.lst (l.take i.toNat ++ x :: l.drop i.toNat)))) :
    wpAny W.M A (call (.builtin "list.insert") [.ref a, .int i t, v]) (PostE W fs Ψ Q) E s := by
  obtain ⟨items, k, h2, r, z, b⟩ := S.lst h
  unfold bigList at h1 hl b
  refine call_meets F.slot_list_insert ⟨_, h2, rfl⟩ F.entry_list_insert (F.args_list_insert_3 _ _ _) (AutoListH.list_insert_list_int_val_1 a items k i t v (by unfold Builtin.List.listFitsIndex; simp; (first | lia | omega)) (z ▸ big_le (by unfold bigList; exact b))) ⟨h2, ?_⟩
  have key : ∀ g : Array Value → Array Value, ∃ k', (s.heap.update a (Obj.mapSeq g)).get? a = some { cls := .type "list", dict := none, data := .seq (g items) k', slots := #[] } := fun g => ⟨_, (Heap.get?_update_self _ h2 rfl).trans rfl⟩
  obtain ⟨k', ho⟩ := key fun xs => have k := if i < 0 then (i + ((xs.size : Nat) : Int)).toNat else min i.toNat xs.size; (xs.extract 0 k).push v ++ xs.extract k
  have e1 : ((items.extract 0 (min i.toNat items.size)).push v ++ items.extract (min i.toNat items.size)).toList = items.toList.take i.toNat ++ v :: items.toList.drop i.toNat := by
    rw [Array.toList_append, Array.toList_push, Array.toList_extract, Array.toList_extract, List.append_assoc]
    have e2 : items.toList.take (min i.toNat items.size) = items.toList.take i.toNat := by
      by_cases q : i.toNat ≤ items.size
      · rw [Nat.min_eq_left q]
      · rw [Nat.min_eq_right (Nat.le_of_not_le q), List.take_of_length_le (Nat.le_of_eq Array.length_toList), List.take_of_length_le (by rw [Array.length_toList]; exact Nat.le_of_not_le q)]
    have e3 : items.toList.drop (min i.toNat items.size) = items.toList.drop i.toNat := by
      by_cases q : i.toNat ≤ items.size
      · rw [Nat.min_eq_left q]
      · rw [Nat.min_eq_right (Nat.le_of_not_le q), List.drop_of_length_le (Nat.le_of_eq Array.length_toList), List.drop_of_length_le (by rw [Array.length_toList]; exact Nat.le_of_not_le q)]
    simp only [List.extract_eq_take_drop, List.drop_zero, Nat.sub_zero, e2, e3]
    rw [List.take_of_length_le (l := items.toList.drop i.toNat) (by rw [List.length_drop, Array.length_toList]; (first | lia | omega))]; rfl
  obtain ⟨S', K'⟩ := set_list (tk := s.toks) S h (l' := l.take i.toNat ++ x :: l.drop i.toNat) (by dsimp only; rw [if_neg (Int.not_lt.mpr h0), e1]; exact (r.take _).append (.cons hv (r.drop _))) (by rw [List.length_append, List.length_cons, List.length_take, List.length_drop]; unfold bigList; (first | lia | omega)) (Heap.SameBut.update ..) ho
  exact ⟨_, _, .none, S', K', .none, hq⟩
theorem op_get {a : Addr} {es : List (Int × MV)} {k : Int} {t : Tok} {v : Value} {d : MV} (S : St W fs Ψ H s) (h : H a = some (.dct es)) (hv : VRel Ψ v d) (hq : Q ((dGet es k).getD d) H) :
    wpAny W.M A (call (.builtin "dict.get") [.ref a, .int k t, v]) (PostE W fs Ψ Q) E s := by
  obtain ⟨kvs, m, r, ns⟩ := S.dct h
  refine call_meetsIn F.slot_dict_get m.typeIs F.entry_dict_get (F.args_dict_get_3 _ _ _) (meets_dict_get_default (intKind W.prog W.w) a intKey ns v) ⟨_, m.mapOf, ?_⟩
  rcases valueAt_dct k r with ⟨h1, h2⟩ | ⟨u, mu, h1, h2, hr⟩
  · rw [h1]; rw [h2] at hq; exact .now (S.toks _) hv hq
  · rw [h1]; rw [h2] at hq; exact .now (S.toks _) hr hq
/-! methods of strings -/
theorem strs_all2 {l : List (Str × Tok)} {ts : List Str} (h : l.map (·.1) = ts) : All2 (VRel Ψ) (strValues l) (ts.map .str) := by
  subst h
  induction l with
  | nil => exact .nil
  | cons p l ih => exact .cons .str ih
theorem strs_of {vs : List Value} {ts : List Str} (h : All2 (VRel Ψ) vs (ts.map .str)) : ∃ l : List (Str × Tok), vs = strValues l ∧ l.map (·.1) = ts := by
  induction ts generalizing vs with
  | nil => cases h; exact ⟨[], rfl, rfl⟩
  | cons x ts ih => cases h with | cons hv t => obtain ⟨l, rfl, rfl⟩ := ih t; obtain ⟨u, rfl⟩ := vstr hv; exact ⟨(x, u) :: l, rfl, rfl⟩
theorem op_split {x y : Str} {t u : Tok} (S : St W fs Ψ H s) (hy : (y.length == 0) = false) (hx : x.length < bigList) (hq : New H Q ((Txt.split x y).map .str)) :
    wpAny W.M A (call (.builtin "str.split") [.str x t, .str y u]) (PostE W fs Ψ Q) E s := by
  have y1 : 1 ≤ y.length := Nat.pos_of_ne_zero (beq_eq_false_iff_ne.mp hy)
  have hw := PyProof.Rows.split_weight x y y1
  have hlen : ((Txt.split x y).map MV.str).length ≤ bigList := by rw [List.length_map]; (first | lia | omega)
  have fin : ∀ (l : List (Str × Tok)) (k : Nat), l.map (·.1) = Txt.split x y → PostE W fs Ψ Q (.ref s.heap.objs.size) { s with heap := s.heap.push { cls := .type "list", data := .seq (strValues l).toArray }, toks := k } := fun l k e =>
    .newList (s := { s with toks := k }) (S.toks k) (strs_all2 e) hlen hq
  have hz := big_le (Nat.le_of_lt hx)
  cases h1 : (decide (x.length < y.length) || decide (Builtin.Str.strKind x < Builtin.Str.strKind y))
  · cases hf : (Builtin.Str.occurrences x y 0 x.length (x.length + 1)).isEmpty
    · have es : Txt.split x y = Builtin.Str.partsBetween x (Builtin.Str.occurrences x y 0 x.length (x.length + 1)) y.length := (if_neg (ne_true_of_eq_false h1)).trans (if_neg (ne_true_of_eq_false hf))
      refine call_meets F.slot_str_split (typeIs_str _ _ _) F.entry_str_split (F.args_str_split_2 _ _) (meets_str_split_sep x y t u h1 hy hf hz (by rw [← es]; rw [List.length_map] at hlen; exact big_le hlen)) ?_
      show wants _ E _ { s with toks := _, heap := s.heap.push { cls := .type "list", data := .seq (strsFrom s.toks (Builtin.Str.partsBetween x (Builtin.Str.occurrences x y 0 x.length (x.length + 1)) y.length)).toArray } }
      rw [strsFrom_eq]
      exact fin (numbered s.toks _) _ ((numbered_texts _ _).trans es.symm)
    · exact call_meets F.slot_str_split (typeIs_str _ _ _) F.entry_str_split (F.args_str_split_2 _ _) (meets_str_split_not_found x y t u h1 hy hf) (fin [(x, t)] s.toks ((if_neg (ne_true_of_eq_false h1)).trans (if_pos hf)).symm)
  · exact call_meets F.slot_str_split (typeIs_str _ _ _) F.entry_str_split (F.args_str_split_2 _ _) (meets_str_split_cannot_occur x y t u h1) (fin [(x, t)] s.toks (if_pos h1).symm)
theorem op_join {x : Str} {a : Addr} {ts : List Str} {t : Tok} (S : St W fs Ψ H s) (h : LstAt H a (ts.map .str)) (hok : JoinOk x ts = true) (hq : Q (.str (Txt.join x ts)) H) :
    wpAny W.M A (call (.builtin "str.join") [.str x t, .ref a]) (PostE W fs Ψ Q) E s := by
  obtain ⟨items, l1, r, z, b⟩ := S.lstAt h
  obtain ⟨l, e, ht⟩ := strs_of r
  exact SC.join (l := l) (by rw [← e, Array.toArray_toList]; exact l1) ht hok fun t' k => .now (S.toks k) .str hq
/-- a method's own name -/
noncomputable def bmId : Nat → String → String
  | 0, m => "dict." ++ m
  | 1, m => "list." ++ m
  | _, m => "str." ++ m
theorem not_both {a : Addr} {l : List MV} {es : List (Int × MV)} (h : H a = some (.lst l)) (h' : H a = some (.dct es)) {P : Prop} : P := absurd (h.symm.trans h') fun q => MObj.noConfusion (Option.some.inj q)
theorem op_bm {m : String} {v : Value} {vs : List Value} {mv : MV} {mvs : List MV} {k : Nat} (S : St W fs Ψ H s) (hv : VRel Ψ v mv) (hvs : All2 (VRel Ψ) vs mvs) (hk : KindR H mv m k) (h : BmR H Q m mv mvs) : wpAny W.M A (call (.builtin (bmId k m)) (v :: vs)) (PostE W fs Ψ Q) E s := by
  cases h with
  | append h hl q =>
    obtain rfl := vref hv
    obtain ⟨v, rfl, hv⟩ := all2_1 hvs
    cases hk with
    | lst _ _ => exact op_append S h hl hv q
    | dct h' _ => exact not_both h h'
  | remove h hi q =>
    obtain rfl := vref hv
    obtain ⟨t, rfl⟩ := arg_int hvs
    cases hk with
    | lst _ _ => exact op_remove S h hi q
    | dct h' _ => exact not_both h h'
  | index h hi q =>
    obtain rfl := vref hv
    obtain ⟨t, rfl⟩ := arg_int hvs
    cases hk with
    | lst _ _ => exact op_index S h hi q
    | dct h' _ => exact not_both h h'
  | lpop h h0 hx q =>
    obtain rfl := vref hv
    obtain ⟨t, rfl⟩ := arg_int hvs
    cases hk with
    | lst _ _ => exact op_lpop S h h0 hx q
    | dct h' _ => exact not_both h h'
  | dpop h hl hx q =>
    obtain rfl := vref hv
    obtain ⟨t, rfl⟩ := arg_int hvs
    cases hk with
    | lst h' _ => exact not_both h' h
    | dct _ _ => exact op_dpop S h hl hx q
  | insert h h0 h1 hl q =>
    obtain rfl := vref hv
    obtain ⟨i, v, rfl, hi, hv⟩ := all2_2 hvs
    obtain ⟨t, rfl⟩ := vint hi
    cases hk with
    | lst _ _ => exact op_insert S h h0 h1 hl hv q
    | dct h' _ => exact not_both h h'
  | get h q =>
    obtain rfl := vref hv
    obtain ⟨i, v, rfl, hi, hv⟩ := all2_2 hvs
    obtain ⟨t, rfl⟩ := vint hi
    cases hk with
    | lst h' _ => exact not_both h' h
    | dct _ _ => exact op_get S h hv q
  | split hy hx q =>
    obtain ⟨t, rfl⟩ := vstr hv
    obtain ⟨v, rfl, h1⟩ := all2_1 hvs
    obtain ⟨u, rfl⟩ := vstr h1
    cases hk
    exact op_split S hy hx q
  | join h hok q =>
    obtain ⟨t, rfl⟩ := vstr hv
    obtain rfl := arg_ref hvs
    cases hk
    exact op_join S h hok q
/-- the names of the methods, and the methods -/
theorem get_list {m : String} (hm : ["append", "remove", "index", "pop", "insert"].contains m = true) {a : Addr} {l : List MV} {pl : Sem Bool} {QQ : Value × List Value → Shared → Prop} (S : St W fs Ψ H s) (h : H a = some (.lst l)) (q : QQ (.builtin (bmId 1 m), [.ref a]) s) : wpAny W.M A (getMethod (.ref a) (Str.ofString m) pl) QQ E s := by
  obtain ⟨items, k, h1, r, z, b⟩ := S.lst h
  rcases List.mem_cons.mp (List.contains_iff_mem.mp hm) with rfl | hm
  · exact getMethod_builtin ⟨_, h1, rfl⟩ F.plainAttrs_list F.slot_list_append F.type_list_append (fun a' q => Value.ref.inj q ▸ ⟨_, h1, rfl⟩) q
  rcases List.mem_cons.mp hm with rfl | hm
  · exact getMethod_builtin ⟨_, h1, rfl⟩ F.plainAttrs_list F.slot_list_remove F.type_list_remove (fun a' q => Value.ref.inj q ▸ ⟨_, h1, rfl⟩) q
  rcases List.mem_cons.mp hm with rfl | hm
  · exact getMethod_builtin ⟨_, h1, rfl⟩ F.plainAttrs_list F.slot_list_index F.type_list_index (fun a' q => Value.ref.inj q ▸ ⟨_, h1, rfl⟩) q
  rcases List.mem_cons.mp hm with rfl | hm
  · exact getMethod_builtin ⟨_, h1, rfl⟩ F.plainAttrs_list F.slot_list_pop F.type_list_pop (fun a' q => Value.ref.inj q ▸ ⟨_, h1, rfl⟩) q
  · obtain rfl := List.mem_singleton.mp hm
    exact getMethod_builtin ⟨_, h1, rfl⟩ F.plainAttrs_list F.slot_list_insert F.type_list_insert (fun a' q => Value.ref.inj q ▸ ⟨_, h1, rfl⟩) q
theorem get_dict {m : String} (hm : ["pop", "get"].contains m = true) {a : Addr} {l : List (Int × MV)} {pl : Sem Bool} {QQ : Value × List Value → Shared → Prop} (S : St W fs Ψ H s) (h : H a = some (.dct l)) (q : QQ (.builtin (bmId 0 m), [.ref a]) s) : wpAny W.M A (getMethod (.ref a) (Str.ofString m) pl) QQ E s := by
  obtain ⟨kvs, d, r, _⟩ := S.dct h
  obtain ⟨o, ho, hd⟩ := Heap.dictOf_iff.mp d
  rcases List.mem_cons.mp (List.contains_iff_mem.mp hm) with rfl | hm
  · exact getMethod_builtin d.typeIs F.plainAttrs_dict F.slot_dict_pop F.type_dict_pop (fun a' q => Value.ref.inj q ▸ ⟨o, ho, by obtain ⟨_, _, x, _⟩ := hd; exact x.2.1⟩) q
  · obtain rfl := List.mem_singleton.mp hm
    exact getMethod_builtin d.typeIs F.plainAttrs_dict F.slot_dict_get F.type_dict_get (fun a' q => Value.ref.inj q ▸ ⟨o, ho, by obtain ⟨_, _, x, _⟩ := hd; exact x.2.1⟩) q
theorem get_bm {m : String} {v : Value} {mv : MV} {k : Nat} {pl : Sem Bool} {QQ : Value × List Value → Shared → Prop} (S : St W fs Ψ H s) (hv : VRel Ψ v mv) (hk : KindR H mv m k) (q : QQ (.builtin (bmId k m), [v]) s) : wpAny W.M A (getMethod v (Str.ofString m) pl) QQ E s := by
  cases hk with
  | lst h hm => obtain rfl := vref hv; exact get_list hm S h q
  | dct h hm => obtain rfl := vref hv; exact get_dict hm S h q
  | str hm =>
    obtain ⟨t, rfl⟩ := vstr hv
    rcases List.mem_cons.mp (List.contains_iff_mem.mp hm) with rfl | hm
    · have e : bmId 2 "split" = "str.split" := by decide +kernel
      rw [e] at q
      with_reducible exact GM.split q
    · obtain rfl := List.mem_singleton.mp hm
      have e : bmId 2 "join" = "str.join" := by decide +kernel
      rw [e] at q
      with_reducible exact GM.join q
theorem snd_bm {e : ME} {es : MEs} {x : PySem.Expr} {xs : List PySem.Expr} {m : String} {nf : Str} {apos pos : Pos} (hf : strEq nf (Str.ofString m) = true) (hb : notSuper x = true) (hp : allPlain xs = true) (hlen : xs.length < 29) (hpos : (apos.endLine == pos.line) = true)
    (he : SndE W Δ n nm e x) (hl : SndL W Δ n nm es xs) : SndE W Δ n nm (.bm e m es) (.Call (.Attribute x nf apos) xs [] pos) := by
  intro hd A fs env ρ Ψ H s Q X C R S h
  obtain rfl := strEq_eq hf
  refine methCall hb hp hlen hpos (monoE (he C R S h) fun Ψ₁ H₁ mv v s₁ S₁ K₁ va h₁ pl => ?_)
  obtain ⟨k, hk, h₁⟩ := h₁
  refine get_bm S₁ va hk ?_
  exact lift K₁ (callArgs (first := [v]) (fun h _ => keeps_builtin (fun a q => Value.noConfusion q)) hp hl C (R.keep K₁) S₁ h₁ fun Ψ₂ H₂ s₂ vs mvs S₂ K₂ va₂ z => op_bm S₂ (va.mono K₂.fix) va₂ z.1 z.2)
end
end Mine
end
section
set_option autoImplicit false
set_option linter.unusedVariables false
namespace Mine
open PySem

section
variable {W : Amb} {K : PySem.W.Frag} {Δ : CallT} {n : Nat} {nm : Names} {fs : List Env} {Ψ : Psi} {H : MH} {s : Shared} {A : Around} {Q : MV → MH → Prop} {E : Value → Shared → Prop} {X : String → MH → Prop}

/-! isinstance -/
noncomputable def ExcLike (h : Heap) (x D : Addr) : Prop := ∃ o, h.get? x = some o ∧ o.cls = .ref D
theorem ExcLike.type {M : Model} {h : Heap} {x D : Addr} (I : ExcLike h x D) : PySem.W.Looks M h (typeOf (.ref x)) (.ref D) := by
  obtain ⟨o, h1, h2⟩ := I
  exact h2 ▸ (PySem.W.Looks.ld h1).andThen .now
open PySem.W Builtin Builtin.ObjectAttr Builtin.Getset_descriptor in
theorem exc_classGet {x D : Addr} {tp : Value} {R : Result → Shared → Prop} {prog : Program} {w : World} (Y : K.In s.heap) (I : ExcLike s.heap x D) (hm : mroIn K D (.type "object") = some true)
    (h : R (.ok (.ret (.ref D))) s) : codeAny (model prog w) A (.call (.builtin "getset_descriptor.__get__") ⟨[.builtin "object.__class__", .ref x, tp], []⟩) R s := by
  obtain ⟨hh, g, dr, t, os⟩ := s
  have L0 := I.type (M := model prog w)
  have L1 := looks_mroIn (M := model prog w) Y hm
  refine codeAny_call_builtin KF.slot_gs.plain KF.entry_gs (KF.slot_gs.check _ _ _ _ _ _ _ _ KF.type_class (KF.args_gs _ _ _) ?_)
  unfold Builtin.«getset_descriptor.__get__» descrGet
  rw [dga_obj]
  refine wpAny_bind (wpAny_pure ?_)
  unfold descrGetter descrCheckInstance descrNameAndClass isInstance
  simp only [KF.owner_class]
  repeat lk
  refine ⟨Code.quiet_builtin _ (by decide +kernel), codeAny_builtin KF.entry_class ?_⟩
  unfold Builtin.«object.__class__» shownTypeOf
  repeat lk
  exact h

open PySem.W PySem.Calls PyProof.Rows Builtin Builtin.ObjectAttr in
theorem exc_find {x D : Addr} {h : Heap} {M : Model} (Y : K.In h) (ha : findIn K (.ref D) "__class__" = some (some (.builtin "object.__class__")))
    (hn : specialIn K (.builtin "object.__class__") "__get__" = some (some (.builtin "getset_descriptor.__get__"))) (htk : takesIn K (.builtin "object.__class__") = some true) :
    Looks M h (find (.ref x) (.ref D) "__class__") (.bind (.builtin "getset_descriptor.__get__") (.builtin "object.__class__")) := by
  refine (looks_findIn Y ha).andThen ((show Looks M h (getOf (some (.builtin "object.__class__"))) _ from looks_specialIn Y hn).andThen ?_)
  exact (show Looks M h (dataDescriptor? (some (.builtin "object.__class__")) (some (.builtin "getset_descriptor.__get__"))) (some (.builtin "getset_descriptor.__get__", .builtin "object.__class__")) from (looks_takesIn Y htk).andThen .now).andThen (Looks.tag .now)
/-- what a class of the text must be for the walk of its instances -/
noncomputable def excOk (K : PySem.W.Frag) (D : Addr) : Bool := (PySem.W.findIn K (.ref D) "__getattribute__" == some (some (.builtin "BaseException.__getattribute__"))) && (PySem.W.findIn K (.ref D) "__getattr__" == some none) && (PySem.W.clsIn K D).isSome && (PySem.W.findIn K (.ref D) "__class__" == some (some (.builtin "object.__class__"))) &&
  (PySem.W.specialIn K (.builtin "object.__class__") "__get__" == some (some (.builtin "getset_descriptor.__get__"))) && (PySem.W.takesIn K (.builtin "object.__class__") == some true) && (PySem.W.mroIn K D (.type "object") == some true) && (PySem.W.mroIn K D (.type "BaseException") == some true)
open PySem.W in
theorem looks_cls {D : Addr} {M : Model} {h : Heap} (Y : K.In h) (hc : (clsIn K D).isSome = true) : Looks M h (isType (.ref D)) true := by
  unfold clsIn at hc
  split at hc
  · rename_i c' d' cd' sl' ho
    intro A' Q' E' s' k q
    unfold isType loadHead
    exact wpAny_bind (wpAny_loadPart (k _ _ (Y _ _ ho)) (wpAny_pure q))
  · exact Bool.noConfusion hc
open PySem.W PySem.Calls PyProof.Rows Builtin Builtin.ObjectAttr in
theorem exc_class {x D : Addr} {prog : Program} {w : World} {Q : Option Value → Shared → Prop} (hok : excOk K D = true) (Y : K.In s.heap) (I : ExcLike s.heap x D) (h : Q (some (.ref D)) { s with toks := s.toks + 1 }) :
    wpAny (model prog w) A (getAttr? (.ref x) "__class__") Q E s := by
  obtain ⟨hok, hb⟩ := and_of hok
  obtain ⟨hok, hm⟩ := and_of hok
  obtain ⟨hok, htk⟩ := and_of hok
  obtain ⟨hok, hn⟩ := and_of hok
  obtain ⟨hok, ha⟩ := and_of hok
  obtain ⟨hok, hc⟩ := and_of hok
  obtain ⟨hga, hk⟩ := and_of hok
  replace hga := eq_of_beq hga
  replace hk := eq_of_beq hk
  replace ha := eq_of_beq ha
  replace hn := eq_of_beq hn
  replace htk := eq_of_beq htk
  replace hm := eq_of_beq hm
  replace hb := eq_of_beq hb
  have L0 := I.type (M := model prog w)
  have L1 := looks_findIn (M := model prog w) Y hga
  have L2 := exc_find (M := model prog w) (x := x) Y ha hn htk
  have L3 := looks_findIn (M := model prog w) Y hk
  have L4 : Looks (model prog w) s.heap (isInstance (.ref x) (.type "BaseException")) true := L0.andThen (looks_mroIn Y hb)
  have f3 := (PySem.F.excAttr_ValueError).ga.bind (.ref x)
  obtain ⟨hh, g, d, t, os⟩ := s
  unfold getAttr? getAttrBy? getAttrBy
  refine wpAny_bind (wpAny_mkText (wpAny_bind (wpAny_attempt (wpAny_holding (wpAny_bind (L0.at (wpAny_bind (L1.at ?_))))))))
  dsimp only
  have hx2 : (Value.builtin "BaseException.__getattribute__" == Value.builtin "object.__getattribute__") = false := by decide +kernel
  rw [hx2, Bool.and_false, if_neg (by decide)]
  unfold getAttrByItsOwn hookBefore
  rw [if_pos (show onTheHeap (Value.ref D) = true from rfl)]
  refine wpAny_bind (L3.at (wpAny_bind (wpAny_attempt (wpAny_holding ?_))))
  unfold callGetattribute
  rw [if_neg (by decide)]
  unfold boundAndCalled
  rw [f3]
  refine wpAny_bind (wpAny_pure (wpAny_call ?_))
  have hk' : builtinKind "BaseException.__getattribute__" = some .slot := by decide +kernel
  have hsplit : splitId "BaseException.__getattribute__" = some ("BaseException", "__getattribute__") := by decide +kernel
  refine codeAny_call_builtin (PySem.F.excAttr_ValueError).ga.plain PySem.F.entry_bexc_ga (@check_slot (model prog w) _ _ ⟨hh, g, d, t + 1, os⟩ "BaseException.__getattribute__" "BaseException" "__getattribute__" (.ref x) [.str "__class__" t] [] _ hk' hsplit L4 (PySem.F.args_bexc_ga (.ref x) (.str "__class__" t)) ?_)
  unfold Builtin.«object.__getattribute__»
  refine wpAny_bind (wpAny_pure (wpAny_bind (wpAny_pure (wpAny_bind (L0.at (wpAny_bind (L2.at ?_)))))))
  show wpAny _ _ (holding [.builtin "object.__class__"] (call (.builtin "getset_descriptor.__get__") [.builtin "object.__class__", .ref x, .ref D]) >>= ret) _ _ _
  refine wpAny_bind (wpAny_holding (wpAny_call (exc_classGet (s := ⟨hh, g, d, t + 1, os⟩) Y I hm ?_)))
  refine wpAny_pure ?_
  dsimp only
  rw [handedOut_of rfl]
  exact wpAny_pure (wpAny_pure h)
open PySem.W PySem.Calls PyProof.Rows Builtin Builtin.ObjectAttr in
theorem exc_nested {x D : Addr} {prog : Program} {w : World} {c : Value} {dep : Int} {tk : Tok} {Q : Fin → Shared → Prop} (hok : excOk K D = true) (Y : K.In s.heap) (I : ExcLike s.heap x D) (hty : Looks (model prog w) s.heap (typeOf c) (.type "type")) (his : Looks (model prog w) s.heap (isType c) true)
    (hne : (Value.ref D == c) = false) (hsub : Looks (model prog w) s.heap (isSubtype (.ref D) c) false) (h : Q (.done (.ret (.bool false))) { s with toks := s.toks + 1 }) :
    wpAny (model prog w) A (Builtin.«isinstance.nested» ⟨[.ref x, c, .int dep tk], []⟩) Q E s := by
  have hisD : Looks (model prog w) s.heap (isType (.ref D)) true := looks_cls Y (and_of (and_of (and_of (and_of (and_of (and_of hok).1).1).1).1).1).2
  have L0 := I.type (M := model prog w)
  have LI : Looks (model prog w) s.heap (isInstance (.ref x) c) false := L0.andThen hsub
  unfold Builtin.«isinstance.nested»
  refine wpAny_bind (L0.here ?_)
  rw [if_neg (fun q => by rw [hne] at q; exact Bool.noConfusion q)]
  refine wpAny_bind (hty.here ?_)
  rw [if_pos (by decide)]
  k_delta "plainIsInstance"
  refine wpAny_bind (wpAny_bind (his.here ?_))
  simp only [Bool.not_true, Bool.false_eq_true, if_false]
  refine wpAny_bind (LI.here ?_)
  simp only [Bool.false_eq_true, if_false]
  refine wpAny_bind (exc_class hok Y I ?_)
  refine wpAny_bind (hisD _ _ _ _ (fun _ _ e => e) ?_)
  simp only [Bool.not_true, Bool.false_eq_true, if_false]
  refine wpAny_bind (wpAny_rule ?_)
  refine hsub _ _ _ _ (fun _ _ e => e) ?_
  first
    | exact wpAny_pure h
    | exact wpAny_pure (wpAny_pure h)
    | exact wpAny_bind (wpAny_pure (wpAny_pure h))
open PySem.W PySem.Calls PyProof.Rows Builtin Builtin.ObjectAttr in
theorem exc_notC {x D C : Addr} {prog : Program} {w : World} {Q : Value → Shared → Prop} (hok : excOk K D = true) (e : kin_not K D C = true) (Y : K.In s.heap) (I : ExcLike s.heap x D) (h : Q (.bool false) { s with toks := s.toks + 1 }) :
    wpAny (model prog w) A (call (.builtin "isinstance") [.ref x, .ref C]) Q E s := by
  unfold kin_not at e
  rw [Bool.and_eq_true, Bool.and_eq_true, Bool.and_eq_true] at e
  obtain ⟨⟨⟨e0, e1⟩, e2⟩, e3⟩ := e
  refine call_isinstance (S := fun _ R s => (K.In s.heap ∧ ExcLike s.heap x D) ∧ R (.ok (.ret (.bool false))) { s with toks := s.toks + 1 })
    (fun prog' w' A' R' s' hs => isinstance_outer (exc_nested hok hs.1.1 hs.1.2 (looks_typeIn hs.1.1 (beq_iff_eq.mp e2)) ?_ ?_ (looks_subIn hs.1.1 (beq_iff_eq.mp e3)) hs.2) (by intro q; cases q)) ⟨⟨Y, I⟩, h⟩
  · exact looks_cls hs.1.1 e1
  · exact Bool.eq_false_iff.mpr fun q => of_decide_eq_true e0 (Value.ref.inj (beq_iff_eq.mp q))

theorem exc_at (S : St W fs Ψ H s) {a : Addr} {c : String} (h : Ψ a = some (.exc c)) : ExcLike s.heap a (W.ca c) ∧ excNames.contains c = true := by
  obtain ⟨o, ho, hn, hc, vs, hd⟩ := S.typed _ _ h
  exact ⟨⟨o, ho, hc⟩, hn⟩
open PySem.W PySem.Calls PyProof.Rows Builtin Builtin.ObjectAttr in
theorem exc_isT {x D : Addr} {prog : Program} {w : World} {T : String} {Q : Value → Shared → Prop} (hty : typeOf (.type T) = pure (.type "type")) (e : subIn K (.ref D) (.type T) = some true) (Y : K.In s.heap) (I : ExcLike s.heap x D) (h : Q (.bool true) s) :
    wpAny (model prog w) A (call (.builtin "isinstance") [.ref x, .type T]) Q E s := by
  refine call_isinstance (S := fun _ R s => (K.In s.heap ∧ ExcLike s.heap x D) ∧ R (.ok (.ret (.bool true))) s) (fun prog' w' A' R' s' hs => isinstance_outer ?_ (by intro q; cases q)) ⟨⟨Y, I⟩, h⟩
  have L0 := hs.1.2.type (M := model prog' w')
  have LI : Looks (model prog' w') s'.heap (isInstance (.ref x) (.type T)) true := L0.andThen (looks_subIn hs.1.1 e)
  unfold Builtin.«isinstance.nested»
  refine wpAny_bind (L0.here ?_)
  rw [if_neg (fun q => by cases beq_iff_eq.mp q)]
  refine wpAny_bind (wpAny_of_eq hty ?_)
  rw [if_pos (by decide)]
  k_delta "plainIsInstance"
  refine wpAny_bind (wpAny_bind (wpAny_pure ?_))
  simp only [Bool.not_true, Bool.false_eq_true, if_false]
  refine wpAny_bind (LI.here ?_)
  simp only [if_true]
  exact wpAny_pure (wpAny_pure hs.2)

noncomputable def tyNames : List String := ["int", "bool", "list", "tuple", "str", "ValueError"]
/-- a class of the text, or a type of the language -/
noncomputable def isiOk (ca : String → Addr) (K : PySem.W.Frag) (t : String) : Bool := (PySem.W.nsIn K mainGlobals (Str.ofString "isinstance") == some none) && (if excNames.contains t
  then (PySem.W.nsIn K mainGlobals (Str.ofString t) == some (some (.ref (ca t)))) && excNames.all fun c => excOk K (ca c) && (if t == c then PySem.W.isIn K (.ref (ca c)) (ca t) else PySem.W.kin_not K (ca c) (ca t))
  else (PySem.W.nsIn K mainGlobals (Str.ofString t) == some none) && tyNames.contains t && excNames.all fun c => PySem.W.subIn K (.ref (ca c)) (.type "ValueError") == some true)
noncomputable def tyVal (W : Amb) (t : String) : Value := if excNames.contains t then .ref (W.ca t) else .type t
theorem ve_type : typeOf (.type "ValueError") = pure (.type "type") := by kernel_rfl
theorem ty_all_ok : (tyNames.all fun b => (bootBuiltins (Str.ofString b) == some (.type b)) && !(Str.ofString b == "__name__")) = true := by kernel_rfl
theorem lst_obj (S : St W fs Ψ H s) {a : Addr} {vs : List MV} (h : LstAt H a vs) : ∃ o, s.heap.get? a = some o ∧ o.cls = .type "list" := by
  obtain ⟨items, ⟨o, ho, hc, _⟩, _⟩ := S.lstAt h
  exact ⟨o, ho, hc⟩
theorem tup_obj (S : St W fs Ψ H s) {v : Value} {vs : List MV} (hv : VRel Ψ v (.tup vs)) : ∃ a o, v = .ref a ∧ s.heap.get? a = some o ∧ o.cls = .type "tuple" := by
  obtain ⟨a, rfl, ha⟩ := vtup hv
  obtain ⟨items, ⟨o, ho, hc, _⟩, _⟩ := tup_at S ha
  exact ⟨a, o, rfl, ho, hc⟩
theorem isi_exc {t c : String} {v : Value} (F : Facts W K) (ht : isiOk W.ca K t = true) (S : St W fs Ψ H s) (hv : VRel Ψ v (.exc c)) (h0 : excNames.contains t = true) (fin : ∀ k, PostE W fs Ψ Q (.bool (t == c)) { s with toks := k }) :
    wpAny W.M A (call (.builtin "isinstance") [v, .ref (W.ca t)]) (PostE W fs Ψ Q) E s := by
  obtain ⟨a, rfl, ha⟩ := vexc hv
  obtain ⟨I, hc⟩ := exc_at S ha
  have h1 := (and_of ht).2
  rw [if_pos h0] at h1
  obtain ⟨h2, h3⟩ := and_of (List.all_eq_true.mp (and_of h1).2 c (List.contains_iff_mem.mp hc))
  cases q : t == c with
  | true =>
    rw [q, if_pos rfl] at h3
    rw [q] at fin
    exact PySem.W.isi_call (F.at S) (fun M => I.type) h3 (fun z => Value.noConfusion z) (fin s.toks)
  | false =>
    rw [q, if_neg Bool.noConfusion] at h3
    rw [q] at fin
    exact exc_notC h2 h3 (F.at S) I (fin _)
theorem op_isinst {t : String} {v : Value} {mv : MV} {b : Bool} (F : Facts W K) (ht : isiOk W.ca K t = true) (S : St W fs Ψ H s) (hv : VRel Ψ v mv) (h : IsiR H mv t b) (hq : Q (.bool b) H) :
    wpAny W.M A (call (.builtin "isinstance") [v, tyVal W t]) (PostE W fs Ψ Q) E s := by
  have fin : ∀ k, PostE W fs Ψ Q (.bool b) { s with toks := k } := fun k => .now (S.toks k) .bool hq
  have fin0 : PostE W fs Ψ Q (.bool b) s := fin s.toks
  cases h with
  | ii => obtain ⟨t, rfl⟩ := vint hv; exact IsiPair.int_int fin0
  | ib => obtain rfl := vbool hv; exact IsiPair.bool_int fin0
  | in_ => obtain rfl := vnone hv; exact IsiPair.NoneType_int (fin _)
  | is_ => obtain ⟨t, rfl⟩ := vstr hv; exact IsiPair.str_int (fin _)
  | it => obtain ⟨a, o, rfl, ho, hc⟩ := tup_obj S hv; exact IsiPair.tuple_int ho hc (fin _)
  | bb => obtain rfl := vbool hv; exact IsiPair.bool_bool fin0
  | bi => obtain ⟨t, rfl⟩ := vint hv; exact IsiPair.int_bool (fin _)
  | ll h => obtain rfl := vref hv; obtain ⟨o, ho, hc⟩ := lst_obj S h; exact IsiPair.list_list ho hc fin0
  | li => obtain ⟨t, rfl⟩ := vint hv; exact IsiPair.int_list (fin _)
  | ln => obtain rfl := vnone hv; exact IsiPair.NoneType_list (fin _)
  | tt => obtain ⟨a, o, rfl, ho, hc⟩ := tup_obj S hv; exact IsiPair.tuple_tuple ho hc fin0
  | ti => obtain ⟨t, rfl⟩ := vint hv; exact IsiPair.int_tuple (fin _)
  | ss => obtain ⟨t, rfl⟩ := vstr hv; exact IsiPair.str_str fin0
  | exc h0 => rw [tyVal, if_pos h0]; exact isi_exc F ht S hv h0 fin
  | val =>
    obtain ⟨a, rfl, ha⟩ := vexc hv
    obtain ⟨I, hc⟩ := exc_at S ha
    exact exc_isT ve_type (eq_of_beq (List.all_eq_true.mp (and_of (and_of ht).2).2 _ (List.contains_iff_mem.mp hc))) (F.at S) I fin0
/-- the name of a type or a class -/
theorem load_ty {t : String} {hd : Bool} {A : Around} {env : Env} {ρ : Sto} {it : Str} {pt : Pos} {QQ : Value → Shared → Prop} (F : Facts W K) (C : Cx n hd A fs env nm) (R : EnvRel Ψ env ρ) (S : St W fs Ψ H s) (hg : isGlob nm t it = true) (ht : isiOk W.ca K t = true) (q : QQ (tyVal W t) s) : wpAny W.M A (eval (.Name it pt) env) QQ E s := by
  have h := (and_of ht).2
  unfold tyVal at q
  by_cases h0 : excNames.contains t = true
  · rw [if_pos h0] at h q
    exact loadGlob F C R S hg (eq_of_beq (and_of h).1) q
  · rw [if_neg h0] at h q
    obtain ⟨h1, h2⟩ := and_of (and_of h).1
    obtain ⟨h3, h4⟩ := and_of (List.all_eq_true.mp ty_all_ok t (List.contains_iff_mem.mp h2))
    exact loadBlt F C R S hg (eq_of_beq h1) (eq_of_beq h3) (beq_eq_false_iff_ne.mp (not_of h4)) q
theorem isi_boot : bootBuiltins (Str.ofString "isinstance") = some (.builtin "isinstance") := by kernel_rfl
theorem snd_isinst {e : ME} {x : PySem.Expr} {t : String} {id it : Str} {p pt pos : Pos} (F : Facts W K) (hi : isGlob nm "isinstance" id = true) (hg : isGlob nm t it = true) (ht : isiOk W.ca K t = true) (hx : notStarred x = true) (he : SndE W Δ n nm e x) :
    SndE W Δ n nm (.isinst e t) (.Call (.Name id p) [x, .Name it pt] [] pos) := by
  intro hd A fs env ρ Ψ H s Q X C R S h
  show wpAny W.M A (do callWith pos (← eval (.Name id p) env) [] (backTo pos (starEach [x, .Name it pt] env)) []) _ _ s
  refine wpAny_bind (loadBlt F C R S hi (eq_of_beq (and_of ht).1) isi_boot (by decide) ?_)
  rw [starEach_cons hx]
  refine Calls.callWith_builtin rfl (Calls.evalArgs_plain (Calls.spliced_cons (monoE (he C R S h) fun Ψ₁ H₁ mv v s₁ S₁ K₁ va h₁ => ?_)))
  refine Calls.spliced_cons (load_ty F C (R.keep K₁) S₁ hg ht (Calls.spliced_nil ?_))
  exact h₁.elim fun b z => lift K₁ (op_isinst F ht S₁ va z.1 z.2)
end
end Mine
end
section
set_option autoImplicit false
set_option linter.unusedVariables false
namespace Mine
open PySem

/-! binding the arguments -/
theorem lookup_zip_mem {α β : Type} [BEq α] [LawfulBEq α] : ∀ {ns : List α} {vs : List β}, ns.length = vs.length → ∀ n ∈ ns, ((ns.zip vs).lookup n).isSome = true
  | a :: ns, v :: vs, hl, n, h => by
    simp only [List.zip_cons_cons, List.lookup_cons]
    cases q : n == a with
    | true => rfl
    | false =>
      rcases List.mem_cons.mp h with e | h
      · subst e; simp at q
      · exact lookup_zip_mem (by simpa using hl) n h
theorem filterMap_eq {α β : Type} {f g : α → Option β} : ∀ {l : List α}, (∀ n ∈ l, f n = g n) → l.filterMap f = l.filterMap g
  | [], _ => rfl
  | a :: l, h => by
    simp only [List.filterMap_cons, h a (by simp)]
    rw [filterMap_eq fun n hn => h n (by simp [hn])]
theorem filterMap_zip {α β : Type} [BEq α] [LawfulBEq α] : ∀ {ns : List α} {vs : List β}, ns.length = vs.length → ns.Nodup → ns.filterMap (fun n => ((ns.zip vs).lookup n).map fun x => (n, x)) = ns.zip vs
  | [], [], _, _ => rfl
  | a :: ns, v :: vs, hl, hn => by
    obtain ⟨h1, h2⟩ := List.nodup_cons.mp hn
    simp only [List.zip_cons_cons, List.filterMap_cons, List.lookup_cons, beq_self_eq_true, Option.map_some]
    congr 1
    rw [← filterMap_zip (by simpa using hl) h2]
    refine filterMap_eq fun n hm => ?_
    have : (n == a) = false := by
      rw [beq_eq_false_iff_ne]; rintro rfl; exact h1 hm
    rw [this, filterMap_zip (by simpa using hl) h2]

theorem bind_plain {fd : FuncData} {as : List Arg} {kwd : List (Option PySem.Expr)} {ds : List PySem.Expr} {vals : List Value} (hp : fd.params = ⟨[], as, none, [], kwd, none, ds⟩) (hd : fd.defaults = .none) (hn : (as.map (·.arg)).Nodup) (hl : as.length = vals.length) :
    bindArgs fd ⟨vals, []⟩ = pure ((as.map (·.arg)).zip vals) := by
  have hl' : (as.map (·.arg)).length = vals.length := by rw [List.length_map]; exact hl
  have hm : ((as.map (·.arg)).filter fun n => (((as.map (·.arg)).zip vals).lookup n).isNone) = [] := by
    rw [List.filter_eq_nil_iff]
    intro n h
    have := lookup_zip_mem hl' n h
    rw [Option.isSome_iff_exists] at this
    obtain ⟨x, hx⟩ := this
    rw [hx]; simp
  unfold bindArgs
  simp only [hp, hd, List.map_nil, List.nil_append, List.append_nil]
  have e1 : seqItems? .none = pure none := rfl
  simp only [e1, List.forIn_nil, pure_bind, Option.getD_none]
  generalize as.map (·.arg) = ns at *
  rw [if_neg (by simp [hl'])]
  simp only [List.drop_nil, List.length_nil, Nat.sub_zero, List.take_length, hm, List.isEmpty_nil, Bool.not_true, Bool.false_eq_true, if_false, List.drop_length, List.zip_nil_left, List.forIn_nil, pure_bind]
  rw [filterMap_zip hl' hn]
end Mine
end
section
set_option autoImplicit false
set_option linter.unusedVariables false
namespace Mine
open PySem

noncomputable def argAt : List String → List MV → Str → Option MV
  | x :: xs, v :: vs, n => if n = Str.ofString x then some v else argAt xs vs n
  | _, _, _ => none
theorem sto_args : ∀ (xs : List String) (vs : List MV) (y : String), Sto.ofArgs xs vs y = argAt xs vs (Str.ofString y)
  | [], _, _ => by simp [Sto.ofArgs, argAt]
  | _ :: _, [], _ => by simp [Sto.ofArgs, argAt]
  | x :: xs, v :: vs, y => by
    simp only [Sto.ofArgs, argAt, Sto.set, ofString_eq, sto_args xs vs y]
theorem argAt_mem : ∀ {xs : List String} {vs : List MV} {n : Str} {v : MV}, argAt xs vs n = some v → n ∈ xs.map Str.ofString
  | x :: xs, v :: vs, n, w, h => by
    unfold argAt at h
    split at h
    · rename_i q; simp [q]
    · simp only [List.map_cons, List.mem_cons]; exact .inr (argAt_mem h)
  | [], _, _, _, h => by simp [argAt] at h
  | _ :: _, [], _, _, h => by simp [argAt] at h

theorem bindL_out {kindOf : Str → Option NameKind} {n : Str} : ∀ {b : List (Str × Value)} {m : Str → Option Value}, n ∉ b.map (·.1) → bindL kindOf b m n = m n
  | [], _, _ => rfl
  | (k, v) :: r, m, h => by
    simp only [List.map_cons, List.mem_cons, not_or] at h
    unfold bindL
    rw [bindL_out h.2]
    split
    · exact if_neg h.1
    · rfl
theorem bindC_out {kindOf : Str → Option NameKind} {n : Str} : ∀ {b : List (Str × Value)} {m : Str → Option Value}, n ∉ b.map (·.1) → bindC kindOf b m n = m n
  | [], _, _ => rfl
  | (k, v) :: r, m, h => by
    simp only [List.map_cons, List.mem_cons, not_or] at h
    unfold bindC
    rw [bindC_out h.2]
    split
    · rfl
    · exact if_neg h.1
theorem zip_names {xs : List String} {ws : List Value} : ∀ n, n ∉ xs.map Str.ofString → n ∉ ((xs.map Str.ofString).zip ws).map (·.1) := by
  intro n h q
  obtain ⟨p, hp, rfl⟩ := List.mem_map.mp q
  exact h (List.of_mem_zip hp).1
theorem bind_local {Ψ : Psi} {kindOf : Str → Option NameKind} {n : Str} (hk : kindOf n = some .local) : ∀ {xs : List String} {ws : List Value} {vs : List MV} {v : MV} {m : Str → Option Value}, (xs.map Str.ofString).Nodup → All2 (VRel Ψ) ws vs → argAt xs vs n = some v →
    ∃ w, bindL kindOf ((xs.map Str.ofString).zip ws) m n = some w ∧ VRel Ψ w v
  | x :: xs, w :: ws, v :: vs, v', m, hn, .cons h t, ha => by
    simp only [List.map_cons, List.nodup_cons] at hn
    unfold argAt at ha
    simp only [List.map_cons, List.zip_cons_cons, bindL]
    split at ha
    · rename_i q
      cases ha
      rw [bindL_out (by rw [q]; exact zip_names _ hn.1), ← q, if_pos hk]
      exact ⟨w, if_pos rfl, h⟩
    · exact bind_local hk hn.2 t ha
  | [], _, _, _, _, _, _, h => by simp [argAt] at h
  | _ :: _, [], [], _, _, _, _, h => by simp [argAt] at h
theorem bind_cell {Ψ : Psi} {kindOf : Str → Option NameKind} {n : Str} (hk : kindOf n ≠ some .local) : ∀ {xs : List String} {ws : List Value} {vs : List MV} {v : MV} {m : Str → Option Value}, (xs.map Str.ofString).Nodup → All2 (VRel Ψ) ws vs → argAt xs vs n = some v →
    ∃ w, bindC kindOf ((xs.map Str.ofString).zip ws) m n = some w ∧ VRel Ψ w v
  | x :: xs, w :: ws, v :: vs, v', m, hn, .cons h t, ha => by
    simp only [List.map_cons, List.nodup_cons] at hn
    unfold argAt at ha
    simp only [List.map_cons, List.zip_cons_cons, bindC]
    split at ha
    · rename_i q
      cases ha
      rw [bindC_out (by rw [q]; exact zip_names _ hn.1), ← q, if_neg hk]
      exact ⟨w, if_pos rfl, h⟩
    · exact bind_cell hk hn.2 t ha
  | [], _, _, _, _, _, _, h => by simp [argAt] at h
  | _ :: _, [], [], _, _, _, _, h => by simp [argAt] at h

theorem cells_acc : ∀ {names : List (Str × NameKind)} {k : Nat} {acc : List (Str × Addr)} {p : Str × Addr}, p ∈ acc → p ∈ cellsFrom k names acc
  | [], _, _, _, h => h
  | (n, kd) :: r, k, acc, p, h => by
    unfold cellsFrom
    split
    · exact cells_acc (List.mem_cons_of_mem _ h)
    · exact cells_acc h
theorem cells_in : ∀ {names : List (Str × NameKind)} {k : Nat} {acc : List (Str × Addr)} {n : Str}, (n, NameKind.cell) ∈ names → ∃ c, (n, c) ∈ cellsFrom k names acc
  | (m, kd) :: r, k, acc, n, h => by
    unfold cellsFrom
    rcases List.mem_cons.mp h with e | h
    · cases e
      rw [if_pos (by rfl)]
      exact ⟨k, cells_acc List.mem_cons_self⟩
    · split
      · exact cells_in h
      · exact cells_in h
theorem cells_kind : ∀ {names : List (Str × NameKind)} {k : Nat} {acc : List (Str × Addr)} {p : Str × Addr}, p ∈ cellsFrom k names acc → p ∈ acc ∨ (p.1, NameKind.cell) ∈ names
  | [], _, _, _, h => .inl h
  | (m, kd) :: r, k, acc, p, h => by
    unfold cellsFrom at h
    split at h
    · rename_i q
      obtain rfl : kd = .cell := by cases kd <;> first | rfl | cases q
      rcases cells_kind h with h | h
      · rcases List.mem_cons.mp h with e | h
        · subst e; exact .inr List.mem_cons_self
        · exact .inl h
      · exact .inr (List.mem_cons_of_mem _ h)
    · rcases cells_kind h with h | h
      · exact .inl h
      · exact .inr (List.mem_cons_of_mem _ h)
theorem lookup_nodup {α : Type} : ∀ {l : List (Str × α)} {n : Str} {c : α}, (l.map (·.1)).Nodup → (n, c) ∈ l → l.lookup n = some c
  | (k, v) :: r, n, c, hn, h => by
    simp only [List.map_cons, List.nodup_cons] at hn
    rw [List.lookup_cons]
    rcases List.mem_cons.mp h with e | h'
    · cases e; rw [beq_self_eq_true]
    · have : (n == k) = false := by
        rw [beq_eq_false_iff_ne]; rintro rfl
        exact hn.1 (List.mem_map_of_mem (f := (·.1)) h')
      rw [this]; exact lookup_nodup hn.2 h'
theorem cells_names : ∀ (names : List (Str × NameKind)) (k j : Nat) (a b : List (Str × Addr)), a.map (·.1) = b.map (·.1) → (cellsFrom k names a).map (·.1) = (cellsFrom j names b).map (·.1)
  | [], _, _, _, _, h => h
  | (n, kd) :: r, k, j, a, b, h => by
    unfold cellsFrom
    split
    · exact cells_names r _ _ _ _ (by simp [h])
    · exact cells_names r _ _ _ _ h

noncomputable def Psi.call (Ψ : Psi) (L : Addr) (m : Sto) (cs : List (Str × Addr)) (cv : Str → Option MV) : Psi := fun a => if a = L then some (.ns m) else match cs.find? (fun p => p.2 == a) with
  | some p => some (.cell (cv p.1))
  | none => Ψ a
section
variable {Ψ : Psi} {L : Addr} {m : Sto} {cs : List (Str × Addr)} {cv : Str → Option MV}
theorem Psi.call_L : Ψ.call L m cs cv L = some (.ns m) := if_pos rfl
theorem Psi.call_cell (ha : cs.Pairwise fun x y => x.2 ≠ y.2) (hL : ∀ n c, (n, c) ∈ cs → L < c) {n : Str} {c : Addr} (h : (n, c) ∈ cs) : Ψ.call L m cs cv c = some (.cell (cv n)) := by
  unfold Psi.call
  rw [if_neg (Nat.ne_of_gt (hL n c h))]
  cases q : cs.find? (fun p => p.2 == c) with
  | none =>
    have := List.find?_eq_none.mp q (n, c) h
    simp at this
  | some p =>
    have h1 := List.find?_some q
    have h2 := List.mem_of_find?_eq_some q
    simp only [beq_iff_eq] at h1
    obtain ⟨p1, p2⟩ := p
    dsimp only at h1 ⊢
    subst h1
    rw [name_of_addr ha h h2]
theorem Psi.call_cases {a : Addr} {k : HK} (h : Ψ.call L m cs cv a = some k) : (a = L ∧ k = .ns m) ∨ (∃ n, (n, a) ∈ cs ∧ k = .cell (cv n)) ∨ (Ψ a = some k ∧ a ≠ L ∧ ∀ n, (n, a) ∉ cs) := by
  unfold Psi.call at h
  split at h
  · rename_i q; cases h; exact .inl ⟨q, rfl⟩
  · rename_i q
    split at h
    · rename_i p hp
      have h1 := List.find?_some hp
      simp only [beq_iff_eq] at h1
      cases h
      refine .inr (.inl ⟨p.1, ?_, rfl⟩)
      rw [← h1]; exact List.mem_of_find?_eq_some hp
    · rename_i hp
      refine .inr (.inr ⟨h, q, fun n hm => ?_⟩)
      have := List.find?_eq_none.mp hp (n, a) hm
      simp at this
theorem Psi.call_old {lo : Nat} (hL : lo ≤ L) (hcs : ∀ n c, (n, c) ∈ cs → L < c) {a : Addr} (h : a < lo) : Ψ.call L m cs cv a = Ψ a := by
  unfold Psi.call
  rw [if_neg (Nat.ne_of_lt (Nat.lt_of_lt_of_le h hL))]
  cases q : cs.find? (fun p => p.2 == a) with
  | none => rfl
  | some p =>
    have h1 := List.find?_some q
    have h2 := hcs p.1 p.2 (List.mem_of_find?_eq_some q)
    simp only [beq_iff_eq] at h1
    exact absurd (h1 ▸ h2 : L < a) (Nat.not_lt.mpr (Nat.le_of_lt (Nat.lt_of_lt_of_le h hL)))
end
end Mine
end
section
set_option autoImplicit false
set_option linter.unusedVariables false
namespace Mine
open PySem

/-- what a suite leaves: it goes on, or returns -/
inductive PostN (W : Amb) (fs : List Env) (env : Env) (Ψ : Psi) (N : Sto → MH → Prop) (s' : Shared) : Prop
  | mk (Ψ' : Psi) (H' : MH) (ρ' : Sto) (S : St W fs Ψ' H' s') (K : Keep (ownOf env) Ψ Ψ') (E : EnvRel Ψ' env ρ') (q : N ρ' H')
inductive PostR (W : Amb) (fs : List Env) (env : Env) (Ψ : Psi) (R : MV → MH → Prop) (v : Value) (s' : Shared) : Prop
  | mk (Ψ' : Psi) (H' : MH) (mv : MV) (S : St W fs Ψ' H' s') (K : Keep (ownOf env) Ψ Ψ') (E : ∃ ρ', EnvRel Ψ' env ρ') (hv : VRel Ψ' v mv) (q : R mv H')
noncomputable def PostS (W : Amb) (fs : List Env) (env : Env) (Ψ : Psi) (N : Sto → MH → Prop) (R : MV → MH → Prop) (f : Flow) (s' : Shared) : Prop := match f with
  | .next => PostN W fs env Ψ N s'
  | .ret v => PostR W fs env Ψ R v s'
  | _ => False
inductive PostY (W : Amb) (fs : List Env) (env : Env) (Ψ : Psi) (X : String → Sto → MH → Prop) (e : Value) (s' : Shared) : Prop
  | mk (ea : Addr) (c : String) (Ψ' : Psi) (H' : MH) (ρ' : Sto) (he : e = .ref ea) (F : Fly W fs Ψ' ea c s'.heap) (S : St W fs Ψ' H' s') (K : Keep (ownOf env) Ψ Ψ') (E : EnvRel Ψ' env ρ') (q : X c ρ' H')
theorem PostX.toY {W : Amb} {fs : List Env} {env : Env} {Ψ Ψ₁ : Psi} {ρ : Sto} {X : String → Sto → MH → Prop} {e : Value} {s' : Shared} (R : EnvRel Ψ₁ env ρ) (K : Keep (ownOf env) Ψ Ψ₁) (x : PostX W fs Ψ₁ (fun c H => X c ρ H) e s') : PostY W fs env Ψ X e s' := by
  cases x with | mk ea c Ψ' H' a b d k r => exact ⟨ea, c, Ψ', H', ρ, a, b, d, K.trans k.of_none, R.keep k, r⟩
theorem PostS.from {W : Amb} {fs : List Env} {env : Env} {Ψ Ψ₁ : Psi} {N : Sto → MH → Prop} {R : MV → MH → Prop} {f : Flow} {s' : Shared} (K : Keep (ownOf env) Ψ Ψ₁) (x : PostS W fs env Ψ₁ N R f s') : PostS W fs env Ψ N R f s' := by
  cases f with
  | next => obtain ⟨Ψ', H', ρ', a, b, c, d⟩ := x; exact ⟨Ψ', H', ρ', a, K.trans b, c, d⟩
  | ret v => obtain ⟨Ψ', H', mv, a, b, c, d, e⟩ := x; exact ⟨Ψ', H', mv, a, K.trans b, c, d, e⟩
  | _ => exact x
theorem PostY.from {W : Amb} {fs : List Env} {env : Env} {Ψ Ψ₁ : Psi} {X : String → Sto → MH → Prop} {e : Value} {s' : Shared} (K : Keep (ownOf env) Ψ Ψ₁) (x : PostY W fs env Ψ₁ X e s') : PostY W fs env Ψ X e s' := by
  cases x with | mk ea c Ψ' H' ρ' a b d k i r => exact ⟨ea, c, Ψ', H', ρ', a, b, d, K.trans k, i, r⟩

/-- the meaning of a suite is sound -/
noncomputable def SndSs (W : Amb) (Δ : CallT) (n : Nat) (nm : Names) (ms : MSs) (xs : List Stmt) : Prop :=
  ∀ {hd : Bool} {A : Around} {outer : List Env} {env : Env} {ρ : Sto} {Ψ : Psi} {H : MH} {s : Shared} {N : Sto → MH → Prop} {R : MV → MH → Prop} {X : String → Sto → MH → Prop},
    Cx n hd A (env :: outer) env nm → EnvRel Ψ env ρ → St W (env :: outer) Ψ H s → wSs Δ hd ms ρ H N R X → wpAny W.M A (execs xs env) (PostS W (env :: outer) env Ψ N R) (PostY W (env :: outer) env Ψ X) s
noncomputable def SndS (W : Amb) (Δ : CallT) (n : Nat) (nm : Names) (ms : MS) (x : Stmt) : Prop :=
  ∀ {hd : Bool} {A : Around} {outer : List Env} {env : Env} {ρ : Sto} {Ψ : Psi} {H : MH} {s : Shared} {N : Sto → MH → Prop} {R : MV → MH → Prop} {X : String → Sto → MH → Prop},
    Cx n hd A (env :: outer) env nm → EnvRel Ψ env ρ → St W (env :: outer) Ψ H s → wS Δ hd ms ρ H N R X → wpAny W.M A (exec x env) (PostS W (env :: outer) env Ψ N R) (PostY W (env :: outer) env Ψ X) s

section
variable {W : Amb} {fs : List Env} {Ψ : Psi} {H : MH} {s s' : Shared} {A : Around}

/-- a flight leaves the ledger's things alone -/
theorem St.flown {B : Heap} (S : St W fs Ψ H s) (hB : ∀ a k, Ψ a = some k → (∀ m, k ≠ .ns m) → ∃ o, B.get? a = some o) (h0 : W.h₀.StaysIn B) (hs : B.StaysIn s.heap) (hs' : B.StaysIn s'.heap) (hu : s.heap.UpToSlots s'.heap) (hg : s'.gens = s.gens) (ho : s'.os = s.os) : St W fs Ψ H s' := by
  refine ⟨fun a k e => ?_, S.fresh, S.heap, fun b o e => hs' b o (h0 b o e), S.frames, hg.trans S.gens, ho.trans S.os, S.dsys⟩
  obtain ⟨o, h1, h2⟩ := S.typed a k e
  by_cases hk : ∃ m, k = .ns m
  · obtain ⟨m, rfl⟩ := hk
    obtain ⟨ents, n, hd, hk, hf⟩ := h2
    obtain ⟨sl, h3⟩ := hu a o h1 fun vs q => by rw [hd] at q; cases q
    exact ⟨_, h3, ents, n, hd, hk, hf⟩
  · obtain ⟨o', h3⟩ := hB a k e fun m q => hk ⟨m, q⟩
    have := hs a o' h3
    rw [h1] at this
    cases this
    exact ⟨o, hs' a o h3, h2⟩

/-- an exception leaves a frame -/
theorem leaves {env : Env} {outer : List Env} {e : Addr} {c : String} {Q : Unit → Shared → Prop} {E : Value → Shared → Prop} (hfr : A.frames = some (env :: outer)) (F : Fly W (env :: outer) Ψ e c s.heap) (S : St W (env :: outer) Ψ H s)
    (h : ∀ s', Fly W outer Ψ e c s'.heap → St W (env :: outer) Ψ H s' → Q () s') : wpAny W.M A (leaving env (.ref e)) Q E s := by
  obtain ⟨hcn, B, h0, hB, hn, hk, hf, hx⟩ := F
  obtain ⟨L, _, hL, _⟩ := hf.2.1
  rcases hx with ⟨a0, hx⟩ | ⟨a0, L', env', outer', q, hL', hx⟩ | ⟨oe, vs, a0, he, hc, hd, h0', h1⟩
  · refine wpAny_leaves_onW hfr hL ⟨hB, hn, hf, hx⟩ fun h' hfl hu => ?_
    exact h _ ⟨hcn, B, h0, hfl.1, hn, hk, hfl.2.2.1, .inl ⟨a0, hfl.2.2.2⟩⟩ (S.flown hk h0 hB hfl.1 hu rfl rfl)
  · cases q
    unfold leaving
    refine wpAny_bind (wpAny_noteFrame_againW hL' hx ?_)
    refine wpAny_landsW (l := env :: outer) (L := L') ⟨hB, hn, hf, hx⟩ fun h' hfl hu => ?_
    exact h _ ⟨hcn, B, h0, hfl.1, hn, hk, hfl.2.2.1.2.2, .inl ⟨a0, hfl.2.2.2⟩⟩ (S.flown hk h0 hB hfl.1 hu rfl rfl)
  · refine wpAny_leaving_firstW hfr hf hL he hB hn hd h1 h0' fun h' hl => ?_
    obtain ⟨k1, k2, k3, k4⟩ := hl
    rw [hc] at k3
    exact h _ ⟨hcn, B, h0, k1, hn, hk, k2.2.2, .inl ⟨a0, k3⟩⟩ (S.flown hk h0 hB k1 k4 rfl rfl)

theorem St.unframe {env : Env} {outer : List Env} (S : St W (env :: outer) Ψ H s) : St W outer Ψ H s :=
  ⟨S.typed, S.fresh, S.heap, S.base, fun e he => S.frames e (List.mem_cons_of_mem _ he), S.gens, S.os, S.dsys⟩
end

/-- what must be known of a def -/
structure FnIs (h₀ : Heap) (a : Addr) (fd : FuncData) (body : List Stmt) (params : List String) : Prop where
  at_ : ∃ o, h₀.get? a = some o ∧ o.data = .func fd
  body : fd.body = .stmts body
  par : ∃ as kwd ds, fd.params = ⟨[], as, none, [], kwd, none, ds⟩ ∧ as.map (·.arg) = params.map Str.ofString
  dflt : fd.defaults = .none
  nodup : (params.map Str.ofString).Nodup
  clo : fd.closure = []
  glob : fd.globals = mainGlobals
  blt : fd.builtins = builtinsNs
  code : h₀.CodeRec fd.code fd.qualname
  kinds : ∀ x ∈ params.map Str.ofString, fd.scope.names.lookup x = some .local ∨ fd.scope.names.lookup x = some .cell
  names : (fd.scope.names.map (·.1)).Nodup
  cells : ((cellsFrom 0 fd.scope.names []).map (·.1)).Nodup
  co : fd.scope.isCoroutine = false
  gen : fd.scope.isGenerator = false
  kind : fd.scope.kind = .function

/-- what a call needs of its place -/
structure CxC (n : Nat) (hd : Bool) (A : Around) (fs : List Env) : Prop where
  frames : A.frames = some fs
  hand : hd = false → A.handled = none
  depth : A.depth + n ≤ 900
  units : A.units + 4 * n ≤ 9000

noncomputable def SndF (W : Amb) (n : Nat) (call1 : Bool → List MV → MH → (MV → MH → Prop) → (String → MH → Prop) → Prop) (f : Value) : Prop :=
  ∀ {hd : Bool} {A : Around} {fs : List Env} {Ψ : Psi} {H : MH} {s : Shared} {vs : List Value} {mvs : List MV} {Q : MV → MH → Prop} {X : String → MH → Prop},
    CxC n hd A fs → St W fs Ψ H s → All2 (VRel Ψ) vs mvs → call1 hd mvs H Q X → codeAny W.M A (.call f ⟨vs, []⟩) (fun r s' => match r with
      | .ok (.ret v) => PostE W fs Ψ Q v s'
      | .ok _ => False
      | .error e => PostX W fs Ψ X e s') s
theorem CxC.le {n m : Nat} {hd : Bool} {A : Around} {fs : List Env} (x : CxC n hd A fs) (h : m ≤ n) : CxC m hd A fs := ⟨x.frames, x.hand, by have := x.depth; (first | lia | omega), by have := x.units; (first | lia | omega)⟩
theorem SndF.le {W : Amb} {n m : Nat} {c : Bool → List MV → MH → (MV → MH → Prop) → (String → MH → Prop) → Prop} {f : Value} (x : SndF W m c f) (h : m ≤ n) : SndF W n c f := fun C S v z => x (C.le h) S v z

theorem call_fn {W : Amb} {K : PySem.W.Frag} {Δ : CallT} {n : Nat} {a : Addr} {fd : FuncData} {body : List Stmt} {params : List String} {ms : MSs} (F : Facts W K) (D : FnIs W.h₀ a fd body params) (hb : SndSs W Δ n fd.scope.names ms body) :
    SndF W (n + 1) (fun hd vs H Q X => params.length = vs.length ∧ wSs Δ hd ms (Sto.ofArgs params vs) H (fun _ H' => Q .none H') Q (fun c _ H' => X c H')) (.ref a) := by
  intro hd A fs Ψ H s vs mvs Q X C S hv h
  obtain ⟨hlen, h⟩ := h
  obtain ⟨o, ho, hod⟩ := D.at_
  obtain ⟨as, kwd, ds, hp, has⟩ := D.par
  have e1 : (as.map (·.arg)).length = as.length := List.length_map ..
  have e2 := hv.length_eq
  have hbind := bind_plain (vals := vs) hp D.dflt (by rw [has]; exact D.nodup) (by rw [← e1, has, List.length_map, hlen, e2])
  rw [has] at hbind
  have hroom : A.depth < recursionLimit := by have := C.depth; show A.depth < 1000; (first | lia | omega)
  have hcs : ((cellsFrom (s.heap.objs.size + 1) fd.scope.names []).map (·.1)).Nodup := cells_names fd.scope.names 0 (s.heap.objs.size + 1) [] [] rfl ▸ D.cells
  refine codeAny_call_cells hroom (S.base _ _ ho) hod (F.nolim.keeps S.base) (D.code.keeps S.base) D.body hbind D.clo (fun x hx => ?_) (fun s₁ I => ?_) D.co D.gen D.kind
  · have hm : x.1 ∈ params.map Str.ofString := (List.of_mem_zip hx).1
    rcases D.kinds x.1 hm with q | q
    · exact .inl q
    · refine .inr ⟨q, ?_⟩
      obtain ⟨c, hc⟩ := cells_in (k := s.heap.objs.size + 1) (acc := []) (mem_of_lookup q)
      rw [lookup_nodup hcs hc]; rfl
  · generalize hE : callEnvC fd s.heap.objs.size a = env at I ⊢
    have hEs : env.scope = fd.scope := by rw [← hE]; rfl
    have hEL : env.locals = s.heap.objs.size := by rw [← hE]; rfl
    have hEf : env.frame = some env.locals := by rw [← hE]; rfl
    have hEc : env.cells = cellsFrom (s.heap.objs.size + 1) fd.scope.names [] := by rw [← hE]; rfl
    have hEg : env.globals = mainGlobals := by rw [← hE]; exact D.glob
    have hEb : env.builtins = builtinsNs := by rw [← hE]; exact D.blt
    have hEk : ∀ x, env.kindOf x = fd.scope.names.lookup x := by intro x; rw [← hE]; rfl
    obtain ⟨IC, Icell, Iapart, Iabove⟩ := I
    obtain ⟨h₁, tk, hs₁⟩ := IC.same
    -- the ledger of the call
    let m : Sto := fun x => if env.kindOf (Str.ofString x) = some .local then Sto.ofArgs params mvs x else none
    let Ψ₁ : Psi := Ψ.call env.locals m env.cells (argAt params mvs)
    have hold : ∀ b k, Ψ b = some k → Ψ₁ b = some k := fun b k e => by
      obtain ⟨o', ho', _⟩ := S.typed b k e
      exact (Psi.call_old (lo := s.heap.objs.size) (Nat.le_of_eq hEL.symm) Iabove (Heap.lt_size ho')).trans e
    have hfix : Fix Ψ Ψ₁ := fun b k e _ => hold b k e
    have hnew : ∀ b k, Ψ₁ b = some k → Ψ b = none → W.h₀.get? b = none := fun b k e hb => by
      have big : s.heap.objs.size ≤ b := by
        rcases Psi.call_cases e with ⟨q, _⟩ | ⟨n', hm, _⟩ | ⟨q, _⟩
        · rw [q, hEL]; exact Nat.le_refl _
        · exact Nat.le_of_lt (Nat.lt_of_le_of_lt (Nat.le_of_eq hEL.symm) (Iabove n' b hm))
        · rw [hb] at q; cases q
      cases q : W.h₀.get? b with
      | none => rfl
      | some o' => exact absurd (Heap.lt_size (S.base b o' q)) (Nat.not_lt.mpr big)
    have hkeep : Keep none_ Ψ Ψ₁ := ⟨hfix, fun b k e _ _ => hold b k e, fun b k e => ⟨k, hold b _ e⟩, fun b k e => ⟨k, hold b _ e⟩⟩
    have S₁ : St W (env :: fs) Ψ₁ H s₁ := by
      refine ⟨fun b k e => ?_, fun b k e hk => ?_, fun b x e => (S.heap b x e).keepN hold, fun b o' e => IC.keep b o' (S.base b o' e), fun e' he => ?_, ?_, ?_, fun b es e => ?_⟩
      · rcases Psi.call_cases e with ⟨rfl, rfl⟩ | ⟨n', hm, rfl⟩ | ⟨q, _⟩
        · obtain ⟨oL, es, ep, hoL, hdL, hkL, hfL⟩ := IC.ns
          refine ⟨oL, hoL, es, ep, hdL, hkL, fun x v hx => ?_⟩
          have hx' : (if env.kindOf (Str.ofString x) = some .local then Sto.ofArgs params mvs x else none) = some v := hx
          split at hx'
          · rename_i hl
            rw [sto_args] at hx'
            obtain ⟨w, h1, h2⟩ := bind_local (m := fun _ => none) hl D.nodup hv hx'
            exact ⟨w, (hfL _).trans h1, h2.mono hfix⟩
          · cases hx'
        · have hlk : env.cells.lookup n' = some b := by rw [hEc] at hm ⊢; exact lookup_nodup hcs hm
          obtain ⟨oc, hoc, hdc⟩ := Icell n' b hlk
          refine ⟨oc, hoc, ⟨_, hdc⟩, fun mv hmv => ?_⟩
          have hkc : env.kindOf n' = some .cell := by
            rw [hEk]
            refine lookup_nodup D.names ?_
            rcases cells_kind (hEc ▸ hm) with q | q
            · cases q
            · exact q
          obtain ⟨w, h1, h2⟩ := bind_cell (kindOf := env.kindOf) (m := fun _ => none) (by rw [hkc]; decide) D.nodup hv hmv
          exact ⟨w, hdc.trans (by rw [h1]), h2.mono hfix⟩
        · obtain ⟨o', ho', hr⟩ := S.typed b k q
          exact ⟨o', IC.keep b o' ho', hr.mono hfix⟩
      · cases q : Ψ b with
        | none => exact hnew b k e q
        | some k' =>
          have := hold b k' q
          rw [e] at this
          cases this
          exact S.fresh b k q hk
      · rcases List.mem_cons.mp he with rfl | he
        · exact ⟨by rw [hEs, D.kind]; decide, e'.locals, m, hEf, Psi.call_L⟩
        · obtain ⟨p, L, m', q, r⟩ := S.frames e' he
          exact ⟨p, L, m', q, hold _ _ r⟩
      · rw [hs₁]; exact S.gens
      · rw [hs₁]; exact S.os
      · rcases Psi.call_cases e with ⟨_, q⟩ | ⟨_, _, q⟩ | ⟨q, _⟩
        · cases q
        · cases q
        · exact S.dsys b es q
    have R₁ : EnvRel Ψ₁ env (Sto.ofArgs params mvs) := by
      refine ⟨by rw [hEs]; exact D.kind, hEg, hEb, ⟨m, Psi.call_L, fun x v _ hx hv' => ?_⟩, fun x v hx hv' => ?_, fun n' hn' => ?_, Iapart⟩
      · show (if env.kindOf (Str.ofString x) = some .local then Sto.ofArgs params mvs x else none) = some v
        rw [if_pos hx]; exact hv'
      · rw [sto_args] at hv'
        have hc : fd.scope.names.lookup (Str.ofString x) = some .cell := by
          rcases D.kinds _ (argAt_mem hv') with q | q
          · rcases hx with hx | hx <;> (rw [hEk, q] at hx; cases hx)
          · exact q
        obtain ⟨c, hc'⟩ := cells_in (k := s.heap.objs.size + 1) (acc := []) (mem_of_lookup hc)
        refine ⟨c, by rw [hEc]; exact lookup_nodup hcs hc', ?_⟩
        rw [← hv']
        exact Psi.call_cell Iapart Iabove (hEc ▸ hc')
      · rw [hEk] at hn'
        obtain ⟨c, hc'⟩ := cells_in (k := s.heap.objs.size + 1) (acc := []) (mem_of_lookup hn')
        exact ⟨c, _, by rw [hEc]; exact lookup_nodup hcs hc', Psi.call_cell Iapart Iabove (hEc ▸ hc')⟩
    have C₁ : Cx n hd (A.deeper env) (env :: fs) env fd.scope.names :=
      ⟨Around.frames_deeper C.frames, ⟨env, fs, rfl, rfl⟩, by rw [hEs], C.hand, by have := C.depth; show A.depth + 1 + n ≤ 900; (first | lia | omega), by have := C.units; show A.units + 3 + 4 * n ≤ 9000; (first | lia | omega)⟩
    have back : ∀ Ψ', Keep (ownOf env) Ψ₁ Ψ' → Keep none_ Ψ Ψ' := fun Ψ' K' => by
      refine (hkeep.of_none.trans K').drop fun b hb => .inl ?_
      cases q : Ψ b with
      | none => rfl
      | some k' =>
        exfalso
        obtain ⟨o', ho', _⟩ := S.typed b k' q
        have lt := Heap.lt_size ho'
        rcases hb with rfl | ⟨n', _, hl⟩
        · rw [hEL] at lt; exact Nat.lt_irrefl _ lt
        · have := Iabove n' b (mem_of_lookup hl)
          rw [hEL] at this
          exact Nat.lt_irrefl _ (Nat.lt_trans lt this)
    refine wpAny_mono (hb C₁ R₁ S₁ h) (fun f s' hf => ?_) fun e s' he => ?_
    · cases f with
      | next =>
        obtain ⟨Ψ', H', ρ', S', K', _, q⟩ := hf
        exact ⟨Ψ', H', .none, S'.unframe, back _ K', .none, q⟩
      | ret v =>
        obtain ⟨Ψ', H', mv, S', K', _, v', q⟩ := hf
        exact ⟨Ψ', H', mv, S'.unframe, back _ K', v', q⟩
      | _ => exact hf.elim
    · obtain ⟨ea, c, Ψ', H', ρ', rfl, hfl, S', K', _, q⟩ := he
      refine leaves C₁.frames hfl S' fun s'' hfl' S'' => ?_
      exact ⟨ea, c, Ψ', H', rfl, hfl', S''.unframe, back _ K', q⟩
end Mine
end
section
set_option autoImplicit false
set_option linter.unusedVariables false
namespace Mine
open PySem

section
variable {W : Amb} {K : PySem.W.Frag} {Δ : CallT} {n : Nat} {nm : Names}

theorem Cx.c {hd : Bool} {A : Around} {fs : List Env} {env : Env} (C : Cx n hd A fs env nm) : CxC n hd A fs := ⟨C.frames, C.hand, C.depth, C.units⟩
theorem keeps_text {f : Value} (F : Facts W K) (hk : PySem.W.keepIn K f = true) : ∀ h, W.h₀.StaysIn h → ∃ k, (k = Keeper.frame ∨ k = Keeper.machine ∨ k = Keeper.boundFrame) ∧ PySem.W.Looks W.M h (keeperOf f) k :=
  fun h hs => PySem.W.keeps_K hk h (F.inn.keeps hs)
noncomputable def defOk (K : PySem.W.Frag) (f : String) (a : Addr) : Bool := (PySem.W.nsIn K mainGlobals (Str.ofString f) == some (some (.ref a))) && PySem.W.keepIn K (.ref a)
theorem snd_call {f : String} {es : MEs} {xs : List PySem.Expr} {id : Str} {p pos : Pos} {a : Addr} (F : Facts W K) (hx : isGlob nm f id = true) (hd : defOk K f a = true) (hp : allPlain xs = true) (hl : SndL W Δ n nm es xs) (hf : SndF W n (fun hd => Δ hd f) (.ref a)) :
    SndE W Δ n nm (.call f es) (.Call (.Name id p) xs [] pos) := by
  intro hd' A fs env ρ Ψ H s Q X C R S h
  exact wpAny_bind (loadGlob F C R S hx (eq_of_beq (and_of hd).1) (callArgs (keeps_text F (and_of hd).2) hp hl C R S h fun Ψ₁ H₁ s₁ vs mvs S₁ K₁ va z => wpAny_call (hf C.c S₁ va z)))

noncomputable def methOk (ca : String → Addr) (K : PySem.W.Frag) (m : Str) (a : Addr) : Bool := PySem.W.plainGet K (ca "Train") m && (PySem.W.findIn K (.ref (ca "Train")) m == some (some (.ref a))) && (PySem.W.typeIn K (.ref a) == some (.type "function")) && PySem.W.keepIn K (.ref a)
theorem snd_meth {e : ME} {m : String} {es : MEs} {x : PySem.Expr} {xs : List PySem.Expr} {nf : Str} {apos pos : Pos} {a : Addr} (F : Facts W K) (hf : strEq nf (Str.ofString m) = true) (hm : methOk W.ca K (Str.ofString m) a = true) (hb : notSuper x = true) (hp : allPlain xs = true) (hlen : xs.length < 29)
    (hpos : (apos.endLine == pos.line) = true) (he : SndE W Δ n nm e x) (hl : SndL W Δ n nm es xs) (hc : SndF W n (fun hd => Δ hd m) (.ref a)) : SndE W Δ n nm (.meth e m es) (.Call (.Attribute x nf apos) xs [] pos) := by
  intro hd A fs env ρ Ψ H s Q X C R S h
  obtain rfl := strEq_eq hf
  refine methCall hb hp hlen hpos (monoE (he C R S h) fun Ψ₁ H₁ mv v s₁ S₁ K₁ va h₁ pl => ?_)
  obtain ⟨b, l, rfl, hl', hno, h₁⟩ := h₁
  obtain rfl := vref va
  obtain ⟨hm, m4⟩ := and_of hm
  obtain ⟨hm, m3⟩ := and_of hm
  obtain ⟨m1, m2⟩ := and_of hm
  obtain ⟨ox, d, od, ents, k, e1, e2, I, hdx, hod, hex, hk, hs, hsz, hn, _⟩ := S₁.inst hl'
  refine PySem.W.method_fn (F.at S₁) I (PySem.W.plainGet_of m1).1 (PySem.W.plainGet_of m1).2 (eq_of_beq m2) (eq_of_beq m3) ?_ ?_
  · show (PySem.W.lookIn (Str.ofString m) od).map _ = _
    rw [look_own hs hk, hn _ hno]; rfl
  · exact lift K₁ (callArgs (first := [.ref b]) (keeps_text F m4) hp hl C (R.keep K₁) S₁ h₁ fun Ψ₂ H₂ s₂ vs mvs S₂ K₂ va₂ z => wpAny_call (hc C.c S₂ (vs := .ref b :: vs) (.cons .ref va₂) z))

/-- a new instance, before its `__init__` -/
theorem St.newInst {fs : List Env} {Ψ : Psi} {H : MH} {s : Shared} (S : St W fs Ψ H s) :
    ∃ Ψ', St W fs Ψ' (H.set (s.heap.objs.size + 1) (.inst [])) { s with heap := (s.heap.push PySem.W.emptyDict).push (PySem.W.instObj (W.ca "Train") s.heap.objs.size) } ∧ Keep none_ Ψ Ψ' ∧ H (s.heap.objs.size + 1) = none := by
  have S1 := S.push (s' := { s with heap := s.heap.push PySem.W.emptyDict }) (k := .idict (s.heap.objs.size + 1) []) (o := PySem.W.emptyDict) rfl
    ⟨⟨rfl, rfl, rfl⟩, #[], 0, rfl, ⟨fun _ he => by simp at he, Nat.le_refl _⟩, fun x _ => rfl, fun x mv h => Option.noConfusion rfl (heq_of_eq h)⟩ rfl rfl rfl
  have e : ({ s with heap := s.heap.push PySem.W.emptyDict } : Shared).heap.objs.size = s.heap.objs.size + 1 := Heap.size_push ..
  have S2 := S1.push (s' := { s with heap := (s.heap.push PySem.W.emptyDict).push (PySem.W.instObj (W.ca "Train") s.heap.objs.size) }) (k := .inst s.heap.objs.size) (o := PySem.W.instObj (W.ca "Train") s.heap.objs.size) rfl
    ⟨rfl, rfl, rfl⟩ rfl rfl rfl
  rw [e] at S2
  have hn := S1.free_at
  rw [e] at hn
  have K2 := S1.pushKeep (.inst s.heap.objs.size)
  rw [e] at K2
  refine ⟨_, S2.shown ⟨s.heap.objs.size, Psi.set_self _ _ _, ?_⟩, (S.pushKeep _).trans K2, hn⟩
  rw [Psi.set_ne _ _ (Nat.ne_of_lt (Nat.lt_succ_self _)), Psi.set_self]

noncomputable def mkOk (ca : String → Addr) (K : PySem.W.Frag) (a : Addr) : Bool := (PySem.W.nsIn K mainGlobals (Str.ofString "Train") == some (some (.ref (ca "Train")))) && PySem.W.keepIn K (.ref (ca "Train")) && PySem.W.makesIn K (ca "Train") &&
  (PySem.W.findIn K (.ref (ca "Train")) "__init__" == some (some (.ref a))) && (PySem.W.typeIn K (.ref a) == some (.type "function"))
theorem snd_mk {es : MEs} {xs : List PySem.Expr} {id : Str} {p pos : Pos} {a : Addr} (F : Facts W K) (hx : isGlob nm "Train" id = true) (hm : mkOk W.ca K a = true) (hp : allPlain xs = true) (hl : SndL W Δ (n + 1) nm es xs) (hf : SndF W n (fun hd => Δ hd "__init__") (.ref a)) :
    SndE W Δ (n + 1) nm (.mk es) (.Call (.Name id p) xs [] pos) := by
  intro hd' A fs env ρ Ψ H s Q X C R S h
  obtain ⟨hm, m5⟩ := and_of hm
  obtain ⟨hm, m4⟩ := and_of hm
  obtain ⟨hm, m3⟩ := and_of hm
  obtain ⟨m1, m2⟩ := and_of hm
  refine wpAny_bind (loadGlob F C R S hx (eq_of_beq m1) (callArgs (keeps_text F m2) hp hl C R S h fun Ψ₁ H₁ s₁ vs mvs S₁ K₁ va z => ?_))
  obtain ⟨Ψ₂, S₂, K₂, hn⟩ := S₁.newInst
  have hY := F.at S₁
  obtain ⟨h1, g1, d1, t1, os1⟩ := s₁
  refine wpAny_call (PySem.W.make_core (PySem.W.makes_of hY m3) (PySem.W.looks_findIn hY (eq_of_beq m4)) (fun self => PySem.W.bind_fn hY self (eq_of_beq m5)) (.inl rfl) ?_)
  have CC : CxC n hd' (A.under (.builtin "type.__call__" ⟨.ref (W.ca "Train") :: vs, []⟩)) fs :=
    ⟨C.frames, C.hand, by have := C.depth; show A.depth + 1 + n ≤ 900; (first | lia | omega), by have := C.units; show A.units + 1 + 4 * n ≤ 9000; (first | lia | omega)⟩
  refine codeAny_mono (hf CC S₂ (vs := .ref (h1.objs.size + 1) :: vs) (.cons .ref (va.mono fun _ _ => VRel.mono K₂.fix)) (z _ hn)) fun r s' q => ?_
  cases r with
  | error e => exact PostX.from K₂ q
  | ok f =>
    cases f with
    | ret v =>
      obtain ⟨Ψ', H', mv, S', K', v', rfl, q⟩ := q
      obtain rfl := vnone v'
      exact ⟨rfl, Ψ', H', .ref (h1.objs.size + 1), S', K₂.trans K', .ref, q⟩
    | _ => exact q.elim
end
end Mine
end
section
set_option autoImplicit false
set_option linter.unusedVariables false
namespace Mine
open PySem

section
variable {W : Amb} {K : PySem.W.Frag} {Δ : CallT} {n : Nat} {nm : Names} {fs : List Env} {Ψ : Psi} {H : MH} {s : Shared} {A : Around} {E : Value → Shared → Prop}

noncomputable def slotLike : HK → Bool
  | .ns _ | .cell _ | .raw _ | .hid _ => true
  | _ => false
theorem slot_sort {k k' : HK} (h : slotLike k = true) (h' : k'.sort = 0 ∨ k'.sort = 5) : k.sort ≠ k'.sort := by
  have : k.sort ≠ 0 ∧ k.sort ≠ 5 := by cases k <;> first | exact absurd h Bool.noConfusion | exact ⟨Nat.succ_ne_zero _, fun q => by cases q⟩
  rcases h' with h' | h' <;> rw [h']
  · exact this.1
  · exact this.2
/-- turning a slot leaves what is seen -/
theorem heap_slot (S : St W fs Ψ H s) {a : Addr} {k₀ k : HK} (e : Ψ a = some k₀) (hs : slotLike k₀ = true) : ∀ b x, H b = some x → HRel (Ψ.set a k) b x :=
  fun b x hb => (S.heap b x hb).keepS fun c k' e' q => Psi.set_sort e e' (slot_sort hs q)

noncomputable def storeKind : Option NameKind → Bool
  | some .local | some .cell => true
  | _ => false
noncomputable def isTarget (nm : Names) (x : String) (id : Str) : Bool := strEq id (Str.ofString x) && storeKind (nm.lookup id)

/-- the slot of a name -/
noncomputable def slotOf (env : Env) (id : Str) (a : Addr) : Prop := (env.kindOf id = some .local ∧ a = env.locals) ∨ (env.kindOf id = some .cell ∧ env.cells.lookup id = some a)
theorem slot_own {env : Env} {id : Str} {a : Addr} (h : slotOf env id a) : ownOf env a := by
  rcases h with ⟨_, h⟩ | ⟨h1, h2⟩
  · exact .inl h
  · exact .inr ⟨id, h1, h2⟩
theorem storeVar {env : Env} {ρ : Sto} {x : String} {id : Str} {v : Value} {mv : MV} {QQ : Unit → Shared → Prop} (hnm : env.scope.names = nm) (R : EnvRel Ψ env ρ) (S : St W fs Ψ H s) (hx : isTarget nm x id = true) (hv : VRel Ψ v mv)
    (h : ∀ Ψ' s', St W fs Ψ' H s' → Keep (slotOf env id) Ψ Ψ' → EnvRel Ψ' env (ρ.set x mv) → QQ () s') : wpAny W.M A (storeName env id v) QQ E s := by
  simp only [isTarget, Bool.and_eq_true] at hx
  obtain ⟨h1, h2⟩ := hx
  obtain rfl := strEq_eq h1
  rw [← hnm] at h2
  obtain ⟨m, hL, hm⟩ := R.loc
  unfold storeKind at h2
  split at h2
  · rename_i hk
    have hk : env.kindOf (Str.ofString x) = some .local := hk
    obtain ⟨o, ho, ents, k, hd, hs, hf⟩ := S.typed _ _ hL
    refine wpAny_storeName_local hk (m := nsFind ents) ⟨o, ents, k, ho, hd, hs, fun _ => rfl⟩ (fun h' hn hsb => ?_) (by rw [R.kind]; rfl)
    obtain ⟨o', ents', k', ho', hd', hs', hf'⟩ := hn
    have F : Fix Ψ (Ψ.set env.locals (.ns (m.set x mv))) := .set_turn _ hL rfl
    refine h (Ψ.set env.locals (.ns (m.set x mv))) _ (S.turned (s' := { s with heap := h', toks := s.toks + 1 }) (k := .ns (m.set x mv)) hL rfl (fun m' q => ⟨_, rfl⟩) ⟨ents', k', hd', hs', fun y w hy => ?_⟩ hsb ho' (heap_slot S hL rfl) rfl rfl)
      (Keep.set_own hL rfl (.inl ⟨hk, rfl⟩) (fun _ _ => ⟨_, rfl⟩) (fun _ q => by cases q)) ?_
    · unfold Sto.set at hy
      split at hy
      · rename_i q; subst q; cases hy
        exact ⟨v, (hf' _).trans (if_pos rfl), hv.mono F⟩
      · rename_i q
        obtain ⟨w', e1, e2⟩ := hf y w hy
        exact ⟨w', (hf' _).trans ((if_neg fun z => q (ofString_inj z)).trans e1), e2.mono F⟩
    · refine ⟨R.kind, R.glob, R.blt, ⟨m.set x mv, Psi.set_self _ _ _, fun y w h0 hy hw => ?_⟩, fun y w hy hw => ?_, fun n' hn' => ?_, R.apart⟩
      · unfold Sto.set at hw ⊢
        split at hw
        · rename_i q; rw [if_pos q]; exact hw
        · rename_i q; rw [if_neg q]; exact hm y w h0 hy hw
      · unfold Sto.set at hw
        split at hw
        · rename_i q; subst q; rcases hy with hy | hy <;> (rw [hk] at hy; cases hy)
        · obtain ⟨c, e1, e2⟩ := R.val y w hy hw
          exact ⟨c, e1, (Psi.set_ne _ _ fun q => by subst q; rw [hL] at e2; cases e2).trans e2⟩
      · obtain ⟨c, w, e1, e2⟩ := R.cel n' hn'
        exact ⟨c, w, e1, (Psi.set_ne _ _ fun q => by subst q; rw [hL] at e2; cases e2).trans e2⟩
  · rename_i hk
    have hk : env.kindOf (Str.ofString x) = some .cell := hk
    obtain ⟨c, w, hc, hcw⟩ := R.cel _ hk
    obtain ⟨o, ho, ⟨v0, hd⟩, _⟩ := S.typed _ _ hcw
    refine wpAny_storeName_cell R.kind hk hc ⟨o, ho, hd⟩ fun h' hn hsb => ?_
    obtain ⟨o', ho', hd'⟩ := hn
    have F : Fix Ψ (Ψ.set c (.cell (some mv))) := .set_turn _ hcw rfl
    refine h (Ψ.set c (.cell (some mv))) _ (S.turned (s' := { s with heap := h' }) (k := .cell (some mv)) hcw rfl (fun m' q => by cases q) ⟨⟨_, hd'⟩, fun mv' q => by cases q; exact ⟨v, hd', hv.mono F⟩⟩ hsb ho' (heap_slot S hcw rfl) rfl rfl)
      (Keep.set_own hcw rfl (.inr ⟨hk, hc⟩) (fun _ q => by cases q) (fun _ _ => ⟨_, rfl⟩)) ?_
    refine ⟨R.kind, R.glob, R.blt, ⟨m, (Psi.set_ne _ _ fun q => by rw [q, hcw] at hL; cases hL).trans hL, fun y w h0 hy hw => ?_⟩, fun y w hy hw => ?_, fun n' hn' => ?_, R.apart⟩
    · unfold Sto.set at hw
      split at hw
      · rename_i q; subst q; rw [hk] at hy; cases hy
      · exact hm y w h0 hy hw
    · unfold Sto.set at hw
      split at hw
      · rename_i q; subst q; cases hw; exact ⟨c, hc, Psi.set_self _ _ _⟩
      · rename_i q
        obtain ⟨c', e1, e2⟩ := R.val y w hy hw
        refine ⟨c', e1, (Psi.set_ne _ _ fun z => ?_).trans e2⟩
        subst z
        exact q (ofString_inj (name_of_addr R.apart (mem_of_lookup e1) (mem_of_lookup hc)))
    · obtain ⟨c', w', e1, e2⟩ := R.cel n' hn'
      by_cases q : c' = c
      · subst q; exact ⟨c', _, e1, Psi.set_self _ _ _⟩
      · exact ⟨c', w', e1, (Psi.set_ne _ _ q).trans e2⟩
  · cases h2

theorem op_iterSelf {sv : Value} {src : MV} {it : Addr} {i : Nat} (S : St W fs Ψ H s) (hi : ItAt Ψ sv src it i) {QQ : Value → Shared → Prop} (h : QQ (.ref it) s) : wpAny W.M A (pyIter (.ref it)) QQ E s := by
  obtain ⟨o, ho, hm⟩ := hi
  obtain ⟨o', hg, hraw⟩ := S.typed _ _ ho
  obtain rfl : o' = o := hraw
  cases src <;> try exact hm.elim
  · obtain ⟨t, h1, h2⟩ := hm
    unfold strIterType at h1
    split at h1
    · exact wpAny_pyIter_striter_ascii ⟨_, hg, h1, h2⟩ h
    · exact wpAny_pyIter_striter_wide ⟨_, hg, h1, h2⟩ h
  · exact wpAny_pyIter_listiter ⟨_, hg, hm.1, hm.2⟩ h
  · obtain ⟨a, _, h1, h2⟩ := hm
    exact wpAny_pyIter_tupleiter ⟨_, hg, h1, h2⟩ h
  · have hm' : o' = _ := hm
    subst hm'
    exact wpAny_pyIter_rangeiter hg h

/-! the place of a comprehension -/
/-- what a comprehension takes over from around it -/
noncomputable def clos (cells : List (Str × Addr)) : List (Str × NameKind) → List (Str × Addr) → List (Str × Addr)
  | [], acc => acc
  | (n, k) :: r, acc => if k == .free then clos cells r ((n, (cells.lookup n).getD 0) :: acc) else clos cells r acc
theorem closure_eq {scope : Scope} {env : Env} (h : ∀ n, (n, NameKind.free) ∈ scope.names → (env.cells.lookup n).isSome = true) : closureFor scope env = pure (clos env.cells scope.names []) := by
  unfold closureFor
  suffices ∀ (names : List (Str × NameKind)) (acc : List (Str × Addr)), (∀ n, (n, NameKind.free) ∈ names → (env.cells.lookup n).isSome = true) →
      (forIn names acc fun (x : Str × NameKind) (r : List (Str × Addr)) => if (x.2 == NameKind.free) = true then do let y ← cellOf env x.1; pure (ForInStep.yield ((x.1, y) :: r)) else pure (ForInStep.yield r) : Sem _) = pure (clos env.cells names acc) by
    have := this scope.names [] h
    exact (congrArg (fun (t : Sem (List (Str × Addr))) => t >>= pure) this).trans rfl
  intro names
  induction names with
  | nil => intro acc _; rfl
  | cons x r ih =>
    obtain ⟨n', k⟩ := x
    intro acc hh
    rw [List.forIn_cons]
    unfold clos
    cases q : k == NameKind.free with
    | true =>
      obtain rfl : k = .free := by cases k <;> first | rfl | cases q
      obtain ⟨c, hc⟩ := Option.isSome_iff_exists.mp (hh n' List.mem_cons_self)
      simp only [beq_self_eq_true, if_true]
      unfold cellOf
      rw [hc]
      exact ih _ fun n hn => hh n (List.mem_cons_of_mem _ hn)
    | false =>
      simp only [q, Bool.false_eq_true, if_false]
      exact ih _ fun n hn => hh n (List.mem_cons_of_mem _ hn)
end
end Mine
end
section
set_option autoImplicit false
set_option linter.unusedVariables false
namespace Mine
open PySem

section
variable {W : Amb} {fs : List Env} {Ψ Ψ₁ : Psi} {H : MH} {s s₁ : Shared}
/-- the ledger grows -/
theorem St.grow (S : St W fs Ψ H s) (hold : ∀ b k, Ψ b = some k → Ψ₁ b = some k) (hk : ∀ b o, s.heap.get? b = some o → s₁.heap.get? b = some o)
    (hnew : ∀ b k, Ψ₁ b = some k → Ψ b = none → s.heap.objs.size ≤ b ∧ (∀ es, k ≠ .dct es) ∧ ∃ o, s₁.heap.get? b = some o ∧ W.O Ψ₁ o k) (hg : s₁.gens = s.gens) (ho : s₁.os = s.os) : St W fs Ψ₁ H s₁ ∧ Keep none_ Ψ Ψ₁ := by
  have hfix : Fix Ψ Ψ₁ := fun b k e _ => hold b k e
  refine ⟨⟨fun b k e => ?_, fun b k e hx => ?_, fun b x e => (S.heap b x e).keepN hold, fun b o e => hk b o (S.base b o e), fun e' he => ?_, hg.trans S.gens, ho.trans S.os, fun b es e => ?_⟩, hfix, fun b k e _ _ => hold b k e, fun b k e => ⟨k, hold b _ e⟩, fun b k e => ⟨k, hold b _ e⟩⟩
  · cases q : Ψ b with
    | none => exact (hnew b k e q).2.2
    | some k' =>
      have := hold b k' q
      rw [e] at this; cases this
      obtain ⟨o, h1, h2⟩ := S.typed b k q
      exact ⟨o, hk b o h1, h2.mono hfix⟩
  · cases q : Ψ b with
    | none =>
      have big := (hnew b k e q).1
      cases z : W.h₀.get? b with
      | none => rfl
      | some o' => exact absurd (Heap.lt_size (S.base b o' z)) (Nat.not_lt.mpr big)
    | some k' =>
      have := hold b k' q
      rw [e] at this; cases this
      exact S.fresh b k q hx
  · obtain ⟨p, L, m', q, r⟩ := S.frames e' he
    exact ⟨p, L, m', q, hold _ _ r⟩
  · cases q : Ψ b with
    | none => exact absurd rfl ((hnew b _ e q).2.1 es)
    | some k' =>
      have := hold b k' q
      rw [e] at this; cases this
      exact S.dsys b es q
end

noncomputable def relab (nm : Names) (n : Str) (k : NameKind) : NameKind := if k == .free && nm.lookup n == some .cell then .cell else k
noncomputable def relabN (nm : Names) (names : List (Str × NameKind)) : Names := names.map fun p => (p.1, relab nm p.1 p.2)
theorem lookup_relab (nm : Names) (n : Str) : ∀ names : List (Str × NameKind), (relabN nm names).lookup n = (names.lookup n).map (relab nm n)
  | [] => rfl
  | (m, k) :: r => by
    have ih := lookup_relab nm n r
    unfold relabN at ih ⊢
    simp only [List.map_cons, List.lookup_cons]
    cases q : n == m with
    | true => obtain rfl := beq_iff_eq.mp q; rfl
    | false => exact ih
theorem relabel_names {scope : Scope} {env : Env} (h : env.scope.kind = .function) : (relabel scope env).names = relabN env.scope.names scope.names := by
  unfold relabel relabN
  dsimp only
  refine List.map_congr_left fun p _ => ?_
  obtain ⟨n, k⟩ := p
  unfold relab Env.kindOf
  rw [h]
  simp only [beq_self_eq_true, Bool.and_true]
  split <;> rfl

noncomputable def compOk (nm : Names) (x : String) (scope : Scope) : Bool := (scope.kind == .function) && decide ((scope.names.map (·.1)).Nodup) && storeKind (scope.names.lookup (Str.ofString x)) && !(x == ".0") &&
  scope.names.all fun p => match p.2 with
    | .local => strEq p.1 (Str.ofString x) || strEq p.1 (Str.ofString ".0")
    | .cell => strEq p.1 (Str.ofString x)
    | .free => nm.lookup p.1 == some .cell
    | .globalImplicit => true
    | _ => false

theorem cells_append : ∀ (names : List (Str × NameKind)) (k : Nat) (acc : List (Str × Addr)), cellsFrom k names acc = cellsFrom k names [] ++ acc
  | [], _, _ => rfl
  | (n, kd) :: r, k, acc => by
    unfold cellsFrom
    split
    · rw [cells_append r _ ((n, k) :: acc), cells_append r _ [(n, k)]]; simp
    · exact cells_append r _ acc
theorem lookup_append {α : Type} (n : Str) : ∀ (a b : List (Str × α)), (a ++ b).lookup n = (a.lookup n).or (b.lookup n)
  | [], _ => rfl
  | (m, v) :: a, b => by
    simp only [List.cons_append, List.lookup_cons]
    cases n == m with
    | true => rfl
    | false => exact lookup_append n a b
theorem lookup_none {α : Type} {n : Str} : ∀ {l : List (Str × α)}, (∀ c, (n, c) ∉ l) → l.lookup n = none
  | [], _ => rfl
  | (m, v) :: r, h => by
    rw [List.lookup_cons]
    cases q : n == m with
    | true => obtain rfl := beq_iff_eq.mp q; exact absurd List.mem_cons_self (h v)
    | false => exact lookup_none fun c hc => h c (List.mem_cons_of_mem _ hc)
theorem clos_lookup (cells : List (Str × Addr)) (n : Str) : ∀ (names : List (Str × NameKind)) (acc : List (Str × Addr)), ((n, NameKind.free) ∈ names ∨ acc.lookup n = some ((cells.lookup n).getD 0)) → (clos cells names acc).lookup n = some ((cells.lookup n).getD 0)
  | [], acc, h => by
    rcases h with h | h
    · cases h
    · exact h
  | (m, k) :: r, acc, h => by
    unfold clos
    split
    · rename_i q
      refine clos_lookup cells n r _ ?_
      cases z : n == m with
      | true => obtain rfl := beq_iff_eq.mp z; right; rw [List.lookup_cons, z]
      | false =>
        rcases h with h | h
        · rcases List.mem_cons.mp h with e | h
          · cases e; rw [beq_self_eq_true] at z; cases z
          · exact .inl h
        · right; rw [List.lookup_cons, z]; exact h
    · rename_i q
      refine clos_lookup cells n r _ ?_
      rcases h with h | h
      · rcases List.mem_cons.mp h with e | h
        · cases e; exact absurd rfl q
        · exact .inl h
      · exact .inr h
theorem clos_mem (cells : List (Str × Addr)) : ∀ (names : List (Str × NameKind)) (acc : List (Str × Addr)) (p : Str × Addr), p ∈ clos cells names acc → p ∈ acc ∨ ((p.1, NameKind.free) ∈ names ∧ p.2 = (cells.lookup p.1).getD 0)
  | [], _, _, h => .inl h
  | (m, k) :: r, acc, p, h => by
    unfold clos at h
    split at h
    · rename_i q
      obtain rfl : k = .free := by cases k <;> first | rfl | cases q
      rcases clos_mem cells r _ p h with h | h
      · rcases List.mem_cons.mp h with e | h
        · subst e; exact .inr ⟨List.mem_cons_self, rfl⟩
        · exact .inl h
      · exact .inr ⟨List.mem_cons_of_mem _ h.1, h.2⟩
    · rcases clos_mem cells r _ p h with h | h
      · exact .inl h
      · exact .inr ⟨List.mem_cons_of_mem _ h.1, h.2⟩
theorem clos_nodup (cells : List (Str × Addr)) : ∀ (names : List (Str × NameKind)) (acc : List (Str × Addr)), (names.map (·.1)).Nodup → (acc.map (·.1)).Nodup → (∀ n ∈ names.map (·.1), n ∉ acc.map (·.1)) → ((clos cells names acc).map (·.1)).Nodup
  | [], _, _, h, _ => h
  | (m, k) :: r, acc, hn, ha, hd => by
    simp only [List.map_cons, List.nodup_cons] at hn
    unfold clos
    split
    · refine clos_nodup cells r _ hn.2 ?_ ?_
      · simp only [List.map_cons, List.nodup_cons]; exact ⟨hd m (by simp), ha⟩
      · intro n hm
        simp only [List.map_cons, List.mem_cons, not_or]
        exact ⟨fun q => hn.1 (q ▸ hm), hd n (by simp only [List.map_cons, List.mem_cons]; exact .inr hm)⟩
    · exact clos_nodup cells r _ hn.2 ha fun n hm => hd n (by simp only [List.map_cons, List.mem_cons]; exact .inr hm)

/-- the environment of a comprehension -/
noncomputable def compEnv (scope : Scope) (C : Addr) (env : Env) : Env :=
  { scope := relabel scope env, locals := C, globals := env.globals, cells := cellsFrom (C + 1) scope.names (clos env.cells scope.names []), qual := env.qual, func := none, code := env.code, frame := env.frame, builtins := env.builtins }

theorem newCompEnv {M : Model} {A : Around} {E : Value → Shared → Prop} {s : Shared} {scope : Scope} {cl : List (Str × Addr)} {env : Env} {Q : Env → Shared → Prop}
    (h : Q { scope := scope, locals := s.heap.objs.size, globals := env.globals, cells := cellsFrom (s.heap.objs.size + 1) scope.names cl, qual := env.qual, func := none, code := env.code, frame := env.frame, builtins := env.builtins }
      { s with heap := pushCells (s.heap.push { cls := .type "dict", data := .dict #[] }) scope.names }) :
    wpAny M A (newFunctionEnv scope env.globals cl [] env.qual none .none (some env)) Q E s := by
  simp only [newFunctionEnv, Option.isSome_some, if_true]
  refine wpAny_bind (wpAny_alloc ?_)
  refine wpAny_bind (wpAny_layCells _ (fun name kind cells => by cases kind == NameKind.cell <;> simp) _ _ _ _ ?_)
  rw [show ({ s with heap := s.heap.push { cls := .type "dict", data := .dict #[] } } : Shared).heap.objs.size = s.heap.objs.size + 1 from Heap.size_push ..]
  exact wpAny_bind (wpAny_pure (wpAny_pure h))

theorem sto_del_set (ρ : Sto) (x : String) (v : MV) : (ρ.del x).set x v = ρ.set x v := by
  funext y; unfold Sto.set Sto.del
  by_cases q : y = x <;> simp [q]
theorem sto_set_set (ρ : Sto) (x : String) (u v : MV) : (ρ.set x u).set x v = ρ.set x v := by
  funext y; unfold Sto.set
  by_cases q : y = x <;> simp [q]

theorem compPlace {W : Amb} {fs : List Env} {Ψ : Psi} {H : MH} {s : Shared} {env : Env} {ρ : Sto} {x : String} {scope : Scope} (R : EnvRel Ψ env ρ) (S : St W fs Ψ H s) (hok : compOk env.scope.names x scope = true) :
    (∀ n, (n, NameKind.free) ∈ scope.names → (env.cells.lookup n).isSome = true) ∧
    ∃ Ψ₁, St W fs Ψ₁ H { s with heap := pushCells (s.heap.push { cls := .type "dict", data := .dict #[] }) scope.names } ∧ Keep none_ Ψ Ψ₁ ∧ EnvRel Ψ₁ (compEnv scope s.heap.objs.size env) (ρ.del x) ∧
      (∀ a, slotOf (compEnv scope s.heap.objs.size env) (Str.ofString x) a → Ψ a = none) ∧ Ψ s.heap.objs.size = none := by
  simp only [compOk, Bool.and_eq_true, Bool.not_eq_true', List.all_eq_true, decide_eq_true_eq] at hok
  obtain ⟨⟨⟨⟨hk, hn⟩, hx⟩, hx0⟩, hall⟩ := hok
  have hkf : scope.kind = .function := by
    cases q : scope.kind <;> first | rfl | (rw [q] at hk; exact absurd hk (by decide))
  have kL : ∀ y, (Str.ofString y, NameKind.local) ∈ scope.names → y ≠ ".0" → y = x := fun y hy h0 => by
    have := hall _ hy
    simp only [Bool.or_eq_true] at this
    rcases this with q | q
    · exact ofString_inj (strEq_eq q)
    · exact absurd (ofString_inj (strEq_eq q)) h0
  have kC : ∀ n, (n, NameKind.cell) ∈ scope.names → n = Str.ofString x := fun n hm => strEq_eq (hall _ hm)
  have kF : ∀ n, (n, NameKind.free) ∈ scope.names → env.kindOf n = some .cell := fun n hm => beq_iff_eq.mp (hall _ hm)
  have hsome : ∀ n, (n, NameKind.free) ∈ scope.names → (env.cells.lookup n).isSome = true := fun n hm => by
    obtain ⟨c, w, h1, _⟩ := R.cel n (kF n hm); rw [h1]; rfl
  refine ⟨hsome, ?_⟩
  have ok := cellsFrom_ok scope.names (s.heap.push { cls := .type "dict", data := .dict #[] }) (s.heap.objs.size + 1) [] ⟨fun _ _ hm => (nomatch hm), List.Pairwise.nil⟩ (by rw [Heap.size_push]; exact Nat.le_refl _)
  rw [Heap.size_push] at ok
  obtain ⟨ok1, ok2⟩ := ok
  have above : ∀ n c, (n, c) ∈ cellsFrom (s.heap.objs.size + 1) scope.names [] → s.heap.objs.size < c := fun n c hm => (ok1 n c hm).2
  let Ψ₁ : Psi := Ψ.call s.heap.objs.size (fun _ => none) (cellsFrom (s.heap.objs.size + 1) scope.names []) (fun _ => none)
  have hlt : ∀ b k, Ψ b = some k → b < s.heap.objs.size := fun b k e => by obtain ⟨o', ho', _⟩ := S.typed b k e; exact Heap.lt_size ho'
  have hold : ∀ b k, Ψ b = some k → Ψ₁ b = some k := fun b k e => (Psi.call_old (Nat.le_refl _) above (hlt b k e)).trans e
  have hkeep : ∀ b o, s.heap.get? b = some o → (pushCells (s.heap.push { cls := .type "dict", data := .dict #[] }) scope.names).get? b = some o := fun b o e => pushCells_keeps _ _ b o (Heap.get?_push_of_some _ e)
  obtain ⟨S₁, K₁⟩ := S.grow (s₁ := { s with heap := pushCells (s.heap.push { cls := .type "dict", data := .dict #[] }) scope.names }) hold hkeep (fun b k e hb => by
    rcases Psi.call_cases e with ⟨rfl, rfl⟩ | ⟨n', hm, rfl⟩ | ⟨q, _⟩
    · refine ⟨Nat.le_refl _, fun _ q => (by cases q), _, pushCells_keeps _ _ _ _ (Heap.get?_push_size _ rfl), #[], 0, rfl, fun _ he => by simp at he, fun y v hy => by cases hy⟩
    · obtain ⟨o, ho, hd⟩ := (ok1 n' b hm).1
      exact ⟨Nat.le_of_lt (above n' b hm), fun _ q => (by cases q), o, ho, ⟨_, hd⟩, fun mv q => by cases q⟩
    · rw [hb] at q; cases q) rfl rfl
  have hnm : (compEnv scope s.heap.objs.size env).scope.names = relabN env.scope.names scope.names := relabel_names R.kind
  have hkd : ∀ n, (compEnv scope s.heap.objs.size env).kindOf n = (scope.names.lookup n).map (relab env.scope.names n) := fun n => by
    unfold Env.kindOf; rw [hnm]; exact lookup_relab _ _ _
  have hcells : ∀ n, (compEnv scope s.heap.objs.size env).cells.lookup n = ((cellsFrom (s.heap.objs.size + 1) scope.names []).lookup n).or ((clos env.cells scope.names []).lookup n) := fun n => by
    show (cellsFrom (s.heap.objs.size + 1) scope.names (clos env.cells scope.names [])).lookup n = _
    rw [cells_append]; exact lookup_append _ _ _
  have freeCell : ∀ n c, scope.names.lookup n = some .free → env.cells.lookup n = some c → (compEnv scope s.heap.objs.size env).cells.lookup n = some c := fun n c hl hc => by
    rw [hcells, lookup_none (l := cellsFrom (s.heap.objs.size + 1) scope.names []) (fun c' hm => ?_), clos_lookup env.cells n scope.names [] (.inl (mem_of_lookup hl)), hc]
    · rfl
    · rcases cells_kind hm with q | q
      · cases q
      · have := lookup_nodup hn q; rw [hl] at this; cases this
  have ownCell : ∀ n, scope.names.lookup n = some .cell → ∃ c, (n, c) ∈ cellsFrom (s.heap.objs.size + 1) scope.names [] ∧ (compEnv scope s.heap.objs.size env).cells.lookup n = some c := fun n hl => by
    obtain ⟨c, hc⟩ := cells_in (k := s.heap.objs.size + 1) (acc := []) (mem_of_lookup hl)
    cases q : (cellsFrom (s.heap.objs.size + 1) scope.names []).lookup n with
    | none =>
      exfalso
      have : ∀ (l : List (Str × Addr)), (n, c) ∈ l → l.lookup n ≠ none := by
        intro l
        induction l with
        | nil => intro h; cases h
        | cons p r ih =>
          intro h
          obtain ⟨m, v⟩ := p
          rw [List.lookup_cons]
          cases z : n == m with
          | true => simp
          | false =>
            rcases List.mem_cons.mp h with e | h
            · cases e; rw [beq_self_eq_true] at z; cases z
            · exact ih h
      exact this _ hc q
    | some c' => exact ⟨c', mem_of_lookup q, by rw [hcells, q]; rfl⟩
  have kindCases : ∀ n, (compEnv scope s.heap.objs.size env).kindOf n = some .cell ∨ (compEnv scope s.heap.objs.size env).kindOf n = some .free → scope.names.lookup n = some .cell ∨ scope.names.lookup n = some .free := fun n h => by
    rw [hkd] at h
    cases q : scope.names.lookup n with
    | none => rw [q] at h; rcases h with h | h <;> cases h
    | some k =>
      rw [q] at h
      cases k with
      | cell => exact .inl rfl
      | free => exact .inr rfl
      | _ => rcases h with h | h <;> exact absurd h (by simp [relab])
  refine ⟨Ψ₁, S₁, K₁, ⟨hkf, R.glob, R.blt, ⟨fun _ => none, Psi.call_L, fun y v h0 hy hv => ?_⟩, fun y v hy hv => ?_, fun n hy => ?_, ?_⟩, fun a ha => ?_, S.none_at⟩
  · exfalso
    rw [hkd] at hy
    cases q : scope.names.lookup (Str.ofString y) with
    | none => rw [q] at hy; cases hy
    | some k =>
      rw [q] at hy
      obtain rfl : k = .local := by
        cases k with
        | «local» => rfl
        | free => simp only [Option.map_some, Option.some.injEq] at hy; unfold relab at hy; split at hy <;> cases hy
        | _ => exact absurd hy (by simp [relab])
      obtain rfl := kL y (mem_of_lookup q) h0
      unfold Sto.del at hv; rw [if_pos rfl] at hv; cases hv
  · have hyx : y ≠ x := by rintro rfl; unfold Sto.del at hv; rw [if_pos rfl] at hv; cases hv
    have hv' : ρ y = some v := by unfold Sto.del at hv; rw [if_neg hyx] at hv; exact hv
    rcases kindCases _ hy with q | q
    · exact absurd (ofString_inj (kC _ (mem_of_lookup q))) hyx
    · obtain ⟨c, h1, h2⟩ := R.val y v (.inl (kF _ (mem_of_lookup q))) hv'
      exact ⟨c, freeCell _ c q h1, hold _ _ h2⟩
  · rcases kindCases n (.inl hy) with q | q
    · obtain ⟨c, h1, h2⟩ := ownCell n q
      exact ⟨c, _, h2, Psi.call_cell ok2 above h1⟩
    · obtain ⟨c, w, h1, h2⟩ := R.cel n (kF n (mem_of_lookup q))
      exact ⟨c, w, freeCell n c q h1, hold _ _ h2⟩
  · show (cellsFrom (s.heap.objs.size + 1) scope.names (clos env.cells scope.names [])).Pairwise _
    rw [cells_append, List.pairwise_append]
    have closIn : ∀ p ∈ clos env.cells scope.names [], p ∈ env.cells := fun p hp => by
      rcases clos_mem _ _ _ _ hp with q | ⟨q1, q2⟩
      · cases q
      · obtain ⟨c, hc⟩ := Option.isSome_iff_exists.mp (hsome _ q1)
        rw [hc] at q2
        obtain ⟨p1, p2⟩ := p
        dsimp only at q2 hc
        rw [show p2 = c from q2]
        exact mem_of_lookup hc
    refine ⟨ok2, ?_, fun p hp q hq e => ?_⟩
    · have nd := clos_nodup env.cells scope.names [] hn (by simp) (by simp)
      rw [List.nodup_iff_pairwise_ne, List.pairwise_map] at nd
      refine nd.imp_of_mem fun {p q} hp hq hne e => hne ?_
      obtain ⟨p1, p2⟩ := p; obtain ⟨q1, q2⟩ := q
      dsimp only at e ⊢
      subst e
      exact name_of_addr R.apart (closIn _ hp) (closIn _ hq)
    · rcases clos_mem _ _ _ _ hq with z | ⟨z1, z2⟩
      · cases z
      · obtain ⟨c, w, h1, h2⟩ := R.cel q.1 (kF _ z1)
        have lt := hlt c _ h2
        rw [h1] at z2
        have : q.2 = c := z2
        have ab := above p.1 p.2 hp
        rw [e, this] at ab
        exact Nat.lt_irrefl _ (Nat.lt_trans lt ab)
  · cases q : Ψ a with
    | none => rfl
    | some k =>
      exfalso
      have lt := hlt a k q
      rcases ha with ⟨_, ha⟩ | ⟨h1, h2⟩
      · rw [ha] at lt; exact Nat.lt_irrefl _ lt
      · have hxk : scope.names.lookup (Str.ofString x) = some .cell := by
          rcases kindCases _ (.inl h1) with z | z
          · exact z
          · rw [z] at hx; cases hx
        obtain ⟨c, e1, e2⟩ := ownCell _ hxk
        rw [h2] at e2
        cases e2
        exact Nat.lt_irrefl _ (Nat.lt_trans lt (above _ _ e1))
end Mine
end
section
set_option autoImplicit false
set_option linter.unusedVariables false
namespace Mine
open PySem

section
variable {W : Amb} {fs : List Env} {Ψ Ψ₀ : Psi} {H : MH} {s s' : Shared} {A : Around} {E : Value → Shared → Prop} {env cenv : Env} {outer : List Env}

/-- an exception noted at a frame: its traceback's head stands there -/
noncomputable def Held (W : Amb) (env : Env) (outer : List Env) (Ψ : Psi) (e : Addr) (c : String) (h : Heap) : Prop :=
  excNames.contains c = true ∧ ∃ B : Heap, W.h₀.StaysIn B ∧ B.StaysIn h ∧ B.get? e = none ∧ (∀ a k, Ψ a = some k → (∀ m, k ≠ .ns m) → ∃ o, B.get? a = some o) ∧ h.FunFrames B (env :: outer) ∧ ∃ a0 L, env.frame = some L ∧ h.TracedAtW B e (.ref (W.ca c)) a0 (rawInt L)
theorem noted {e : Addr} {c : String} {Q : Unit → Shared → Prop} (hfr : A.frames = some (env :: outer)) (F : Fly W (env :: outer) Ψ e c s.heap) (S : St W (env :: outer) Ψ H s)
    (h : ∀ s', Held W env outer Ψ e c s'.heap → St W (env :: outer) Ψ H s' → Q () s') : wpAny W.M A (noteFrame (.ref e) env) Q E s := by
  obtain ⟨hcn, B, h0, hB, hn, hk, hf, hx⟩ := F
  obtain ⟨L, _, hL, _⟩ := hf.2.1
  rcases hx with ⟨a0, hx⟩ | ⟨a0, L', env', outer', q, hL', hx⟩ | ⟨oe, vs, a0, he, hc, hd, h0', h1⟩
  · refine wpAny_looks_onW hfr hL ⟨hB, hn, hf, hx⟩ fun h' hh hu => ?_
    exact h _ ⟨hcn, B, h0, hh.1, hn, hk, hh.2.2.1, a0, L, hL, hh.2.2.2⟩ (S.flown hk h0 hB hh.1 hu rfl rfl)
  · cases q
    exact wpAny_noteFrame_againW hL' hx (h _ ⟨hcn, B, h0, hB, hn, hk, hf, a0, L', hL', hx⟩ S)
  · unfold noteFrame
    simp only [hL]
    refine wpAny_bind (wpAny_field he hd h1 ?_)
    rw [if_neg (by decide)]
    refine wpAny_entryW hfr hf hL he hB hn hd (Array.getElem?_eq_some_iff.mp h1).1 h0' fun h' hN => ?_
    obtain ⟨k1, k2, k3, k4⟩ := hN
    rw [hc] at k3
    exact h _ ⟨hcn, B, h0, k1, hn, hk, k2, a0, L, hL, k3⟩ (S.flown hk h0 hB k1 k4 rfl rfl)

theorem note_same (h : cenv.frame = env.frame) (x : Value) : noteFrame x cenv = noteFrame x env := by
  unfold noteFrame frameOf; rw [h]
/-- an exception goes on from a frame -/
theorem goesOn {β : Type} {what : String} {k : Sem β} {e : Addr} {c : String} {Q : β → Shared → Prop} (F : Held W env outer Ψ e c s.heap) (S : St W (env :: outer) Ψ H s) (hc : cenv.frame = env.frame)
    (h : ∀ s', Fly W (env :: outer) Ψ e c s'.heap → St W (env :: outer) Ψ H s' → wpAny W.M A k Q E s') : wpAny W.M A (do
      if (← field (.ref e) 1) == .none then unsupported what
      setFlight (.ref e) cenv.frame
      k) Q E s := by
  obtain ⟨hcn, B, h0, hB, hn, hk, hf, a0, L, hL, hx⟩ := F
  obtain ⟨oe, vs, T, oT, ts, he, ⟨hcls, h0'⟩, hd, h1, hnT, hTe, hT, hdT, h3⟩ := hx
  refine wpAny_bind (wpAny_field he hd h1 ?_)
  rw [if_neg (show ¬ ((Value.ref T == Value.none) = true) from by simp)]
  unfold setFlight
  refine wpAny_bind (wpAny_bind (wpAny_field he hd h1 ?_))
  rw [if_pos (show (Value.ref T != Value.none) = true from by simp), hc, hL]
  have hsz3 : 3 < ts.size := (Array.getElem?_eq_some_iff.mp h3).1
  have other : ∀ b, b ≠ T → (s.heap.update T (Obj.mapFields (·.setIfInBounds 3 (rawInt L)))).get? b = s.heap.get? b := fun b hb => Heap.get?_update_other _ _ (Ne.symm hb)
  have noRecord : ∀ b o, s.heap.get? b = some o → (∀ vs, o.data ≠ .fields vs) → b ≠ T := fun b o hb hnf q => by
    rw [q, hT] at hb; injection hb with hb; subst hb; exact hnf ts hdT
  have hdT' := Obj.data_mapFields hdT (·.setIfInBounds 3 (rawInt L))
  have hT' := Heap.get?_update_self (Obj.mapFields (·.setIfInBounds 3 (rawInt L))) hT (Obj.isFreed_of_fields hdT')
  have kb : B.StaysIn (s.heap.update T (Obj.mapFields (·.setIfInBounds 3 (rawInt L)))) := fun b o hbo => (other b fun q => by rw [q, hnT] at hbo; cases hbo).trans (hB b o hbo)
  have up : s.heap.UpToSlots (s.heap.update T (Obj.mapFields (·.setIfInBounds 3 (rawInt L)))) := fun b o hb hnf => ⟨o.slots, (other b (noRecord b o hb hnf)).trans hb⟩
  refine wpAny_setField hT hdT hsz3 (h { s with heap := s.heap.update T (Obj.mapFields (·.setIfInBounds 3 (rawInt L))) } ⟨hcn, B, h0, kb, hn, hk, hf.of_keeps fun b o hb hnf => ⟨o, (other b (noRecord b o hb hnf)).trans hb, rfl⟩, .inr (.inl ⟨a0, L, env, outer, rfl, hL, ?_⟩)⟩ (S.flown hk h0 hB kb up rfl rfl))
  exact ⟨oe, vs, T, _, _, (other e (Ne.symm hTe)).trans he, ⟨hcls, h0'⟩, hd, h1, hnT, hTe, hT', hdT', by simp [hsz3]⟩
/-- a place of a comprehension goes, with an exception on its way -/
theorem Held.hide {e C : Addr} {c : String} {m : Sto} {h' : Heap} (F : Held W env outer Ψ e c s.heap) (S : St W (env :: outer) Ψ H s) (hm : Ψ C = some (.ns m)) (hfn : ∀ x ∈ env :: outer, x.frame ≠ some C) (hs : Heap.SameBut C s.heap h') : Held W env outer (Ψ.del C) e c h' := by
  obtain ⟨hcn, B, h0, hB, hn, hk, hf, a0, L, hL, oe, vs, T, oT, ts, he, hcls, hd, h1, hnT, hTe, hT, hdT, h3⟩ := F
  obtain ⟨oC, hoC, ents, k, hdC, _⟩ := S.typed _ _ hm
  have notC : ∀ {b : Addr} {o : Obj} {vs : Array Value}, s.heap.get? b = some o → o.data = .fields vs → b ≠ C := fun hb hv q => by
    rw [q, hoC] at hb; cases hb; rw [hdC] at hv; cases hv
  have hf' : ∀ l : List Env, (∀ x ∈ l, x.frame ≠ some C) → s.heap.FunFrames B l → h'.FunFrames (PySem.W.hideAll B [C]) l := fun l => by
    induction l with
    | nil => exact fun _ _ => trivial
    | cons x l ih =>
      intro hx ⟨p, ⟨L, o, f1, f2, f3, f4⟩, r⟩
      refine ⟨p, ⟨L, o, f1, ?_, (hs.2 L fun q => hx x (.head _) (by rw [f1, q])).trans f3, f4⟩, ih (fun y hy => hx y (.tail _ hy)) r⟩
      cases q : (PySem.W.hideAll B [C]).get? L with
      | none => rfl
      | some o' => exact absurd ((PySem.W.of_hideAll _ q).symm.trans f2) (fun z => by cases z)
  have none_of : ∀ b, B.get? b = none → (PySem.W.hideAll B [C]).get? b = none := fun b hb => by
    cases q : (PySem.W.hideAll B [C]).get? b with
    | none => rfl
    | some o' => exact absurd ((PySem.W.of_hideAll _ q).symm.trans hb) (fun z => by cases z)
  refine ⟨hcn, PySem.W.hideAll B [C], fun b o q => PySem.W.hideAll_get _ (h0 b o q) fun z => ?_, fun b o q => ?_, none_of _ hn, fun a k q hne => ?_, hf' _ hfn hf, a0, L, hL, oe, vs, T, oT, ts, (hs.2 e (notC he hd)).trans he, hcls, hd, h1, none_of _ hnT, hTe, (hs.2 T (notC hT hdT)).trans hT, hdT, h3⟩
  · rw [List.mem_singleton.mp z, S.fresh C _ hm fun _ q => HK.noConfusion q] at q; cases q
  · refine (hs.2 b fun z => ?_).trans (hB b o (PySem.W.of_hideAll _ q))
    rw [z, PySem.W.hideAll_none _ (.head _)] at q; cases q
  · obtain ⟨a1, a2⟩ := Psi.of_del q
    exact (hk a k a2 hne).imp fun o z => PySem.W.hideAll_get _ z fun w => a1 (List.mem_singleton.mp w)
end
end Mine
end
section
set_option autoImplicit false
set_option linter.unusedVariables false
namespace Mine
open PySem

section
variable {W : Amb} {K : PySem.W.Frag} {Δ : CallT} {n : Nat} {nm : Names} {fs : List Env} {Ψ Ψ₀ : Psi} {H : MH} {s s' : Shared} {A : Around} {E : Value → Shared → Prop}

theorem Keep.delNew (x : Keep none_ Ψ₀ Ψ) {a : Addr} (h : Ψ₀ a = none) : Keep none_ Ψ₀ (Ψ.del a) :=
  ⟨fun b k e f => (Psi.del_ne _ (ne_of_none h e)).trans (x.fix b k e f), fun b k e f g => (Psi.del_ne _ (ne_of_none h e)).trans (x.slot b k e f g),
    fun b m e => (x.ns b m e).imp fun _ q => (Psi.del_ne _ (ne_of_none h e)).trans q, fun b m e => (x.cell b m e).imp fun _ q => (Psi.del_ne _ (ne_of_none h e)).trans q⟩
theorem Keep.setNew (x : Keep none_ Ψ₀ Ψ) {a : Addr} (k' : HK) (h : Ψ₀ a = none) : Keep none_ Ψ₀ (Ψ.set a k') :=
  ⟨fun b k e f => (Psi.set_ne _ _ (ne_of_none h e)).trans (x.fix b k e f), fun b k e f g => (Psi.set_ne _ _ (ne_of_none h e)).trans (x.slot b k e f g),
    fun b m e => (x.ns b m e).imp fun _ q => (Psi.set_ne _ _ (ne_of_none h e)).trans q, fun b m e => (x.cell b m e).imp fun _ q => (Psi.set_ne _ _ (ne_of_none h e)).trans q⟩
theorem Keep.newOwn {own : Addr → Prop} {Ψ' : Psi} (x : Keep none_ Ψ₀ Ψ) (y : Keep own Ψ Ψ') (h : ∀ a, own a → Ψ₀ a = none) : Keep none_ Ψ₀ Ψ' :=
  (x.of_none.trans y).drop fun a ha => .inl (h a ha)

/-- a slot is forgotten -/
theorem St.forget (S : St W fs Ψ H s) {a : Addr} {k₀ : HK} (e₀ : Ψ a = some k₀) (hs : slotLike k₀ = true) (hf : ∀ e ∈ fs, e.frame ≠ some a) (hk : Heap.ExtBut a s.heap s'.heap) (hg : s'.gens = s.gens) (ho : s'.os = s.os) : St W fs (Ψ.del a) H s' := by
  have h0 := S.fresh a _ e₀ fun _ q => by subst q; exact Bool.noConfusion hs
  have fx : Fix Ψ (Ψ.del a) := fun b k e f => Psi.del_sort e₀ e (slot_sort hs (.inr (fixed_sort f)))
  refine ⟨fun b k e => ?_, fun b k e hx => S.fresh b k (Psi.of_del e).2 hx, fun b x e => (S.heap b x e).keepS fun c k e q => Psi.del_sort e₀ e (slot_sort hs q), fun b o e => hk b o (ne_none (f := W.h₀.get?) h0 e) (S.base b o e), fun e he => ?_, hg.trans S.gens, ho.trans S.os, fun b es e => S.dsys b es (Psi.of_del e).2⟩
  · exact (S.typed b k (Psi.of_del e).2).imp fun o z => ⟨hk b o (Psi.of_del e).1 z.1, z.2.mono fx⟩
  · obtain ⟨p, L, m, q, r⟩ := S.frames e he
    exact ⟨p, L, m, q, (Psi.del_ne _ fun (z : L = a) => hf e he (z ▸ q)).trans r⟩

/-- a hidden list grows -/
theorem hidAppend {D : Addr} {acc : List MV} {v : Value} {x : MV} {QQ : Value → Shared → Prop} (S : St W fs Ψ H s) (hD : Ψ D = some (.hid acc)) (hl : acc.length < bigList) (hv : VRel Ψ v x)
    (h : ∀ s', St W fs (Ψ.set D (.hid (acc ++ [x]))) H s' → QQ .none s') : wpAny W.M A (call (.builtin "list.append") [.ref D, v]) QQ E s := by
  obtain ⟨o, h1, items, k, rfl, r, b⟩ := S.typed _ _ hD
  refine call_meets F.slot_list_append ⟨_, h1, rfl⟩ F.entry_list_append (F.args_list_append_2 _ _) (AutoListH.list_append_list_val_0 D items k v (by rw [all2_size r]; unfold bigList at hl; unfold sizeLine; (first | lia | omega))) ⟨h1, ?_⟩
  obtain ⟨k', ho⟩ : ∃ k', (s.heap.update D (Obj.mapSeq fun x_1 => x_1.push v)).get? D = some { cls := .type "list", dict := none, data := .seq (items.push v) k', slots := #[] } :=
    ⟨_, (Heap.get?_update_self _ h1 rfl).trans rfl⟩
  exact h _ (S.turned (s' := { s with heap := s.heap.update D (Obj.mapSeq fun x_1 => x_1.push v) }) (k := .hid (acc ++ [x])) hD rfl (fun m q => HK.noConfusion q)
    ⟨items.push v, k', rfl, by rw [Array.toList_push]; exact (r.append (.cons hv .nil)).mono fun _ _ => VRel.mono (.set_turn _ hD rfl), by rw [List.length_append]; exact hl⟩ (Heap.SameBut.update ..) ho (heap_slot S hD rfl) rfl rfl (fun _ q => HK.noConfusion q))

/-- a hidden list is shown -/
theorem St.hidShown {D : Addr} {acc : List MV} (S : St W fs Ψ H s) (hD : Ψ D = some (.hid acc)) : St W fs (Ψ.set D (.lst acc)) (H.set D (.lst acc)) s := by
  obtain ⟨o, h1, h2⟩ := S.typed _ _ hD
  exact (S.turned (s' := s) (k := .lst acc) (H' := H) hD rfl (fun m q => HK.noConfusion q) (SeqO.mono (.set_turn _ hD rfl) h2) (.refl ..) h1 (heap_slot S hD rfl) rfl rfl (fun _ q => HK.noConfusion q)).shown (Psi.set_self _ _ _)
theorem HRel.sorted {a : Addr} {o : MObj} (h : HRel Ψ a o) : ∃ k, Ψ a = Option.some k ∧ (k.sort = 0 ∨ k.sort = 5) := by
  cases o with
  | inst fs => exact h.elim fun d z => ⟨_, z.1, .inl rfl⟩
  | ro vs => exact ⟨_, h, .inr rfl⟩
  | _ => exact ⟨_, h, .inl rfl⟩
theorem St.hidNone {D : Addr} {acc : List MV} (S : St W fs Ψ H s) (hD : Ψ D = some (.hid acc)) : H D = none := by
  cases q : H D with
  | none => rfl
  | some o =>
    obtain ⟨k, e, z⟩ := (S.heap D o q).sorted
    obtain rfl := Option.some.inj (hD.symm.trans e)
    rcases z with z | z <;> exact absurd z (fun w => by cases w)
/-- an iterator stands through a step that is not its own -/
theorem ItAt.keep {own : Addr → Prop} {Ψ' : Psi} {sv : Value} {src : MV} {it : Addr} {i : Nat} (hi : ItAt Ψ sv src it i) (K : Keep own Ψ Ψ') (h : ¬ own it) : ItAt Ψ' sv src it i := hi.imp fun o z => ⟨K.slot _ _ z.1 rfl h, z.2⟩
/-- a place stands through a step that turns no name of its own -/
theorem EnvRel.keepW {own : Addr → Prop} {Ψ' : Psi} {env : Env} {ρ : Sto} (R : EnvRel Ψ env ρ) (K : Keep own Ψ Ψ') (h : ∀ a k, Ψ a = some k → (k.sort = 1 ∨ k.sort = 2) → ¬ own a) : EnvRel Ψ' env ρ :=
  ⟨R.kind, R.glob, R.blt, R.loc.imp fun _ x => ⟨K.slot _ _ x.1 rfl (h _ _ x.1 (.inl rfl)), x.2⟩, fun x v hk hv => (R.val x v hk hv).imp fun _ y => ⟨y.1, K.slot _ _ y.2 rfl (h _ _ y.2 (.inr rfl))⟩,
    fun n hn => (R.cel n hn).imp fun _ y => y.imp fun _ z => ⟨z.1, K.slot _ _ z.2 rfl (h _ _ z.2 (.inr rfl))⟩, R.apart⟩
/-- two places of different sorts -/
theorem sort_apart {a b : Addr} {k₀ k : HK} (h : Ψ a = some k₀) (e : Ψ b = some k) (n : k₀.sort ≠ k.sort) : ¬ b = a := ne_of_sort h e n
theorem not12 {k : HK} {m : Nat} (h : k.sort = 1 ∨ k.sort = 2) (h1 : m ≠ 1) (h2 : m ≠ 2) : m ≠ k.sort := by rcases h with h | h <;> rw [h] <;> assumption

theorem slot_kind {env : Env} {ρ : Sto} {id : Str} {a : Addr} (R : EnvRel Ψ env ρ) (h : slotOf env id a) : ∃ k, Ψ a = some k ∧ (k.sort = 1 ∨ k.sort = 2) := by
  rcases h with ⟨_, rfl⟩ | ⟨h1, h2⟩
  · exact R.loc.elim fun m h => ⟨_, h.1, .inl rfl⟩
  · obtain ⟨c, w, e1, e2⟩ := R.cel _ h1
    obtain rfl := Option.some.inj (h2.symm.trans e1); exact ⟨_, e2, .inr rfl⟩
theorem not_slot {env : Env} {ρ : Sto} {id : Str} {a : Addr} {k : HK} (R : EnvRel Ψ env ρ) (e : Ψ a = some k) (h1 : k.sort ≠ 1) (h2 : k.sort ≠ 2) : ¬ slotOf env id a := fun q => by
  obtain ⟨k', e', z⟩ := slot_kind R q
  obtain rfl := Option.some.inj (e.symm.trans e')
  exact z.elim h1 h2

/-- the tests of a comprehension -/
noncomputable def SndIfs (W : Amb) (Δ : CallT) (n : Nat) (nm : Names) (cond : ME) (ifs : List PySem.Expr) : Prop := match ifs with
  | [] => cond = .bool true
  | [c] => SndT W Δ n nm cond c
  | _ => False
theorem ifs_run {cond : ME} {ifs : List PySem.Expr} (h : SndIfs W Δ n nm cond ifs) {hd : Bool} {env : Env} {ρ : Sto} {k : Bool → MH → Prop} {X : String → MH → Prop} (C : Cx n hd A fs env nm) (R : EnvRel Ψ env ρ) (S : St W fs Ψ H s) (z : wE Δ hd cond ρ H (asTruth k) X) :
    wpAny W.M A (forIn ifs true fun c r => if r = true then do let ok ← isTrue c env (eval c env); pure (ForInStep.yield ok) else pure (ForInStep.yield r)) (PostB W fs Ψ k) (PostX W fs Ψ X) s := by
  unfold SndIfs at h
  split at h
  · subst h
    exact wpAny_tests_nil ⟨Ψ, H, S, .refl _ _, z⟩
  · exact wpAny_tests_one (h C R S z)
  · exact h.elim

theorem ne34 : (3 : Nat) ≠ 4 := by decide
theorem ne14 : (1 : Nat) ≠ 4 := by decide
theorem ne41 : (4 : Nat) ≠ 1 := by decide
theorem ne42 : (4 : Nat) ≠ 2 := by decide
theorem ne43 : (4 : Nat) ≠ 3 := by decide
/-- where a comprehension stands -/
inductive CompI (W : Amb) (fs : List Env) (Ψ₀ : Psi) (cenv : Env) (ρ : Sto) (x : String) (sv : Value) (src : MV) (vs : List MV) (it D : Addr) (Z : List MV → List MV → MH → Prop) (m : Nat) (s : Shared) : Prop
  | mk (Ψ : Psi) (H : MH) (acc : List MV) (i : Nat) (ρ₁ : Sto) (hm : m + i = vs.length) (hρ : ∀ v, ρ₁.set x v = ρ.set x v) (S : St W fs Ψ H s) (K₀ : Keep none_ Ψ₀ Ψ) (hv : VRel Ψ sv src) (hel : Elems H src vs) (hi : ItAt Ψ sv src it i) (hacc : Ψ D = some (.hid acc)) (R : EnvRel Ψ cenv ρ₁) (h : Z (vs.drop i) acc H)
theorem comp_loop {elt cond : ME} {x : String} {e' iter : PySem.Expr} {id : Str} {px : Pos} {ifs : List PySem.Expr} {scope : Scope} {pos : Pos} {cenv : Env} {ρ ρ₁ : Sto} {sv : Value} {src : MV} {vs : List MV} {it D : Addr} {RR : Result → Shared → Prop} {Q : MV → MH → Prop} {X : String → MH → Prop}
    (hh : A.handled = none) (hc : SndIfs W Δ n nm cond ifs) (he : SndE W Δ n nm elt e') (C : Cx n false A fs cenv nm) (hx : isTarget nm x id = true)
    (hslot : ∀ a, slotOf cenv id a → Ψ₀ a = none) (hit : Ψ₀ it = none) (hD : Ψ₀ D = none)
    (hρ : ∀ v, ρ₁.set x v = ρ.set x v)
    (hRR : ∀ Ψ' H' s', St W fs Ψ' H' s' → Keep none_ Ψ₀ Ψ' → (∃ m, Ψ' cenv.locals = some (.ns m)) → D ≠ cenv.locals → Q (.ref D) H' → RR (.ok .next) s')
    (hXX : ∀ e₀ outer Ψ' H' ea c s', fs = e₀ :: outer → e₀.frame = cenv.frame → Held W e₀ outer Ψ' ea c s'.heap → St W fs Ψ' H' s' → Keep none_ Ψ₀ Ψ' → (∃ m, Ψ' cenv.locals = some (.ns m)) → X c H' → RR (.error (.ref ea)) s')
    (S : St W fs Ψ H s) (K₀ : Keep none_ Ψ₀ Ψ) (hv : VRel Ψ sv src) (hel : Elems H src vs) (hi : ItAt Ψ sv src it 0) (hacc : Ψ D = some (.hid [])) (R : EnvRel Ψ cenv ρ₁)
    (h : compW src vs (fun v H k => wE Δ false cond (ρ.set x v) H (asTruth k) X) (fun v H k => wE Δ false elt (ρ.set x v) H k X) Q vs [] H) :
    codeAny W.M A (.compLoop (.ListComp e' [⟨.Name id px, iter, ifs, 0⟩] scope pos) 0 (.ref it) (.ref D) cenv) RR s := by
  refine codeAny_compLoop_tests (I := CompI W fs Ψ₀ cenv ρ x sv src vs it D (compW src vs (fun v H k => wE Δ false cond (ρ.set x v) H (asTruth k) X) (fun v H k => wE Δ false elt (ρ.set x v) H k X) Q)) (fun m s hI => ?_) vs.length ⟨Ψ, H, [], 0, ρ₁, rfl, hρ, S, K₀, hv, hel, hi, hacc, R, h⟩
  clear S K₀ hv hel hi hacc R h hρ
  obtain ⟨Ψ, H, acc, i, ρ₁, hm, hρ, S, K₀, hv, hel, hi, hacc, R, h⟩ := hI
  have hi0 := hi
  obtain ⟨oi, hraw, _⟩ := hi0
  have notIt : ∀ {a : Addr} {k : HK}, Ψ a = some k → 3 ≠ k.sort → ¬ a = it := fun e n => sort_apart hraw e n
  have errX : ∀ {Ψa : Psi} {e : Value} {s : Shared}, Keep none_ Ψ₀ Ψa → (∃ m, Ψa cenv.locals = some (.ns m)) → PostX W fs Ψa X e s → notedBy W.M A cenv (fun e s' => RR (.error e) s') e s := fun {Ψa e s} Ka hm hx => by
    obtain ⟨m, hm⟩ := hm
    obtain ⟨ea, c, Ψ', H', rfl, F, S, K', q⟩ := hx
    obtain ⟨e₀, outer, hfs, hfr⟩ := C.top
    show wpAny W.M A (noteFrame (.ref ea) cenv) _ _ s
    rw [note_same hfr.symm]
    subst hfs
    exact noted C.frames F S fun s' hh S' => hXX e₀ outer Ψ' H' ea c s' rfl hfr hh S' (Ka.trans K') ⟨m, K'.slot _ _ hm rfl fun q => q⟩ q
  cases hx' : vs[i]? with
  | none =>
    rw [List.drop_eq_nil_of_le (List.getElem?_eq_none_iff.mp hx')] at h
    refine op_done hh S hv hel hi hx' fun Ψ' s' S' K' => ?_
    have kD : Ψ' D = some (.hid acc) := K'.slot D _ hacc rfl (notIt hacc ne34)
    obtain ⟨m', hC, _⟩ := R.loc
    have kC : Ψ' cenv.locals = some (.ns m') := K'.slot _ _ hC rfl (notIt hC ne31)
    have hne : D ≠ cenv.locals := ne_of_sort kC kD ne14
    exact hRR _ _ _ (S'.hidShown kD) ((K₀.newOwn K' fun a q => q ▸ hit).setNew _ hD) ⟨m', (Psi.set_ne _ _ hne.symm).trans kC⟩ hne (h D (S'.hidNone kD))
  | some v =>
    have hlt := (List.getElem?_eq_some_iff.mp hx').1
    rw [List.drop_eq_getElem_cons hlt, (List.getElem?_eq_some_iff.mp hx').2] at h
    obtain ⟨hsz, h⟩ := h
    refine op_next S hv hel hi hx' fun w Ψ' s' S' K' vw hi' => ?_
    have kD : Ψ' D = some (.hid acc) := K'.slot D _ hacc rfl (notIt hacc ne34)
    have R' : EnvRel Ψ' cenv ρ₁ := R.keepW K' fun a k e q => notIt e (not12 q ne31 ne32)
    refine wpAny_assign_Name (storeVar C.names R' S' hx vw fun Ψ₂ s₂ S₂ K₂ R₂ => ?_)
    rw [hρ] at R₂
    have kD₂ : Ψ₂ D = some (.hid acc) := K₂.slot D _ kD rfl (not_slot R' kD ne41 ne42)
    have hi₂ : ItAt Ψ₂ sv src it (i + 1) := hi'.keep K₂ (hi'.elim fun o z => not_slot R' z.1 ne31 ne32)
    have K2 : Keep none_ Ψ₀ Ψ₂ := (K₀.newOwn K' fun a q => q ▸ hit).newOwn K₂ hslot
    have hlen : vs.length - (i + 1) + (i + 1) = vs.length := Nat.sub_add_cancel hlt
    have hdec : vs.length - (i + 1) < m := by (first | lia | omega)
    have F2 := K'.fix.trans K₂.fix
    refine wpAny_mono (monoB (ifs_run hc C R₂ S₂ h) fun Ψ₃ H₃ b s₃ S₃ K₃ h₃ => ?_) (fun _ _ x => x) fun e s₃ hx => errX K2 (R₂.loc.imp fun m z => z.1) hx
    cases b with
    | false =>
      exact ⟨vs.length - (i + 1), hdec, Ψ₃, H₃, acc, i + 1, ρ.set x v, hlen, fun u => sto_set_set _ _ _ _, S₃, K2.trans K₃, hv.mono (F2.trans K₃.fix), h₃.1, hi₂.keep K₃ (fun q => q), K₃.slot _ _ kD₂ rfl (fun q => q), R₂.keep K₃, h₃.2⟩
    | true =>
      refine wpAny_mono (monoE (he C (R₂.keep K₃) S₃ h₃) fun Ψ₄ H₄ my y s₄ S₄ K₄ vy h₄ => ?_) (fun _ _ x => x) fun e s₃ hx => errX (K2.trans K₃) ((R₂.keep K₃).loc.imp fun m z => z.1) hx
      have kD₄ : Ψ₄ D = some (.hid acc) := K₄.slot _ _ (K₃.slot _ _ kD₂ rfl (fun q => q)) rfl fun q => q
      refine hidAppend S₄ kD₄ hsz vy fun s₅ S₅ => ?_
      have K₅ : Keep (· = D) Ψ₄ (Ψ₄.set D (.hid (acc ++ [my]))) := .set_own kD₄ rfl rfl (fun _ q => HK.noConfusion q) (fun _ q => HK.noConfusion q)
      have hi₄ := (hi₂.keep K₃ (fun q => q)).keep K₄ (fun q => q)
      exact ⟨vs.length - (i + 1), hdec, _, H₄, acc ++ [my], i + 1, ρ.set x v, hlen, fun u => sto_set_set _ _ _ _, S₅, ((K2.trans K₃).trans K₄).setNew _ hD, hv.mono (((F2.trans K₃.fix).trans K₄.fix).trans K₅.fix), h₄.1,
        hi₄.keep K₅ (hi₄.elim fun o z => sort_apart kD₄ z.1 ne43), Psi.set_self _ _ _, ((R₂.keep K₃).keep K₄).keepW K₅ fun a k e q => sort_apart kD₄ e (not12 q ne41 ne42), h₄.2⟩

theorem notSet_folded {iter : PySem.Expr} {env : Env} (h : notSet iter = true) (x : Value) : foldedSetIterable iter env x = pure x := by
  cases iter <;> first | rfl | exact absurd h Bool.noConfusion
theorem comp_names {scope : Scope} {x : String} (hok : compOk nm x scope = true) : scope.kind = .function ∧ (∀ y ∈ scope.names, y.2 = .local → scope.names.lookup y.1 = some .local) ∧ isTarget (relabN nm scope.names) x (Str.ofString x) = true := by
  obtain ⟨hok, hall⟩ := and_of hok
  obtain ⟨hok, hx0⟩ := and_of hok
  obtain ⟨hok, hx⟩ := and_of hok
  obtain ⟨hk, hn⟩ := and_of hok
  replace hn := of_decide_eq_true hn
  refine ⟨?_, fun y hy hl => lookup_nodup hn (by rw [← hl]; exact hy), ?_⟩
  · cases q : scope.kind <;> first | rfl | (rw [q] at hk; exact absurd hk (by decide))
  · unfold isTarget
    rw [lookup_relab, Bool.and_eq_true]
    refine ⟨?_, ?_⟩
    · have : ∀ l, strEqL l l = true := by
        intro l; induction l with
        | nil => rfl
        | cons a l ih => simp [strEqL, ih]
      exact this _
    · unfold storeKind at hx ⊢
      split at hx
      · rename_i q; rw [q]; rfl
      · rename_i q; rw [q]; rfl
      · cases hx

/-- how a comprehension must end -/
noncomputable def compP (M : Model) (A : Around) (E : Value → Shared → Prop) (use : Option (Value → Sem Unit)) (fr : Option Addr) (Q : Value → Shared → Prop) (acc : Value) (C : Addr) (r : Result) (s' : Shared) : Prop :=
  match r with
  | .ok _ => (match use with
    | none => ∃ m, s'.heap.Ns C m ∧ ∀ h', Heap.SameBut C s'.heap h' → Q acc { s' with heap := h' }
    | some u => wpAny M A (u acc) (fun _ s'' => ∃ m, s''.heap.Ns C m ∧ ∀ h', Heap.SameBut C s''.heap h' → Q .none { s'' with heap := h' }) E s')
  | .error x => ∃ m, s'.heap.Ns C m ∧ ∀ h', Heap.SameBut C s'.heap h' → ∀ cenv : Env, cenv.frame = fr → wpAny M A (passOn "comprehension.variables-let-go" x cenv : Sem Value) (fun _ _ => False) E { s' with heap := h' }
theorem comp_free {M : Model} {A : Around} {E : Value → Shared → Prop} {s : Shared} {env : Env} {e : PySem.Expr} {scope : Scope} {pos : Pos} {newAcc first : Sem Value} {g : Comprehension} {gs : List Comprehension} {cl : List (Str × Addr)} (use : Option (Value → Sem Unit)) {Q : Value → Shared → Prop}
    (hcl : clausesOf e = g :: gs) (hs : ∀ x, foldedSetIterable g.iter env x = pure x) (hclos : closureFor scope env = pure cl) (hkind : scope.kind = .function) (hnames : ∀ x ∈ scope.names, x.2 = .local → scope.names.lookup x.1 = some .local)
    (h : wpAny M A first (fun x s₁ => wpAny M A (pyIter x) (fun it s₂ => wpAny M A newAcc (fun acc s₃ => wpAny M A (newFunctionEnv scope env.globals cl [] env.qual none .none (some env)) (fun cenv s₄ =>
      cenv.frame = env.frame ∧ codeAny M A (.compStart e 0 it acc { cenv with scope := relabel scope env }) (compP M A E use env.frame Q acc cenv.locals) s₄) E s₃) E s₂) E s₁) E s) :
    wpAny M A (comprehension e scope env pos newAcc false first use) Q E s := by
  have same : ∀ {β : Type} {t : Sem β} {P P' : β → Shared → Prop} {s : Shared}, wpAny M A t P E s → (∀ v s, P v s → P' v s) → wpAny M A t P' E s := fun a b => wpAny_mono a b fun _ _ x => x
  unfold comprehension
  rw [hclos, hcl]
  refine wpAny_bind (same h fun x s₁ h₁ => wpAny_bind (wpAny_standAt (wpAny_bind (wpAny_of_eq (hs x) (wpAny_bind (wpAny_holding (same h₁ fun it s₂ h₂ => ?_)))))))
  refine wpAny_standIf (wpAny_bind (same h₂ fun acc s₃ h₃ => wpAny_bind (wpAny_pure (wpAny_bind (same h₃ fun cenv s₄ h₄ => ?_)))))
  dsimp only
  have hv : ∀ l : List (Str × NameKind), (∀ x ∈ l, x ∈ scope.names) → ∀ x ∈ l, x.2 = .local → Env.kindOf { cenv with scope := relabel scope env } x.1 = some .local := fun l hl x hx hk => lookup_relabel_local (hnames x (hl x hx) hk)
  have inN : ∀ x ∈ (scope.names.filter fun x => (x.2 == .local || x.2 == .cell) && x.1 != (".0" : Str)).reverse, x ∈ scope.names := fun x hx => (List.mem_filter.mp (List.mem_reverse.mp hx)).1
  refine wpAny_holding (wpAny_bind (wpAny_attempt (wpAny_holding (wpAny_run (codeAny_mono h₄.2 fun r s' hr => ?_)))))
  cases r with
  | ok f =>
    cases use with
    | none =>
      obtain ⟨m, hn, hr⟩ := hr
      exact wpAny_bind (wpAny_holding (wpAny_comp_letGo (cenv := { cenv with scope := relabel scope env }) hkind _ s' m (hv _ inN) hn fun h' m' _ hs' => wpAny_pure (hr h' hs')))
    | some u =>
      refine wpAny_bind (wpAny_rule (wpAny_bind (wpAny_holding (same hr fun _ s'' hr' => ?_))))
      obtain ⟨m, hn, hr'⟩ := hr'
      exact wpAny_bind (wpAny_comp_letGo (cenv := { cenv with scope := relabel scope env }) hkind _ s'' m (hv _ fun x hx => inN x ((List.mem_append.mp hx).elim List.mem_of_mem_drop List.mem_of_mem_take)) hn fun h' m' _ hs' => wpAny_pure (hr' h' hs'))
  | error x =>
    obtain ⟨m, hn, hr⟩ := hr
    exact wpAny_bind (wpAny_holding (wpAny_comp_letGo (cenv := { cenv with scope := relabel scope env }) hkind _ s' m (hv _ inN) hn fun h' m' _ hs' => wpAny_mono (hr h' hs' _ h₄.1) (fun _ _ f => f.elim) fun _ _ y => y))
/-- a comprehension, up to what becomes of its list -/
theorem comp_body {elt cond : ME} {x : String} {e' iter : PySem.Expr} {id : Str} {px : Pos} {ifs : List PySem.Expr} {scope : Scope} {pos : Pos} {env : Env} {ρ : Sto} {sv : Value} {src : MV} {vs : List MV} {RR : Value → Addr → Result → Shared → Prop} {Q : MV → MH → Prop} {X : String → MH → Prop}
    (hid : strEq id (Str.ofString x) = true) (hok : compOk nm x scope = true) (hc : SndIfs W Δ n (relabN nm scope.names) cond ifs) (he : SndE W Δ n (relabN nm scope.names) elt e') (C : Cx n false A fs env nm) (R : EnvRel Ψ env ρ) (S : St W fs Ψ H s) (hv : VRel Ψ sv src) (hel : Elems H src vs)
    (h : compW src vs (fun v H k => wE Δ false cond (ρ.set x v) H (asTruth k) X) (fun v H k => wE Δ false elt (ρ.set x v) H k X) Q vs [] H)
    (hRR : ∀ D C' Ψ' H' s', St W fs Ψ' H' s' → Keep none_ Ψ Ψ' → Ψ C' = none → (∃ m, Ψ' C' = some (.ns m)) → D ≠ C' → Q (.ref D) H' → RR (.ref D) C' (.ok .next) s')
    (hXX : ∀ D C' e₀ outer Ψ' H' ea c s', fs = e₀ :: outer → e₀.frame = env.frame → Held W e₀ outer Ψ' ea c s'.heap → St W fs Ψ' H' s' → Keep none_ Ψ Ψ' → Ψ C' = none → (∃ m, Ψ' C' = some (.ns m)) → X c H' → RR (.ref D) C' (.error (.ref ea)) s') :
    wpAny W.M A (pyIter sv) (fun it s₂ => wpAny W.M A (newList []) (fun acc s₃ => wpAny W.M A (newFunctionEnv scope env.globals (clos env.cells scope.names []) [] env.qual none .none (some env)) (fun cenv s₄ =>
      cenv.frame = env.frame ∧ codeAny W.M A (.compStart (.ListComp e' [⟨.Name id px, iter, ifs, 0⟩] scope pos) 0 it acc { cenv with scope := relabel scope env }) (RR acc cenv.locals) s₄) E s₃) E s₂) E s := by
  obtain rfl := strEq_eq hid
  obtain rfl := C.names
  refine op_iter S hv hel fun it Ψ₁ s₁ S₁ K₁ hit up₁ hi => ?_
  refine wpAny_newObj_type ?_
  have S₂ := S₁.push (s' := { s₁ with heap := s₁.heap.push { cls := .type "list", data := .seq ([] : List Value).toArray } }) (k := .hid []) (o := { cls := .type "list", data := .seq ([] : List Value).toArray }) rfl ⟨_, 0, rfl, .nil, Nat.zero_le _⟩ rfl rfl rfl
  have up₂ : ∀ b k, Ψ₁ b = some k → Ψ₁.set s₁.heap.objs.size (.hid []) b = some k := fun b k e => Psi.set_up S₁.none_at e
  have K₂ := K₁.trans (S₁.pushKeep (.hid []))
  have hD0 : Ψ s₁.heap.objs.size = none := by
    cases q : Ψ s₁.heap.objs.size with
    | none => rfl
    | some k => exact nn S₁.none_at (up₁ _ _ q)
  have back : ∀ a, Ψ₁.set s₁.heap.objs.size (.hid []) a = none → Ψ a = none := fun a ha => by
    cases q : Ψ a with
    | none => rfl
    | some k => exact nn ha (up₂ _ _ (up₁ _ _ q))
  obtain ⟨_, Ψ₃, S₃, K₃, R₃, hslot, hC⟩ := compPlace (R.keep K₂) S₂ hok
  obtain ⟨hkind, _, hT⟩ := comp_names hok
  refine newCompEnv ?_
  have C₃ : Cx n false A fs (compEnv scope ({ s₁ with heap := s₁.heap.push { cls := .type "list", data := .seq ([] : List Value).toArray } } : Shared).heap.objs.size env) (relabN env.scope.names scope.names) :=
    ⟨C.frames, C.top, relabel_names R.kind, C.hand, C.depth, C.units⟩
  have hi₃ : ItAt Ψ₃ sv src it 0 := hi.imp fun o z => ⟨K₃.slot _ _ (up₂ _ _ z.1) rfl id, z.2⟩
  have loop := comp_loop (Q := Q) (x := x) (px := px) (iter := iter) (scope := scope) (pos := pos) (RR := RR (.ref s₁.heap.objs.size) ({ s₁ with heap := s₁.heap.push { cls := .type "list", data := .seq ([] : List Value).toArray } } : Shared).heap.objs.size)
    (C.hand rfl) hc he C₃ hT (fun a ha => back a (hslot a ha)) hit hD0 (sto_del_set ρ x)
    (fun Ψ' H' s' S' K' hm hne q => hRR _ _ Ψ' H' s' S' K' (back _ hC) hm hne q) (fun e₀ outer Ψ' H' ea c s' h1 h2 h3 h4 h5 h6 h7 => hXX _ _ e₀ outer Ψ' H' ea c s' h1 h2 h3 h4 h5 (back _ hC) h6 h7) S₃ (K₂.trans K₃) (hv.mono (K₂.trans K₃).fix) hel hi₃ (K₃.slot _ _ (Psi.set_self _ _ _) rfl id) R₃ h
  exact ⟨rfl, codeAny_compStart_list loop (op_iterSelf S₃ hi₃ loop)⟩

theorem frames_ne (S : St W fs Ψ H s) {a : Addr} (h : Ψ a = none) : ∀ e ∈ fs, e.frame ≠ some a := fun e he q => by
  obtain ⟨_, L, m, h1, h2⟩ := S.frames e he
  rw [q] at h1; cases h1; rw [h] at h2; cases h2

theorem ns_of {Ψ' : Psi} {H' : MH} {s' : Shared} {C' : Addr} (S' : St W fs Ψ' H' s') (hm : ∃ m, Ψ' C' = some (.ns m)) : ∃ m, s'.heap.Ns C' m := by
  obtain ⟨m, hm⟩ := hm
  obtain ⟨o, ho, ents, k, hd, hs, hf⟩ := S'.typed _ _ hm
  exact ⟨nsFind ents, o, ents, k, ho, hd, hs, fun _ => rfl⟩
/-- an exception leaves a comprehension -/
theorem comp_out {Ψ₁ Ψ' : Psi} {H₁ H' : MH} {s₁ s' : Shared} {C' ea : Addr} {c : String} {e₀ env : Env} {outer : List Env} {what : String} {QQ : Value → Shared → Prop} (S₁ : St W fs Ψ₁ H₁ s₁) (hfs : fs = e₀ :: outer) (hfr : e₀.frame = env.frame) (F : Held W e₀ outer Ψ' ea c s'.heap) (S' : St W fs Ψ' H' s') (K' : Keep none_ Ψ₁ Ψ') (hC : Ψ₁ C' = none) (hm : ∃ m, Ψ' C' = some (.ns m))
    (h : ∀ Ψ₂ s₂, Fly W fs Ψ₂ ea c s₂.heap → St W fs Ψ₂ H' s₂ → Keep none_ Ψ₁ Ψ₂ → E (.ref ea) s₂) : ∃ m, s'.heap.Ns C' m ∧ ∀ h', Heap.SameBut C' s'.heap h' → ∀ cenv : Env, cenv.frame = env.frame → wpAny W.M A (passOn what (.ref ea) cenv : Sem Value) QQ E { s' with heap := h' } := by
  obtain ⟨m, hn⟩ := ns_of S' hm
  obtain ⟨m', hm⟩ := hm
  refine ⟨m, hn, fun h' hsb cenv hce => ?_⟩
  have fn := frames_ne S₁ hC
  have S'' := S'.forget (s' := { s' with heap := h' }) hm rfl fn hsb.extBut rfl rfl
  subst hfs
  unfold passOn
  exact goesOn (s := { s' with heap := h' }) (F.hide S' hm fn hsb) S'' (hce.trans hfr.symm) fun s₂ F₂ S₂ => wpAny_throw (h _ s₂ F₂ S₂ (K'.delNew hC))
theorem snd_comp {elt cond it : ME} {x : String} {e' iter : PySem.Expr} {id : Str} {px : Pos} {ifs : List PySem.Expr} {scope : Scope} {pos : Pos} (hid : strEq id (Str.ofString x) = true) (hok : compOk nm x scope = true) (hset : notSet iter = true)
    (hit : SndE W Δ n nm it iter) (hc : SndIfs W Δ n (relabN nm scope.names) cond ifs) (he : SndE W Δ n (relabN nm scope.names) elt e') : SndE W Δ n nm (.comp elt x it cond) (.ListComp e' [⟨.Name id px, iter, ifs, 0⟩] scope pos) := by
  intro hd A fs env ρ Ψ H s Q X C R S h
  obtain ⟨rfl, h⟩ := h
  rw [eval_ListComp]
  obtain ⟨hkind, hnames, _⟩ := comp_names hok
  have hcl : closureFor scope env = pure (clos env.cells scope.names []) := by
    have hok' := hok
    rw [← C.names] at hok'
    exact closure_eq (compPlace R S hok').1
  refine comp_free none rfl (fun v => notSet_folded hset v) hcl hkind hnames ?_
  refine monoE (hit C R S h) fun Ψ₁ H₁ src sv s₁ S₁ K₁ va h₁ => ?_
  obtain ⟨vs, hvs, h₁⟩ := h₁
  refine comp_body (X := X) (RR := fun acc C' => compP W.M A (PostX W fs Ψ X) none env.frame (PostE W fs Ψ Q) acc C') hid hok hc he C (R.keep K₁) S₁ va hvs h₁ (fun D C' Ψ' H' s' S' K' hC hm hne q => ?_) fun D C' e₀ outer Ψ' H' ea c s' hfs hfr F S' K' hC hm q => ?_
  · obtain ⟨m, hn⟩ := ns_of S' hm
    obtain ⟨m', hm⟩ := hm
    refine ⟨m, hn, fun h' hsb => ?_⟩
    have S'' := S'.forget (s' := { s' with heap := h' }) hm rfl (frames_ne S₁ hC) hsb.extBut rfl rfl
    exact ⟨_, H', .ref D, S'', K₁.trans (K'.delNew hC), .ref, q⟩
  · exact comp_out S₁ hfs hfr F S' K' hC hm fun Ψ₂ s₂ F₂ S₂ K₂ => ⟨ea, c, Ψ₂, H', rfl, F₂, S₂, K₁.trans K₂, q⟩
end
end Mine
end
section
set_option autoImplicit false
set_option linter.unusedVariables false
namespace Mine
open PySem

section
variable {W : Amb} {K : PySem.W.Frag} {Δ : CallT} {n : Nat} {nm : Names} {fs : List Env} {Ψ Ψ₀ : Psi} {H : MH} {s s' : Shared} {A : Around} {E : Value → Shared → Prop} {env : Env} {outer : List Env}

theorem landed {e : Addr} {c : String} {Q : Unit → Shared → Prop} (F : Held W env outer Ψ e c s.heap) (S : St W (env :: outer) Ψ H s)
    (h : ∀ s', Fly W (env :: outer) Ψ e c s'.heap → (∃ B a0, W.h₀.StaysIn B ∧ B.StaysIn s'.heap ∧ B.get? e = none ∧ (∀ a k, Ψ a = some k → (∀ m, k ≠ .ns m) → ∃ o, B.get? a = some o) ∧ s'.heap.FunFrames B (env :: outer) ∧ s'.heap.TracedAtW B e (.ref (W.ca c)) a0 .none) → St W (env :: outer) Ψ H s' → Q () s') : wpAny W.M A (setFlight (.ref e) none) Q E s := by
  obtain ⟨hcn, B, h0, hB, hn, hk, hf, a0, L, hL, hx⟩ := F
  refine wpAny_landsW ⟨hB, hn, hf, hx⟩ fun h' hfl hu => ?_
  obtain ⟨k1, k2, k3, k4⟩ := hfl
  exact h _ ⟨hcn, B, h0, k1, hn, hk, k3, .inl ⟨a0, k4⟩⟩ ⟨B, a0, h0, k1, hn, hk, k3, k4⟩ (S.flown hk h0 hB k1 hu rfl rfl)

theorem cameBack {e : Addr} {c : String} {Q : Value → Shared → Prop} (F : Held W env outer Ψ e c s.heap) (S : St W (env :: outer) Ψ H s)
    (h : ∀ s', Fly W (env :: outer) Ψ e c s'.heap → St W (env :: outer) Ψ H s' → Q (.ref e) s') : cameBackBy W.M A env Q (.ref e) s := by
  have := goesOn (what := "frame.own-activation:exception-without-traceback") (k := (pure () : Sem Unit)) (A := A) (Q := fun _ s'' => Q (.ref e) s'') (E := Q) F S rfl fun s' f1 f2 => wpAny_pure (h s' f1 f2)
  simpa [cameBackBy] using this
/-- what a raise within a loop leaves -/
theorem noted_loop {X : String → Sto → MH → Prop} {e : Value} (hfr : A.frames = some (env :: outer)) (h : PostY W (env :: outer) env Ψ X e s) :
    notedBy W.M A env (fun e s' => cameBackBy W.M A env (PostY W (env :: outer) env Ψ X) e s') e s := by
  obtain ⟨ea, c, Ψ', H', ρ', rfl, F, S, K', R, x⟩ := h
  refine noted hfr F S fun s₁ hh S₁ => ?_
  exact cameBack hh S₁ fun s₂ F₂ S₂ => ⟨ea, c, Ψ', H', ρ', rfl, F₂, S₂, K', R, x⟩

/-! suites -/
theorem sndSs_nil : SndSs W Δ n nm .nil [] := by
  intro hd A outer env ρ Ψ H s N R X C Rl S h
  exact wpAny_execs_nil ⟨Ψ, H, ρ, S, .refl _ _, Rl, h⟩
theorem sndSs_cons {m : MS} {ms : MSs} {x : Stmt} {xs : List Stmt} (h1 : SndS W Δ n nm m x) (h2 : SndSs W Δ n nm ms xs) : SndSs W Δ n nm (.cons m ms) (x :: xs) := by
  intro hd A outer env ρ Ψ H s N R X C Rl S h
  refine wpAny_execs_cons (wpAny_mono (h1 C Rl S h) (fun f s₁ h₁ => ?_) fun _ _ x => x)
  cases f with
  | next =>
    obtain ⟨Ψ₁, H₁, ρ₁, S₁, K₁, R₁, h₁⟩ := h₁
    exact wpAny_mono (h2 C R₁ S₁ h₁) (fun _ _ x => x.from K₁) fun _ _ x => x.from K₁
  | ret v => exact h₁
  | _ => exact h₁.elim

noncomputable def notComp (x : PySem.Expr) : Bool := !(Nat.beq x.ctorIdx 8 || Nat.beq x.ctorIdx 9 || Nat.beq x.ctorIdx 10)
theorem swaps_not {value : PySem.Expr} {t : Option PySem.Expr} {l : Nat} {env : Env} (h : notComp value = true) : swapsWith value t l env = pure false := by
  cases value <;> first | rfl | exact absurd h Bool.noConfusion
theorem interactive_off {env : Env} (h : env.scope.kind = .function) : interactive env = false := by
  unfold interactive; rw [h]; rfl

theorem snd_expr {e : ME} {x : PySem.Expr} {pos : Pos} (hn : notComp x = true) (he : SndE W Δ n nm e x) : SndS W Δ n nm (.expr e) (.Expr x pos) := by
  intro hd A outer env ρ Ψ H s N R X C Rl S h
  refine wpAny_Expr_any (wpAny_mono (monoE (he C Rl S h) fun Ψ₁ H₁ mv v s₁ S₁ K₁ va h₁ => ?_) (fun _ _ x => x) fun _ _ x => x.toY Rl (.refl _ _)) (interactive_off Rl.kind) (swaps_not hn)
  exact ⟨Ψ₁, H₁, ρ, S₁, K₁.of_none, Rl.keep K₁, h₁⟩
/-- a value to a name -/
theorem assign_any {e : ME} {y : String} {x : PySem.Expr} {id : Str} {p pos : Pos} (hs : ∀ env : Env, env.scope.kind = .function → env.scope.names = nm → swapsWith x (some (.Name id p)) pos.line env = pure false) (ht : isTarget nm y id = true) (he : SndE W Δ n nm e x) : SndS W Δ n nm (.assign y e) (.Assign [.Name id p] x pos) := by
  intro hd A outer env ρ Ψ H s N R X C Rl S h
  refine wpAny_Assign_Name (wpAny_mono (monoE (he C Rl S h) fun Ψ₁ H₁ mv v s₁ S₁ K₁ va h₁ => ?_) (fun _ _ x => x) fun _ _ x => x.toY Rl (.refl _ _)) (hs env Rl.kind C.names)
  refine storeVar C.names (Rl.keep K₁) S₁ ht va fun Ψ₂ s₂ S₂ K₂ R₂ => ?_
  exact ⟨Ψ₂, H₁, _, S₂, K₁.of_none.trans (K₂.weaken fun a ha => slot_own ha), R₂, h₁⟩
theorem snd_assign {e : ME} {y : String} {x : PySem.Expr} {id : Str} {p pos : Pos} (hn : notComp x = true) (ht : isTarget nm y id = true) (he : SndE W Δ n nm e x) : SndS W Δ n nm (.assign y e) (.Assign [.Name id p] x pos) :=
  assign_any (fun _ _ _ => swaps_not hn) ht he
theorem snd_ret {e : ME} {x : PySem.Expr} {pos : Pos} (he : SndE W Δ n nm e x) : SndS W Δ n nm (.ret e) (.Return (some x) pos) := by
  intro hd A outer env ρ Ψ H s N R X C Rl S h
  refine wpAny_Return_some (wpAny_mono (monoE (he C Rl S h) fun Ψ₁ H₁ mv v s₁ S₁ K₁ va h₁ => ?_) (fun _ _ x => x) fun _ _ x => x.toY Rl (.refl _ _))
  exact ⟨Ψ₁, H₁, mv, S₁, K₁.of_none, ⟨ρ, Rl.keep K₁⟩, va, h₁⟩
theorem snd_ite {t : ME} {a b : MSs} {x : PySem.Expr} {xs ys : List Stmt} {pos : Pos} (ht : SndT W Δ n nm t x) (ha : SndSs W Δ n nm a xs) (hb : SndSs W Δ n nm b ys) : SndS W Δ n nm (.ite t a b) (.If x xs ys pos) := by
  intro hd A outer env ρ Ψ H s N R X C Rl S h
  refine wpAny_If (wpAny_mono (monoB (ht C Rl S h) fun Ψ₁ H₁ c s₁ S₁ K₁ h₁ => ?_) (fun _ _ x => x) fun _ _ x => x.toY Rl (.refl _ _))
  cases c with
  | true =>
    exact wpAny_mono (ha C (Rl.keep K₁) S₁ h₁) (fun _ _ x => x.from K₁.of_none) fun _ _ x => x.from K₁.of_none
  | false =>
    exact wpAny_mono (hb C (Rl.keep K₁) S₁ h₁) (fun _ _ x => x.from K₁.of_none) fun _ _ x => x.from K₁.of_none

theorem snd_while {t : ME} {b : MSs} {x : PySem.Expr} {xs : List Stmt} {pos : Pos} (ht : SndT W Δ n nm t x) (hb : SndSs W Δ n nm b xs) : SndS W Δ n nm (.whil t b) (.While x xs [] pos) := by
  intro hd A outer env ρ Ψ H s N R X C Rl S h
  obtain ⟨k, h⟩ := h
  refine wpAny_While (codeAny_whileLoop (I := fun k s => PostN W (env :: outer) env Ψ (whileW (fun ρ H k => wE Δ hd t ρ H (asTruth k) (fun c H₁ => X c ρ H₁)) (fun ρ H k => wSs Δ hd b ρ H k R X) N k) s) (fun k s hI => ?_) k ⟨Ψ, H, ρ, S, .refl _ _, Rl, h⟩)
  clear S Rl h
  obtain ⟨Ψ', H', ρ', S, K', Rl, h⟩ := hI
  cases k with
  | zero => exact h.elim
  | succ k =>
    refine wpAny_mono (monoB (ht C Rl S h) fun Ψ₁ H₁ c s₁ S₁ K₁ h₁ => ?_) (fun _ _ x => x) fun _ _ x => noted_loop C.frames (x.toY Rl K')
    have K1 := K'.trans K₁.of_none
    cases c with
    | true =>
      refine wpAny_mono (hb C (Rl.keep K₁) S₁ h₁) (fun f s₂ h₂ => ?_) fun _ _ x => noted_loop C.frames (x.from K1)
      cases f with
      | next =>
        obtain ⟨Ψ₂, H₂, ρ₂, S₂, K₂, R₂, h₂⟩ := h₂
        exact ⟨k, Nat.lt_succ_self k, Ψ₂, H₂, ρ₂, S₂, K1.trans K₂, R₂, h₂⟩
      | ret v => exact PostS.from (f := .ret v) K1 h₂
      | _ => exact h₂.elim
    | false =>
      exact wpAny_execs_nil ⟨Ψ₁, H₁, ρ', S₁, K1, Rl.keep K₁, h₁⟩
end
end Mine
end
section
set_option autoImplicit false
set_option linter.unusedVariables false
namespace Mine
open PySem

section
variable {W : Amb} {K : PySem.W.Frag} {Δ : CallT} {n : Nat} {nm : Names} {fs : List Env} {Ψ Ψ₀ Ψ' : Psi} {H : MH} {s s' : Shared} {A : Around} {E : Value → Shared → Prop} {env : Env} {outer : List Env}

theorem Keep.newOwn' {own own' : Addr → Prop} (x : Keep own Ψ₀ Ψ) (y : Keep own' Ψ Ψ') (h : ∀ a, own' a → Ψ₀ a = none ∨ own a) : Keep own Ψ₀ Ψ' :=
  ((x.weaken (own' := fun a => own a ∨ own' a) fun _ q => .inl q).trans (y.weaken fun _ q => .inr q)).drop fun a ha => ha.elim .inr (h a)
theorem own_kind {ρ : Sto} {a : Addr} (R : EnvRel Ψ env ρ) (h : ownOf env a) : ∃ k, Ψ a = some k ∧ (k.sort = 1 ∨ k.sort = 2) := by
  rcases h with rfl | ⟨id, h1, h2⟩
  · exact R.loc.elim fun m h => ⟨_, h.1, .inl rfl⟩
  · exact slot_kind R (.inr ⟨h1, h2⟩)
theorem raw_not_own {ρ : Sto} {a : Addr} {o : Obj} (R : EnvRel Ψ env ρ) (h : Ψ a = some (.raw o)) : ¬ ownOf env a := fun q => by
  obtain ⟨k, e, z⟩ := own_kind R q
  obtain rfl := Option.some.inj (h.symm.trans e)
  exact z.elim ne31 ne32

noncomputable def plainIt (c : String) : Bool := c == "list_iterator" || c == "tuple_iterator" || c == "range_iterator" || c == "str_ascii_iterator" || c == "str_iterator"
theorem it_plain {sv : Value} {src : MV} {ia : Addr} {i : Nat} (S : St W fs Ψ H s) (h : ItAt Ψ sv src ia i) : ∃ ia' o c dv, Value.ref ia = .ref ia' ∧ s.heap.get? ia' = some o ∧ o.cls = .type c ∧ o.data = .fields dv ∧ plainIt c = true := by
  obtain ⟨o, ho, hm⟩ := h
  obtain ⟨o', ho', rfl⟩ := S.typed _ _ ho
  cases src with
  | ref a => exact ⟨ia, _, _, _, rfl, ho', hm.1, hm.2, rfl⟩
  | tup vs => exact hm.elim fun a z => ⟨ia, _, _, _, rfl, ho', z.2.1, z.2.2, rfl⟩
  | rng a b c => subst hm; exact ⟨ia, _, _, _, rfl, ho', rfl, rfl, rfl⟩
  | str x =>
    obtain ⟨t, h1, h2⟩ := hm
    refine ⟨ia, _, _, _, rfl, ho', h1, h2, ?_⟩
    unfold strIterType; split <;> rfl
  | none => exact hm.elim
  | bool _ => exact hm.elim
  | int _ => exact hm.elim
  | exc _ => exact hm.elim
/-- binding a loop's target -/
noncomputable def SndTgt (W : Amb) (nm : Names) (f : MV → Sto → Sto → Prop) (t : PySem.Expr) : Prop :=
  ∀ {A : Around} {fs : List Env} {env : Env} {ρ ρ' : Sto} {Ψ : Psi} {H : MH} {s : Shared} {v : Value} {mv : MV} {it : Value} {E : Value → Shared → Prop} {QQ : Unit → Shared → Prop}, A.handled = none → env.scope.names = nm → EnvRel Ψ env ρ → St W fs Ψ H s → VRel Ψ v mv → f mv ρ ρ' →
    (∃ ia o c dv, it = .ref ia ∧ s.heap.get? ia = some o ∧ o.cls = .type c ∧ o.data = .fields dv ∧ plainIt c = true) →
    (∀ Ψ' s', St W fs Ψ' H s' → Keep (ownOf env) Ψ Ψ' → EnvRel Ψ' env ρ' → QQ () s') → wpAny W.M A (letOwnedTupleGo t it v) (fun _ s₁ => wpAny W.M A (assign t env v) QQ E s₁) E s
theorem tgt_name {x : String} {id : Str} {p : Pos} (ht : isTarget nm x id = true) : SndTgt W nm (fun v ρ ρ' => ρ' = ρ.set x v) (.Name id p) := by
  intro A fs env ρ ρ' Ψ H s v mv it E QQ hh hn R S hv hf _ h
  subst hf
  exact wpAny_pure (wpAny_assign_Name (storeVar hn R S ht hv fun Ψ' s' S' K' R' => h Ψ' s' S' (K'.weaken fun a ha => slot_own ha) R'))

/-- where a loop stands -/
inductive ForI (W : Amb) (fs : List Env) (env : Env) (Ψ₁ : Psi) (sv : Value) (src : MV) (vs : List MV) (ia : Addr) (Z : List MV → Sto → MH → Prop) (m : Nat) (s : Shared) : Prop
  | mk (Ψ' : Psi) (H' : MH) (ρ' : Sto) (i : Nat) (hm : m + i = vs.length) (S : St W fs Ψ' H' s) (K : Keep (ownOf env) Ψ₁ Ψ') (R : EnvRel Ψ' env ρ') (va : VRel Ψ' sv src) (hvs : Elems H' src vs) (hi : ItAt Ψ' sv src ia i) (h : Z (vs.drop i) ρ' H')
theorem for_core {f : MV → Sto → Sto → Prop} {t it : PySem.Expr} {itm : ME} {b : MSs} {xs : List Stmt} {pos : Pos} {ρ : Sto} {N : Sto → MH → Prop} {R : MV → MH → Prop} {X : String → Sto → MH → Prop} {body : MV → Sto → MH → (Sto → MH → Prop) → Prop}
    (hset : notSet it = true) (hti : SndTgt W nm f t) (hit : SndE W Δ n nm itm it) (hb : SndSs W Δ n nm b xs) (hbody : ∀ v ρ H k, body v ρ H k → ∃ ρ', f v ρ ρ' ∧ wSs Δ false b ρ' H k R X)
    (C : Cx n false A (env :: outer) env nm) (Rl : EnvRel Ψ env ρ) (S : St W (env :: outer) Ψ H s)
    (h : wE Δ false itm ρ H (fun src H₁ => ∃ vs, Elems H₁ src vs ∧ forW src vs body N vs ρ H₁) (fun c H₁ => X c ρ H₁)) :
    wpAny W.M A (exec (.For t it xs [] pos) env) (PostS W (env :: outer) env Ψ N R) (PostY W (env :: outer) env Ψ X) s := by
  refine wpAny_For (wpAny_mono (monoE (hit C Rl S h) fun Ψ₁ H₁ src sv s₁ S₁ K₁ va h₁ => ?_) (fun _ _ x => x) fun _ _ x => x.toY Rl (.refl _ _)) (fun v => notSet_folded hset v)
  obtain ⟨vs, hvs, h₁⟩ := h₁
  refine op_iter S₁ va hvs fun ia Ψ₂ s₂ S₂ K₂ hia up hi => ?_
  have hia0 : ∀ a, a = ia → Ψ₁ a = none ∨ ownOf env a := fun a q => .inl (q ▸ hia)
  refine codeAny_forLoop_any (I := ForI W (env :: outer) env Ψ₁ sv src vs ia (forW src vs body N)) (fun m s hI => ?_) vs.length
    ⟨Ψ₂, H₁, ρ, 0, rfl, S₂, K₂.of_none, Rl.keep (K₁.trans K₂), va.mono K₂.fix, hvs, hi, h₁⟩
  clear S S₁ S₂ h₁ hi K₂ up Rl va hvs
  obtain ⟨Ψ', H', ρ', i, hm, S', K', R', va, hvs, hi, h₁⟩ := hI
  have hi0 := hi
  obtain ⟨oi, hraw, _⟩ := hi0
  have noI : ∀ a k, Ψ' a = some k → (k.sort = 1 ∨ k.sort = 2) → ¬ a = ia := fun a k e q => sort_apart hraw e (not12 q ne31 ne32)
  cases hx' : vs[i]? with
  | none =>
    rw [List.drop_eq_nil_of_le (List.getElem?_eq_none_iff.mp hx')] at h₁
    exact op_done (C.hand rfl) S' va hvs hi hx' fun Ψ₃ s₃ S₃ K₃ => wpAny_execs_nil ⟨Ψ₃, H', ρ', S₃, K₁.of_none.trans (K'.newOwn' K₃ hia0), R'.keepW K₃ noI, h₁⟩
  | some v =>
    have hlt := (List.getElem?_eq_some_iff.mp hx').1
    rw [List.drop_eq_getElem_cons hlt, (List.getElem?_eq_some_iff.mp hx').2] at h₁
    refine op_next S' va hvs hi hx' fun w Ψ₃ s₃ S₃ K₃ vw hi₃ => ?_
    have R₃ := R'.keepW K₃ noI
    have K13 := K'.newOwn' K₃ hia0
    obtain ⟨ρ'', hf, h₁⟩ := hbody _ _ _ _ h₁
    refine hti (C.hand rfl) C.names R₃ S₃ vw hf (it_plain S₃ hi₃) fun Ψ₄ s₄ S₄ K₄ R₄ => ?_
    have hi₄ := hi₃.keep K₄ (hi₃.elim fun o z => raw_not_own R₃ z.1)
    have K14 := K₁.of_none.trans (K13.trans K₄)
    refine wpAny_mono (hb C R₄ S₄ h₁) (fun fl s₅ h₅ => ?_) fun _ _ x => noted_loop C.frames (x.from K14)
    cases fl with
    | next =>
      obtain ⟨Ψ₅, H₅, ρ₅, S₅, K₅, R₅, hel, h₅⟩ := h₅
      exact ⟨vs.length - (i + 1), by (first | lia | omega), Ψ₅, H₅, ρ₅, i + 1, Nat.sub_add_cancel hlt, S₅, (K13.trans K₄).trans K₅, R₅, va.mono (K₃.fix.trans (K₄.fix.trans K₅.fix)), hel, hi₄.keep K₅ (hi₄.elim fun o z => raw_not_own R₄ z.1), h₅⟩
    | ret v => exact PostS.from (f := .ret v) K14 h₅
    | _ => exact h₅.elim
end
end Mine
end
section
set_option autoImplicit false
set_option linter.unusedVariables false
namespace Mine
open PySem

section
variable {W : Amb} {K : PySem.W.Frag} {Δ : CallT} {n : Nat} {nm : Names} {fs : List Env} {Ψ Ψ₀ Ψ' : Psi} {H : MH} {s s' : Shared} {A : Around} {E : Value → Shared → Prop} {env : Env} {outer : List Env}

theorem snd_for {x : String} {it : ME} {b : MSs} {id : Str} {p : Pos} {t : PySem.Expr} {xs : List Stmt} {pos : Pos} (ht : isTarget nm x id = true) (hset : notSet t = true) (hit : SndE W Δ n nm it t) (hb : SndSs W Δ n nm b xs) : SndS W Δ n nm (.for_ x it b) (.For (.Name id p) t xs [] pos) := by
  intro hd A outer env ρ Ψ H s N R X C Rl S h
  obtain ⟨rfl, h⟩ := h
  exact for_core (f := fun v ρ ρ' => ρ' = ρ.set x v) hset (tgt_name ht) hit hb (fun v ρ H k z => ⟨_, rfl, z⟩) C Rl S h

/-! attributes are set -/
theorem putL_find {name y : Str} {hsh : Int} {t : Tok} {v : Value} : ∀ {es : List DictEntry}, (∀ e ∈ es, ∃ m t, e.key = .str m t) →
    ((PySem.W.putL name hsh (.str name t) v es).find? (·.key.isStr y)).map (·.val) = if y = name then some v else (es.find? (·.key.isStr y)).map (·.val)
  | [], _ => by
    simp only [PySem.W.putL, List.find?_cons, List.find?_nil]
    by_cases q : y = name
    · subst q; simp [Value.isStr]
    · have : Value.isStr (.str name t) y = false := by simp only [Value.isStr]; exact beq_eq_false_iff_ne.mpr fun z => q z.symm
      rw [this, if_neg q]
  | e :: es, h => by
    obtain ⟨m, u, hm⟩ := h e (by simp)
    have ih := putL_find (name := name) (y := y) (hsh := hsh) (t := t) (v := v) (es := es) fun e he => h e (by simp [he])
    unfold PySem.W.putL
    have ks : ∀ z, e.key.isStr z = (m == z) := fun z => by rw [hm]; rfl
    cases q : e.key.isStr name with
    | true =>
      rw [ks] at q
      obtain rfl := beq_iff_eq.mp q
      simp only [if_true, List.find?_cons, ks]
      by_cases z : y = m
      · subst z; simp
      · have : (m == y) = false := beq_eq_false_iff_ne.mpr fun w => z w.symm
        rw [this, if_neg z]
    | false =>
      simp only [Bool.false_eq_true, if_false, List.find?_cons, ks]
      cases z : m == y with
      | true =>
        obtain rfl := beq_iff_eq.mp z
        rw [ks] at q
        rw [if_neg (beq_eq_false_iff_ne.mp q)]
      | false => exact ih
theorem putL_keys {name : Str} {hsh : Int} {t : Tok} {v : Value} : ∀ {es : List DictEntry}, (∀ e ∈ es, ∃ m t, e.key = .str m t) → ∀ e ∈ PySem.W.putL name hsh (.str name t) v es, ∃ m t, e.key = .str m t
  | [], _, e, he => by simp only [PySem.W.putL, List.mem_singleton] at he; subst he; exact ⟨_, _, rfl⟩
  | a :: es, h, e, he => by
    unfold PySem.W.putL at he
    split at he
    · rcases List.mem_cons.mp he with q | q
      · subst q; exact h a (by simp)
      · exact h e (by simp [q])
    · rcases List.mem_cons.mp he with q | q
      · subst q; exact h e (by simp)
      · exact putL_keys (fun e he => h e (by simp [he])) e q
theorem putL_length {name : Str} {hsh : Int} {key v : Value} : ∀ {es : List DictEntry}, (PySem.W.putL name hsh key v es).length = if es.any (·.key.isStr name) then es.length else es.length + 1
  | [] => rfl
  | a :: es => by
    have ih := putL_length (name := name) (hsh := hsh) (key := key) (v := v) (es := es)
    unfold PySem.W.putL
    cases q : a.key.isStr name with
    | true => simp [q]
    | false =>
      simp only [Bool.false_eq_true, if_false, List.length_cons, List.any_cons, q, Bool.false_or, ih]
      split <;> rfl
theorem fsSet_length {f : String} {x : MV} : ∀ {l : List (String × MV)}, (fsSet l f x).length = if (fsGet l f).isSome then l.length else l.length + 1
  | [] => rfl
  | (y, u) :: r => by
    have ih := fsSet_length (f := f) (x := x) (l := r)
    unfold fsSet fsGet
    by_cases q : f = y
    · simp [q]
    · simp only [q, if_false, List.length_cons, ih]; split <;> rfl
theorem fsGet_set {f g : String} {x : MV} : ∀ {l : List (String × MV)}, fsGet (fsSet l f x) g = if g = f then some x else fsGet l g
  | [] => by unfold fsSet fsGet fsGet; rfl
  | (y, u) :: r => by
    have ih := fsGet_set (f := f) (g := g) (x := x) (l := r)
    unfold fsSet
    by_cases q : f = y
    · subst q
      simp only [if_true, fsGet]
      by_cases z : g = f <;> simp [z]
    · simp only [q, if_false, fsGet, ih]
      by_cases z : g = y
      · subst z; simp [Ne.symm q]
      · simp [z]

noncomputable def setOk (ca : String → Addr) (K : PySem.W.Frag) (f : Str) : Bool := (PySem.W.findIn K (.ref (ca "Train")) "__setattr__" == some (some (.builtin "object.__setattr__"))) && PySem.W.plainOver K (ca "Train") && (PySem.W.takerIn K (ca "Train") f == some none) && PySem.W.hasDictIn K (ca "Train")

/-- a name among the entries -/
theorem any_of_find {ents : Array DictEntry} {x : Str} : ents.toList.any (·.key.isStr x) = (nsFind ents x).isSome := by
  rw [nsFind_list, Option.isSome_map, Bool.eq_iff_iff, List.find?_isSome, List.any_eq_true]
theorem put_ledger {Ψ : Psi} {o : Obj} {ents : Array DictEntry} {l : List (String × MV)} {f : String} {a : Addr} {v : Value} {mx : MV} {hsh : Int} {t : Tok} {k : Nat} (hs : StrKeys ents) (hsz : ents.size ≤ l.length) (hn : ∀ x, fsGet l x = none → nsFind ents (Str.ofString x) = none)
    (hf : ∀ x mv, fsGet l x = some mv → ∃ v, nsFind ents (Str.ofString x) = some v ∧ VRel Ψ v mv) (hx : VRel Ψ v mx) (he : o.ExactDict) (hd : o.data = .dict (PySem.W.putL (Str.ofString f) hsh (.str (Str.ofString f) t) v ents.toList).toArray k) : W.O Ψ o (.idict a (fsSet l f mx)) := by
  have hkeys : ∀ e ∈ ents.toList, ∃ m t, e.key = .str m t := fun e he' => hs e (by simpa using he')
  have fnd : ∀ y, nsFind (PySem.W.putL (Str.ofString f) hsh (.str (Str.ofString f) t) v ents.toList).toArray (Str.ofString y) = if y = f then some v else nsFind ents (Str.ofString y) := fun y => by
    rw [nsFind_list, nsFind_list]
    refine (putL_find hkeys).trans ?_
    by_cases z : y = f
    · rw [if_pos z, if_pos (z ▸ rfl)]
    · rw [if_neg z, if_neg fun w => z (ofString_inj w)]
  refine ⟨he, _, _, hd, ⟨fun e he' => putL_keys hkeys e (by simpa using he'), ?_⟩, fun y hy => ?_, fun y mv hy => ?_⟩
  · rw [List.size_toArray, putL_length, fsSet_length, any_of_find, Array.length_toList]
    cases q : fsGet l f with
    | some mv => obtain ⟨w, hw, _⟩ := hf f mv q; rw [hw]; exact hsz
    | none => rw [hn f q]; exact Nat.succ_le_succ hsz
  · rw [fsGet_set] at hy
    rw [fnd]
    by_cases z : y = f
    · rw [if_pos z] at hy; exact nn hy rfl
    · rw [if_neg z] at hy ⊢; exact hn y hy
  · rw [fsGet_set] at hy
    rw [fnd]
    by_cases z : y = f
    · rw [if_pos z] at hy ⊢; exact ⟨v, rfl, Option.some.inj hy ▸ hx⟩
    · rw [if_neg z] at hy ⊢; exact hf y mv hy
open PySem.W in
theorem op_setattr {f : String} {o v : Value} {mo mx : MV} {Q : MH → Prop} {QQ : Unit → Shared → Prop} (F : Facts W K) (hok : setOk W.ca K (Str.ofString f) = true) (S : St W fs Ψ H s) (ho : VRel Ψ o mo) (hx : VRel Ψ v mx) (h : SetAttrR H Q mo f mx)
    (hq : ∀ Ψ' H' s', St W fs Ψ' H' s' → Keep none_ Ψ Ψ' → Q H' → QQ () s') : wpAny W.M A (setAttr o (Str.ofString f) v) QQ E s := by
  cases h with
  | @mk a l _ _ hl hlen h =>
    obtain rfl := vref ho
    obtain ⟨ox, d, od, ents, k, h1, h2, I, hdx, hod, he, hk, hs, hsz, hn, hf⟩ := S.inst hl
    obtain ⟨hok, k4⟩ := and_of hok
    obtain ⟨hok, k3⟩ := and_of hok
    obtain ⟨k1, k2⟩ := and_of hok
    refine set_plain (F.at S) I (eq_of_beq k1) (osa_open (s := { s with toks := s.toks + 1 }) (F.at (S.toks (s.toks + 1))) I k2 (eq_of_beq k3) fun b => ?_)
    obtain ⟨cd, hc, hd'⟩ := any_some k4
    obtain ⟨hxa, hcl, hn', -⟩ := I
    obtain ⟨oc, odi, oda, osl⟩ := ox
    dsimp only at hcl hdx
    subst hcl hdx
    have hodd : od = dictOf ents.toList k := by
      obtain ⟨e1, e2, e3⟩ := he
      obtain ⟨oc', odi', oda', osl'⟩ := od
      dsimp only at e1 e2 e3 hk
      subst e1 e2 e3 hk
      simp [dictOf]
    refine wpAny_bind (wpAny_pure (wpAny_bind (wpAny_bind (wpAny_loadPart hxa (wpAny_bind ((looks_clsIn (F.at (S.toks (s.toks + 1))) hc).here ?_))))))
    rw [hd']
    refine wpAny_pure (a := some d) (wpAny_bind (wpAny_pure (wpAny_bind ?_)))
    unfold nsSet
    refine wpAny_bind (wpAny_bind (wpAny_askSetting (wpAny_pure (wpAny_bind (wpAny_mkText (wpAny_bind (wpAny_loadPart hod ?_)))))))
    rw [hk]
    dsimp only
    have cc : (!ents.any (·.key.isStr (Str.ofString f)) && ents.any (·.refKey)) = false := by
      have := noRef hs
      rw [Array.any_toList] at this
      rw [this, Bool.and_false]
    rw [aRefKeyMayBeTheName_at, cc]
    have hput := putName_dict (Str.ofString f) (PyData.keyHash W.w.params (Str.ofString f)) (.str (Str.ofString f) (s.toks + 1)) v ents.toList k
    have hL := putL_length (name := Str.ofString f) (hsh := PyData.keyHash W.w.params (Str.ofString f)) (key := .str (Str.ofString f) (s.toks + 1)) (v := v) (es := ents.toList)
    refine wpAny_updatePart hod ?_
    have hnew : (s.heap.update d (Obj.putName (Str.ofString f) (PyData.keyHash W.w.params (Str.ofString f)) (.str (Str.ofString f) (s.toks + 1)) v)).get? d = some (dictOf (putL (Str.ofString f) (PyData.keyHash W.w.params (Str.ofString f)) (.str (Str.ofString f) (s.toks + 1)) v ents.toList) (putN (Str.ofString f) ents.toList k)) := by
      rw [Heap.get?_update_self _ hod (by rw [hodd, hput]; rfl), hodd, hput]
    have hsize : (putL (Str.ofString f) (PyData.keyHash W.w.params (Str.ofString f)) (.str (Str.ofString f) (s.toks + 1)) v ents.toList).length ≤ 101 := by
      rw [hL, Array.length_toList]; split <;> (first | lia | omega)
    refine wpAny_bind (wpAny_lookBehind hnew (pastItsLine_dict (by rw [List.size_toArray, sizeLine_eq]; (first | lia | omega))) ?_)
    refine wpAny_pure ?_
    -- the ledger
    have F1 : Fix Ψ (Ψ.set d (.idict a (fsSet l f mx))) := .set_turn _ h2 rfl
    refine hq (Ψ.set d (.idict a (fsSet l f mx))) (H.set a (.inst (fsSet l f mx))) _ (S.turned (s' := { s with heap := s.heap.update d (Obj.putName (Str.ofString f) (PyData.keyHash W.w.params (Str.ofString f)) (.str (Str.ofString f) (s.toks + 1)) v), toks := _ }) (k := .idict a (fsSet l f mx)) h2 rfl (fun m q => HK.noConfusion q)
      (put_ledger hs hsz hn (fun x mv h => (hf x mv h).imp fun _ z => ⟨z.1, z.2.mono F1⟩) (hx.mono F1) ⟨rfl, rfl, rfl⟩ rfl) (Heap.SameBut.update ..) hnew (fun b x e => ?_) rfl rfl (fun _ q => HK.noConfusion q)) (.set_data _ h2 rfl) h
    have ne : ∀ c k', Ψ c = some k' → (∀ l', k' ≠ .idict a l') → Ψ.set d (.idict a (fsSet l f mx)) c = some k' := fun c k' e' hr => (Psi.set_ne _ _ fun (z : c = d) => hr l (Option.some.inj ((z ▸ e').symm.trans h2))).trans e'
    by_cases q : b = a
    · subst q; exact Option.some.inj ((MH.set_self _ _ _).symm.trans e) ▸ ⟨d, ne _ _ h1 (fun _ z => HK.noConfusion z), Psi.set_self _ _ _⟩
    · have := S.heap b x ((MH.set_ne _ _ q).symm.trans e)
      cases x with
      | inst l' => exact this.imp fun d' z => ⟨ne _ _ z.1 (fun _ z => HK.noConfusion z), ne _ _ z.2 (fun _ z => q (HK.noConfusion z fun w _ => w))⟩
      | _ => exact ne _ _ this (fun _ z => HK.noConfusion z)
end
end Mine
end
section
set_option autoImplicit false
set_option linter.unusedVariables false
namespace Mine
open PySem

section
variable {W : Amb} {K : PySem.W.Frag} {Δ : CallT} {n : Nat} {nm : Names} {fs : List Env} {Ψ Ψ₀ Ψ' : Psi} {H : MH} {s s' : Shared} {A : Around} {E : Value → Shared → Prop} {env : Env} {outer : List Env}

theorem swaps_attr {value o : PySem.Expr} {a : Str} {p : Pos} {l : Nat} {env : Env} : swapsWith value (some (.Attribute o a p)) l env = pure false := by cases value <;> rfl
theorem snd_setAttr {e v : ME} {f : String} {x y : PySem.Expr} {nf : Str} {p pos : Pos} (F : Facts W K) (hf : strEq nf (Str.ofString f) = true) (hok : setOk W.ca K (Str.ofString f) = true) (he : SndE W Δ n nm e x) (hv : SndE W Δ n nm v y) : SndS W Δ n nm (.setAttr e f v) (.Assign [.Attribute x nf p] y pos) := by
  intro hd A outer env ρ Ψ H s N R X C Rl S h
  obtain rfl := strEq_eq hf
  refine plainObj_wpAny_Assign_Attribute (wpAny_mono (monoE (hv C Rl S h) fun Ψ₁ H₁ mv w s₁ S₁ K₁ va h₁ => ?_) (fun _ _ x => x) fun _ _ x => x.toY Rl (.refl _ _)) swaps_attr
  refine wpAny_mono (monoE (he C (Rl.keep K₁) S₁ h₁) fun Ψ₂ H₂ mo o s₂ S₂ K₂ vo h₂ => ?_) (fun _ _ x => x) fun _ _ x => x.toY (Rl.keep K₁) K₁.of_none
  refine op_setattr F hok S₂ vo (va.mono K₂.fix) h₂ fun Ψ₃ H₃ s₃ S₃ K₃ h₃ => ?_
  have K13 := (K₁.trans K₂).trans K₃
  exact ⟨Ψ₃, H₃, ρ, S₃, K13.of_none, Rl.keep K13, h₃⟩

theorem ne12 : (1 : Nat) ≠ 2 := by decide
/-- a comprehension to a name on its own line -/
noncomputable def compLine (nm : Names) (id : Str) (p : Pos) (scope : Scope) (pos : Pos) : Bool := (nm.lookup id == some .local) && p.line == pos.line && !(scope.names.any fun (n, k) => n == id && (k == .local || k == .cell))
theorem swaps_of {id : Str} {p : Pos} {elt : PySem.Expr} {gens : List Comprehension} {scope : Scope} {pos : Pos} {l : Nat} {env : Env} (hk : env.scope.kind = .function) (hn : env.scope.names = nm) :
    swapsWith (.ListComp elt gens scope pos) (some (.Name id p)) l env = pure (compLine nm id p scope pos) := by
  unfold swapsWith compLine
  show (pure (env.blockKind == .function && env.kindOf id == some .local && p.line == pos.line && _) : Sem Bool) = _
  have : env.blockKind = .function := by unfold Env.blockKind; rw [hk]; rfl
  rw [this, ← hn]
  rfl
theorem snd_assignComp {elt cond it : ME} {x y : String} {e' iter : PySem.Expr} {id idy : Str} {px py : Pos} {ifs : List PySem.Expr} {scope : Scope} {pos spos : Pos} (hy : isTarget nm y idy = true) (hid : strEq id (Str.ofString x) = true) (hok : compOk nm x scope = true) (hset : notSet iter = true)
    (hit : SndE W Δ n nm it iter) (hc : SndIfs W Δ n (relabN nm scope.names) cond ifs) (he : SndE W Δ n (relabN nm scope.names) elt e') : SndS W Δ n nm (.assign y (.comp elt x it cond)) (.Assign [.Name idy py] (.ListComp e' [⟨.Name id px, iter, ifs, 0⟩] scope pos) spos) := by
  cases hl : compLine nm idy py scope pos with
  | false => exact assign_any (fun env h1 h2 => (swaps_of h1 h2).trans (by rw [hl])) hy (snd_comp hid hok hset hit hc he)
  | true =>
    intro hd A outer env ρ Ψ H s N R X C Rl S h
    obtain ⟨rfl, h⟩ := h
    rw [exec_Assign_Name_used _ _ _ _ ((swaps_of Rl.kind C.names).trans (by rw [hl]))]
    refine wpAny_bind (wpAny_standAt (wpAny_bind ?_))
    show wpAny _ A (do let _ ← comprehension (.ListComp e' [⟨.Name id px, iter, ifs, 0⟩] scope pos) scope env _ (newList []) false (eval iter env) (some (assign (.Name idy py) env))) _ _ s
    obtain ⟨hkind, hnames, _⟩ := comp_names hok
    have hcl : closureFor scope env = pure (clos env.cells scope.names []) := by
      have hok' := hok
      rw [← C.names] at hok'
      exact closure_eq (compPlace Rl S hok').1
    refine wpAny_bind (wpAny_mono (comp_free (some (assign (.Name idy py) env)) (Q := fun _ s' => PostS W (env :: outer) env Ψ N R .next s') rfl (fun v => notSet_folded hset v) hcl hkind hnames ?_) (fun _ s' hq => wpAny_pure (wpAny_pure hq)) fun _ _ e => e)
    refine wpAny_mono (monoE (hit C Rl S h) fun Ψ₁ H₁ src sv s₁ S₁ K₁ va h₁ => ?_) (fun _ _ x => x) fun _ _ x => x.toY Rl (.refl _ _)
    obtain ⟨vs, hvs, h₁⟩ := h₁
    refine comp_body (X := fun c H => X c ρ H) (RR := fun acc C' => compP W.M A (PostY W (env :: outer) env Ψ X) (some (assign (.Name idy py) env)) env.frame (fun _ s' => PostS W (env :: outer) env Ψ N R .next s') acc C') hid hok hc he C (Rl.keep K₁) S₁ va hvs h₁ (fun D C' Ψ' H' s' S' K' hC hm hne q => ?_) fun D C' e₀ outer' Ψ' H' ea c s' hfs hfr F S' K' hC hm q =>
      comp_out S₁ hfs hfr F S' K' hC hm fun Ψ₂ s₂ F₂ S₂ K₂ => PostX.toY (X := X) Rl (.refl _ _) ⟨ea, c, Ψ₂, H', rfl, F₂, S₂, K₁.trans K₂, q⟩
    obtain ⟨m, hm⟩ := hm
    have R₁ := Rl.keep K₁
    refine wpAny_assign_Name (storeVar C.names (R₁.keep K') S' hy .ref fun Ψ₂ s₂ S₂ K₂ R₂ => ?_)
    have hm₂ : Ψ₂ C' = some (.ns m) := K₂.slot _ _ hm rfl fun z => (slot_kind R₁ z).elim fun k e => nn hC e.1
    obtain ⟨o, ho, ents, k, hd, hs, hf⟩ := S₂.typed _ _ hm₂
    refine ⟨nsFind ents, ⟨o, ents, k, ho, hd, hs, fun _ => rfl⟩, fun h' hsb => ?_⟩
    have S₃ := S₂.forget (s' := { s₂ with heap := h' }) hm₂ rfl (frames_ne S₁ hC) hsb.extBut rfl rfl
    have K12 : Keep (ownOf env) Ψ₁ Ψ₂ := K'.of_none.trans (K₂.weaken fun a ha => slot_own ha)
    have K13 : Keep (ownOf env) Ψ₁ (Ψ₂.del C') := ⟨fun b k e f => (Psi.del_ne _ (ne_of_none hC e)).trans (K12.fix b k e f), fun b k e f g => (Psi.del_ne _ (ne_of_none hC e)).trans (K12.slot b k e f g),
      fun b m e => (K12.ns b m e).imp fun _ q => (Psi.del_ne _ (ne_of_none hC e)).trans q, fun b m e => (K12.cell b m e).imp fun _ q => (Psi.del_ne _ (ne_of_none hC e)).trans q⟩
    have ownNe : ∀ a, ownOf env a → a ≠ C' := fun a ha z => (own_kind R₁ ha).elim fun k e => nn hC (z ▸ e.1)
    refine ⟨Ψ₂.del C', H', _, S₃, K₁.of_none.trans K13, ?_, q⟩
    exact ⟨R₂.kind, R₂.glob, R₂.blt, R₂.loc.imp fun m' z => ⟨(Psi.del_ne _ (ownNe _ (.inl rfl))).trans z.1, z.2⟩, fun y u hy hu => (R₂.val y u hy hu).imp fun c z => ⟨z.1, Psi.del_sort hm₂ z.2 ne12⟩, fun y hy => (R₂.cel y hy).imp fun c z => z.imp fun w z => ⟨z.1, Psi.del_sort hm₂ z.2 ne12⟩, R₂.apart⟩

/-! raising -/
noncomputable def veBm : List Value := [.type "ValueError", .type "Exception", .type "BaseException", .type "object"]
noncomputable def raiseOk (ca : String → Addr) (K : PySem.W.Frag) (c : String) : Bool := excNames.contains c && (PySem.W.nsIn K mainGlobals (Str.ofString c) == some (some (.ref (ca c)))) && PySem.W.excIn K (ca c) veBm "ValueError.__new__"

theorem Fly.new {fs : List Env} {e : Addr} {c : String} {h' : Heap} {args : List Value} (S : St W fs Ψ H s) (hc : excNames.contains c = true) (hm : Heap.MadeExcOf s.heap h' e (.ref (W.ca c)) args) : Fly W fs Ψ e c h' := by
  let ls := fs.filterMap (·.frame)
  have hls : ∀ a ∈ ls, ∃ m, Ψ a = some (.ns m) := fun a ha => by
    obtain ⟨e', he', hf⟩ := List.mem_filterMap.mp ha
    obtain ⟨_, L, m, h1, h2⟩ := S.frames e' he'
    rw [hf] at h1; cases h1; exact ⟨m, h2⟩
  have hB : (PySem.W.hideAll s.heap ls).StaysIn h' := fun b o e => hm.keeps b o (PySem.W.of_hideAll _ e)
  refine ⟨hc, PySem.W.hideAll s.heap ls, fun b o e => PySem.W.hideAll_get _ (S.base b o e) fun q => ?_, hB, ?_, fun a k e hk => ?_, ?_, .inr (.inr ?_)⟩
  · obtain ⟨m, hm'⟩ := hls b q
    have := S.fresh b _ hm' fun vs z => by cases z
    rw [this] at e; cases e
  · cases q : (PySem.W.hideAll s.heap ls).get? e with
    | none => rfl
    | some o => have := PySem.W.of_hideAll _ q; rw [hm.new] at this; cases this
  · obtain ⟨o, ho, _⟩ := S.typed a k e
    exact ⟨o, PySem.W.hideAll_get _ ho fun q => by obtain ⟨m, hm'⟩ := hls a q; rw [e] at hm'; cases hm'; exact hk _ rfl⟩
  · suffices ∀ l : List Env, (∀ e ∈ l, e ∈ fs) → h'.FunFrames (PySem.W.hideAll s.heap ls) l from this fs fun _ h => h
    intro l
    induction l with
    | nil => intro _; trivial
    | cons a l ih =>
      intro hl
      have ha := hl a (by simp)
      obtain ⟨p, L, m, h1, h2⟩ := S.frames a ha
      obtain ⟨o, ho, ents, k, hd, _⟩ := S.typed _ _ h2
      exact ⟨p, ⟨L, o, h1, PySem.W.hideAll_none _ (List.mem_filterMap.mpr ⟨a, ha, h1⟩), hm.keeps _ _ ho, fun vs q => by rw [hd] at q; cases q⟩, ih fun e he => hl e (by simp [he])⟩
  · obtain ⟨t, h1, _⟩ := hm.there
    exact ⟨_, _, .ref t, h1, rfl, rfl, rfl, rfl⟩

theorem snd_raise {c msg : String} {id m : Str} {k : Nat} {np p cpos pos : Pos} (F : Facts W K) (hx : isGlob nm c id = true) (hok : raiseOk W.ca K c = true) :
    SndS W Δ n nm (.raise c msg) (.Raise (some (.Call (.Name id np) [.Constant (.str m) k p] [] cpos)) none pos) := by
  intro hd A outer env ρ Ψ H s N R X C Rl S h
  obtain ⟨rfl, h⟩ := h
  obtain ⟨hok, r3⟩ := and_of hok
  obtain ⟨r1, r2⟩ := and_of hok
  replace r2 := eq_of_beq r2
  obtain ⟨pp, loose, mg, mb, T⟩ := F.top
  obtain ⟨bm, N', nm', qn, bs, hdct, sn, sub, ab, col, dd, k0, k1, k2, k3, k5, mN, hC, hN, hni, TL⟩ := (PySem.W.own_of_in F.inn T r2 r3).obj
  refine wpAny_Raise_call_subU (nm := nm') (q := qn) (C := W.ca c) (N := N') (bs := bs) (bm := bm) (hdct := hdct) (sn := sn) (sub := sub) (ab := ab) (col := col) (dd := dd) (k0 := k0) (k1 := k1) (k2 := k2) (k3 := k3) (k5 := k5) (mN := mN) PySem.F.excBase_ValueError (bmB := veBm) (by decide) PySem.F.excBase_ValueError (TL.hasType (by decide)) (C.hand rfl) rfl hni ?_
  refine loadGlob F C Rl S hx r2 ⟨rfl, ?_⟩
  refine Calls.evalArgs_plain (Calls.spliced_cons (Calls.Constant_str (k := k) (pos := p) (Calls.spliced_nil ?_)))
  have S' := S.toks (s.toks + 1)
  refine ⟨rfl, by simp [sizeLine], S.base _ _ hC, hN.keeps S.base, TL.keeps S.base, fun h' e hm => ?_⟩
  refine ⟨e, c, Ψ, H, ρ, rfl, Fly.new S' r1 hm, S'.of_all (s' := { s with heap := h', toks := s.toks + 1 }) hm.keeps rfl rfl, .refl _ _, Rl, h⟩
end
end Mine
end
section
set_option autoImplicit false
set_option linter.unusedVariables false
namespace Mine
open PySem
theorem nof {P : Prop} (h : false = true) : P := by cases h
theorem bl {a b : Bool} (h : (a && b) = true) : a = true := (Bool.and_eq_true_iff.mp h).1
theorem br {a b : Bool} (h : (a && b) = true) : b = true := (Bool.and_eq_true_iff.mp h).2
theorem bany {α : Type} {o : Option α} {f : α → Bool} (h : o.any f = true) : ∃ a, o = some a ∧ f a = true := by
  cases o with
  | none => cases h
  | some a => exact ⟨a, rfl, h⟩
theorem dno {c : Prop} [Decidable c] {f : c → Bool} (h : (if q : c then f q else false) = true) : c := by
  by_cases q : c
  · exact q
  · rw [dif_neg q] at h; cases h
noncomputable def isName (x : PySem.Expr) (f : Str → Pos → Bool) : Bool := if h : x.ctorIdx = 23 then PySem.Expr.Name.elim (motive_1 := fun _ => Bool) x h f else false
@[elab_as_elim] theorem isName_of {P : PySem.Expr → Prop} {x : PySem.Expr} {f : Str → Pos → Bool} (h : isName x f = true) (k : ∀ a0 a1, f a0 a1 = true → P (.Name a0 a1)) : P x := PySem.Expr.Name.elim (motive_1 := fun x => isName x f = true → P x) x (dno h) k h
end Mine
end
section
set_option autoImplicit false
set_option linter.unusedVariables false
namespace Mine
open PySem

section
variable {W : Amb} {K : PySem.W.Frag} {Δ : CallT} {n : Nat} {nm : Names} {fs : List Env} {Ψ Ψ₀ Ψ' : Psi} {H : MH} {s s' : Shared} {A : Around} {E : Value → Shared → Prop} {env : Env} {outer : List Env}

/-! items are set -/
theorem setItem_exact {l : Addr} {items : Array Value} {e : Nat} {k : Int} {t : Tok} {v : Value} {Q : Unit → Shared → Prop} {prog : Program} {w : World} (ho : s.heap.get? l = some { cls := .type "list", dict := none, data := .seq items e, slots := #[] })
    (h0 : 0 ≤ k) (hfit : k < 2 ^ 63) (hn : k < items.size)
    (hQ : ∀ h' e', h'.get? l = some { cls := .type "list", dict := none, data := .seq (items.setIfInBounds k.toNat v) e', slots := #[] } → Heap.SameBut l s.heap h' → Q () { s with heap := h' }) :
    wpAny (model prog w) A (setItem (.ref l) (.int k t) v) Q E s := by
  have hl : s.heap.IsList l items := ⟨_, ho, rfl, e, rfl⟩
  have hd : ({ cls := .type "list", dict := none, data := .seq items e, slots := #[] } : Obj).data = .seq items e := rfl
  unfold setItem
  try with_reducible refine wpAny_holding ?_
  first | refine wpAny_bind (wpAny_pure ?_) | skip
  refine wpAny_bind (wpAny_sequenceKey hl.typeIs (by decide) ?_)
  refine wpAny_bind (wpAny_callSpecial?_slot (name := Str.ofString "__setitem__") hl.typeIs slot_list_setitem (wpAny_call_entry slot_list_setitem hl.typeIs entry_list_setitem ?_ (args_list_setitem _ _ _)))
  show wpAny _ _ (Builtin.List.listSubscript? (.int k t) >>= _) _ _ s
  refine wpAny_bind (wpAny_listSubscript_int (fitsIndex_of h0 hfit) ?_)
  obtain ⟨j, rfl⟩ := Int.eq_ofNat_of_zero_le h0
  have hj : j < items.size := by (first | lia | omega)
  have hx' : items[j]? = some items[j] := Array.getElem?_eq_getElem hj
  show wpAny _ _ ((seqItemAt l j >>= fun r => pure (r.map (j, ·))) >>= _) _ _ s
  refine wpAny_bind (wpAny_bind (wpAny_seqItemAt ho hd (wpAny_pure ?_)))
  rw [hx']
  show wpAny _ _ (setSeqItemAt l j v >>= _) _ _ s
  have hfin : ∃ e', (s.heap.update l (Obj.mapSeq (·.setIfInBounds j v))).get? l = some { cls := .type "list", dict := none, data := .seq (items.setIfInBounds j v) e', slots := #[] } :=
    ⟨_, by rw [Heap.get?_update_self _ ho rfl]; rfl⟩
  obtain ⟨e', hfin⟩ := hfin
  refine wpAny_bind (wpAny_setSeqItemAt ho hd ?_)
  first
    | exact wpAny_bind (wpAny_pure (wpAny_pure ⟨.none, rfl, wpAny_pure (hQ _ e' hfin (Heap.SameBut.update ..))⟩))
    | exact wpAny_pure ⟨.none, rfl, wpAny_pure (hQ _ e' hfin (Heap.SameBut.update ..))⟩

theorem op_setidx {o i v : Value} {mo mi mx : MV} {Q : MH → Prop} {QQ : Unit → Shared → Prop} (S : St W fs Ψ H s) (ho : VRel Ψ o mo) (hi : VRel Ψ i mi) (hx : VRel Ψ v mx) (h : SetIdxR H Q mo mi mx)
    (hq : ∀ Ψ' H' s', St W fs Ψ' H' s' → Keep none_ Ψ Ψ' → Q H' → QQ () s') : wpAny W.M A (setItem o i v) QQ E s := by
  cases h with
  | @lst a l k x hl h0 h1 q =>
    obtain rfl := vref ho
    obtain ⟨t, rfl⟩ := vint hi
    obtain ⟨items, e, h2, r, z, b⟩ := S.lst hl
    have kb : k < 2 ^ 63 := by unfold bigList at b; (first | lia | omega)
    refine setItem_exact h2 h0 kb (by rw [z]; exact h1) fun h' e' ho' hs' => ?_
    obtain ⟨S', K'⟩ := set_list (tk := s.toks) S hl (l' := l.set k.toNat mx) (items := items.setIfInBounds k.toNat v) (by rw [Array.toList_setIfInBounds]; exact r.set _ hx) (by rw [List.length_set]; exact b) hs' ho'
    exact hq _ _ _ S' K' q
  | @dct a es k x he hl q =>
    obtain rfl := vref ho
    obtain ⟨t, rfl⟩ := vint hi
    obtain ⟨kvs, hd, r, _⟩ := S.dct he
    refine wpAny_setItem_pairs (k := k) (knd := intKind W.prog W.w) intKey hd (fun h' hd' hs' => ?_) (by rw [r.length_eq]; unfold bigList at hl; unfold sizeLine; (first | lia | omega))
    obtain ⟨S', K'⟩ := set_dict (tk := s.toks + 1) S he (stored_rel hx r) hs' hd'
    exact hq _ _ _ S' K' q

theorem swaps_subs {value o i : PySem.Expr} {p : Pos} {l : Nat} {env : Env} : swapsWith value (some (.Subscript o i p)) l env = pure false := by cases value <;> rfl
theorem snd_setIdx {e i v : ME} {x y z : PySem.Expr} {p pos : Pos} (he : SndE W Δ n nm e x) (hi : SndE W Δ n nm i y) (hv : SndE W Δ n nm v z) : SndS W Δ n nm (.setIdx e i v) (.Assign [.Subscript x y p] z pos) := by
  intro hd A outer env ρ Ψ H s N R X C Rl S h
  refine wpAny_Assign_Subscript (wpAny_mono (monoE (hv C Rl S h) fun Ψ₁ H₁ mv w s₁ S₁ K₁ va h₁ => ?_) (fun _ _ x => x) fun _ _ x => x.toY Rl (.refl _ _)) swaps_subs
  refine wpAny_mono (monoE (he C (Rl.keep K₁) S₁ h₁) fun Ψ₂ H₂ mo o s₂ S₂ K₂ vo h₂ => ?_) (fun _ _ x => x) fun _ _ x => x.toY (Rl.keep K₁) K₁.of_none
  have K12 := K₁.trans K₂
  refine wpAny_mono (monoE (hi C (Rl.keep K12) S₂ h₂) fun Ψ₃ H₃ mi j s₃ S₃ K₃ vi h₃ => ?_) (fun _ _ x => x) fun _ _ x => x.toY (Rl.keep K12) K12.of_none
  refine op_setidx S₃ (vo.mono K₃.fix) vi (va.mono (K₂.trans K₃).fix) h₃ fun Ψ₄ H₄ s₄ S₄ K₄ h₄ => ?_
  have K14 := (K12.trans K₃).trans K₄
  exact ⟨Ψ₄, H₄, ρ, S₄, K14.of_none, Rl.keep K14, h₄⟩

/-! tuples as targets -/
noncomputable def okTargets (nm : Names) : List String → List PySem.Expr → Bool
  | [], es => es.isEmpty
  | x :: xs, es => match es with
    | [] => false
    | e :: es => isName e (fun i _ => isTarget nm x i) && okTargets nm xs es
theorem targets_len {xs : List String} : ∀ {es : List PySem.Expr}, okTargets nm xs es = true → es.length = xs.length ∧ ∀ env, (assignEach es env).length = xs.length ∧ (assignEach es env).findIdx? (·.1) = none := by
  induction xs with
  | nil => intro es h; cases es with
    | nil => exact ⟨rfl, fun _ => ⟨rfl, rfl⟩⟩
    | cons e es => exact nof h
  | cons x xs ih => intro es h; cases es with
    | nil => exact nof h
    | cons e es =>
      obtain ⟨k1, k2⟩ := ih (br h)
      refine isName_of (bl h) fun id p h1 => ⟨by rw [List.length_cons, k1]; rfl, fun env => ⟨?_, ?_⟩⟩
      · show (assignEach es env).length + 1 = _
        rw [(k2 env).1]; rfl
      · show List.findIdx? _ ((false, assign (.Name id p) env) :: assignEach es env) = none
        rw [List.findIdx?_cons, (k2 env).2]; rfl
theorem bind_len {xs : List String} {vs : List MV} {ρ ρ' : Sto} (h : BindR xs vs ρ ρ') : xs.length = vs.length := by
  induction h with
  | nil => rfl
  | cons _ ih => exact congrArg Nat.succ ih
theorem assign_all {xs : List String} {vs : List MV} {ρ ρ' : Sto} (hn : env.scope.names = nm) (hb : BindR xs vs ρ ρ') : ∀ {es : List PySem.Expr} {items : List Value} {Ψ : Psi} {s : Shared} {QQ : Unit → Shared → Prop}, okTargets nm xs es = true → All2 (VRel Ψ) items vs → EnvRel Ψ env ρ → St W fs Ψ H s →
    (∀ Ψ' s', St W fs Ψ' H s' → Keep (ownOf env) Ψ Ψ' → EnvRel Ψ' env ρ' → QQ () s') → wpAny W.M A (assignInOrder ((assignEach es env).map (·.2)) items) QQ E s := by
  induction hb with
  | nil =>
    intro es items Ψ s QQ ho r R S h
    cases es with
    | cons e es => exact nof ho
    | nil => cases r; exact wpAny_pure (h Ψ s S (.refl _ _) R)
  | @cons x xs v vs ρ ρ' _ ih =>
    intro es items Ψ s QQ ho r R S h
    cases es with
    | nil => exact nof ho
    | cons e es =>
      refine isName_of (bl ho) fun id p h1 => ?_
      cases r with
      | @cons v' u vs' us hu r =>
        refine wpAny_bind (wpAny_holding (wpAny_assign_Name (storeVar hn R S h1 hu fun Ψ' s' S' K' R' => ?_)))
        exact ih (br ho) (r.mono fun _ _ => VRel.mono K'.fix) R' S' fun Ψ'' s'' S'' K'' R'' => h Ψ'' s'' S'' ((K'.weaken fun a ha => slot_own ha).trans K'') R''

noncomputable def plainIts : List String := ["list_iterator", "tuple_iterator", "range_iterator", "str_ascii_iterator", "str_iterator"]
theorem plain_its : (plainIts.all fun c => !(["enumerate", "zip", "dict_itemiterator", "dict_reverseitemiterator", "odict_iterator", "itertools.zip_longest", "itertools.pairwise"].contains c)) = true := by decide
theorem plainIt_mem {c : String} (h : plainIt c = true) : c ∈ plainIts := by
  unfold plainIt at h
  rcases Bool.or_eq_true_iff.mp h with h | h
  · rcases Bool.or_eq_true_iff.mp h with h | h
    · rcases Bool.or_eq_true_iff.mp h with h | h
      · rcases Bool.or_eq_true_iff.mp h with h | h
        · rw [eq_of_beq h]; exact .head _
        · rw [eq_of_beq h]; exact .tail _ (.head _)
      · rw [eq_of_beq h]; exact .tail _ (.tail _ (.head _))
    · rw [eq_of_beq h]; exact .tail _ (.tail _ (.tail _ (.head _)))
  · rw [eq_of_beq h]; exact .tail _ (.tail _ (.tail _ (.tail _ (.head _))))
theorem tgt_tuple {xs : List String} {es : List PySem.Expr} {k : Nat} {p : Pos} (ht : okTargets nm xs es = true) : SndTgt W nm (fun v ρ ρ' => ∃ vs, v = .tup vs ∧ BindR xs vs ρ ρ') (.Tuple es k p) := by
  intro A fs env ρ ρ' Ψ H s v mv it E QQ hh hn R S hv hf hit h
  obtain ⟨ia, o, c, dv, rfl, ho, hc, hd, hp⟩ := hit
  obtain ⟨vs, rfl, hf⟩ := hf
  obtain ⟨a, rfl, ha⟩ := vtup hv
  obtain ⟨items, htup, r, z, _⟩ := tup_at S ha
  unfold letOwnedTupleGo
  refine wpAny_bind (wpAny_load ho ?_)
  rw [hc, hd]
  dsimp only
  rw [not_of (List.all_eq_true.mp plain_its c (plainIt_mem hp)), Bool.false_and, if_neg (by decide)]
  refine wpAny_pure ?_
  obtain ⟨l1, l2⟩ := targets_len ht
  refine PyProof.Rows.assign_Tuple_tuple hh htup (by rw [(l2 env).1, bind_len hf, z]) (l2 env).2 fun h' hx => ?_
  exact assign_all hn hf ht r R (S.of_extBut S.none_at S.base_at hx rfl rfl) h
/-- a tuple is taken apart -/
theorem snd_unpack {xs : List String} {e : ME} {es : List PySem.Expr} {k : Nat} {p pos : Pos} {v : Str} {vp : Pos} (ht : okTargets nm xs es = true) (he : SndE W Δ n nm e (.Name v vp)) : SndS W Δ n nm (.unpack xs e) (.Assign [.Tuple es k p] (.Name v vp) pos) := by
  intro hd A outer env ρ Ψ H s N R X C Rl S h
  obtain ⟨rfl, h⟩ := h
  refine PyProof.Rows.Assign_Tuple (wpAny_mono (monoE (he C Rl S h) fun Ψ₁ H₁ mv v s₁ S₁ K₁ va h₁ => ?_) (fun _ _ x => x) fun _ _ x => x.toY Rl (.refl _ _))
  obtain ⟨vs, ρ', rfl, hf, h₁⟩ := h₁
  obtain ⟨a, rfl, ha⟩ := vtup va
  obtain ⟨items, htup, r, z, _⟩ := tup_at S₁ ha
  obtain ⟨l1, l2⟩ := targets_len ht
  refine PyProof.Rows.assign_Tuple_tuple (C.hand rfl) htup (by rw [(l2 env).1, bind_len hf, z]) (l2 env).2 fun h' hx => ?_
  refine assign_all C.names hf ht r (Rl.keep K₁) (S₁.of_extBut S₁.none_at S₁.base_at hx rfl rfl) fun Ψ₂ s₂ S₂ K₂ R₂ => ?_
  exact ⟨Ψ₂, H₁, ρ', S₂, K₁.of_none.trans K₂, R₂, h₁⟩
theorem snd_forT {xs : List String} {it : ME} {b : MSs} {es : List PySem.Expr} {k : Nat} {p : Pos} {t : PySem.Expr} {ys : List Stmt} {pos : Pos} (ht : okTargets nm xs es = true) (hset : notSet t = true) (hit : SndE W Δ n nm it t) (hb : SndSs W Δ n nm b ys) : SndS W Δ n nm (.forT xs it b) (.For (.Tuple es k p) t ys [] pos) := by
  intro hd A outer env ρ Ψ H s N R X C Rl S h
  obtain ⟨rfl, h⟩ := h
  exact for_core (f := fun v ρ ρ' => ∃ vs, v = .tup vs ∧ BindR xs vs ρ ρ') hset (tgt_tuple ht) hit hb (fun v ρ H k ⟨vs, ρ', a, b, c⟩ => ⟨ρ', ⟨vs, a, b⟩, c⟩) C Rl S h
end
end Mine
end
section
set_option autoImplicit false
set_option linter.unusedVariables false
namespace Mine
open PySem

section
variable {W : Amb} {K : PySem.W.Frag} {Δ : CallT} {n : Nat} {nm : Names} {fs : List Env} {Ψ Ψ₀ Ψ' : Psi} {H : MH} {s s' : Shared} {A : Around} {E : Value → Shared → Prop} {env : Env} {outer : List Env}

theorem del_of {ρ : Sto} {x y : String} {v : MV} (h : ρ.del x y = some v) : y ≠ x ∧ ρ y = some v := by
  unfold Sto.del at h
  by_cases q : y = x
  · rw [if_pos q] at h; cases h
  · exact ⟨q, (if_neg q).symm.trans h⟩
/-- a name is let go -/
theorem delVar {ρ : Sto} {x : String} {mv : MV} {QQ : Unit → Shared → Prop} (hk : env.kindOf (Str.ofString x) = some .local) (hx0 : x ≠ ".0") (R : EnvRel Ψ env ρ) (S : St W fs Ψ H s) (hv : ρ x = some mv)
    (h : ∀ Ψ' s', St W fs Ψ' H s' → Keep (ownOf env) Ψ Ψ' → EnvRel Ψ' env (ρ.del x) → QQ () s') : wpAny W.M A (unbindName env (Str.ofString x)) QQ E s := by
  obtain ⟨m, hL, hm⟩ := R.loc
  obtain ⟨o, ho, ents, k, hd, hs, hf⟩ := S.typed _ _ hL
  obtain ⟨w, hw, _⟩ := hf x mv (hm x mv hx0 hk hv)
  refine wpAny_unbindName_local hk (m := nsFind ents) ⟨o, ents, k, ho, hd, hs, fun _ => rfl⟩ hw (by rw [R.kind]; rfl) fun h' u hn hsb => ?_
  obtain ⟨o', ents', k', ho', hd', hs', hf'⟩ := hn
  have F : Fix Ψ (Ψ.set env.locals (.ns (m.del x))) := .set_turn _ hL rfl
  refine h (Ψ.set env.locals (.ns (m.del x))) _ (S.turned (s' := { s with heap := h' }) (k := .ns (m.del x)) hL rfl (fun m' q => ⟨_, rfl⟩) ⟨ents', k', hd', hs', fun y z hy => ?_⟩ hsb ho' (heap_slot S hL rfl) rfl rfl)
    (Keep.set_own hL rfl (.inl rfl) (fun _ _ => ⟨_, rfl⟩) (fun _ q => by cases q)) ?_
  · obtain ⟨q, hy⟩ := del_of hy
    exact (hf y z hy).imp fun w' e => ⟨(hf' _).trans ((if_neg fun z => q (ofString_inj z)).trans e.1), e.2.mono F⟩
  · exact ⟨R.kind, R.glob, R.blt, ⟨m.del x, Psi.set_self _ _ _, fun y w h0 hy hw => (if_neg (del_of hw).1).trans (hm y w h0 hy (del_of hw).2)⟩, fun y w hy hw => (R.val y w hy (del_of hw).2).imp fun c e => ⟨e.1, Psi.set_sort hL e.2 ne12⟩, fun n' hn' => (R.cel n' hn').imp fun c e => e.imp fun w e => ⟨e.1, Psi.set_sort hL e.2 ne12⟩, R.apart⟩

/-- a caught exception joins the ledger -/
theorem St.adopt {e : Addr} {c : String} {oe : Obj} {vs : Array Value} (S : St W fs Ψ H s) (hn : Ψ e = none) (h0 : W.h₀.get? e = none) (hc : excNames.contains c = true) (he : s.heap.get? e = some oe) (hcl : oe.cls = .ref (W.ca c)) (hd : oe.data = .fields vs) :
    St W fs (Ψ.set e (.exc c)) H s ∧ Keep none_ Ψ (Ψ.set e (.exc c)) := by
  refine ⟨⟨fun a k q => ?_, fun a k q hx => ?_, fun a x q => (S.heap a x q).keepN fun _ _ => Psi.set_up hn, S.base, fun e' he' => ?_, S.gens, S.os, fun a es q => ?_⟩, .set_new _ hn⟩
  · rcases Psi.set_inv q with ⟨rfl, rfl⟩ | ⟨_, q⟩
    · exact ⟨oe, he, hc, hcl, vs, hd⟩
    · exact (S.typed a k q).imp fun o z => ⟨z.1, z.2.mono (.set_new _ hn)⟩
  · rcases Psi.set_inv q with ⟨rfl, rfl⟩ | ⟨_, q⟩
    · exact h0
    · exact S.fresh a k q hx
  · obtain ⟨a, L, m, b, d⟩ := S.frames e' he'; exact ⟨a, L, m, b, Psi.set_up hn d⟩
  · rcases Psi.set_inv q with ⟨_, z⟩ | ⟨_, q⟩
    · exact HK.noConfusion z
    · exact S.dsys a es q

noncomputable def tryOk (ca : String → Addr) (K : PySem.W.Frag) : Bool := (PySem.W.nsIn K mainGlobals (Str.ofString "SeatError") == some (some (.ref (ca "SeatError")))) && (PySem.W.instIn K (.ref (ca "SeatError")) (.type "tuple") == some false) && (PySem.W.clsIn K (ca "SeatError")).isSome &&
  (PySem.W.mroIn K (ca "SeatError") (.type "BaseException") == some true) && excNames.all fun c => PySem.W.mroIn K (ca c) (.ref (ca "SeatError")) == some true
open PySem.W in
theorem exc_matches {e : Addr} {c : String} {Q : Bool → Shared → Prop} (hok : tryOk W.ca K = true) (hc : excNames.contains c = true) (Y : K.In s.heap) (I : ExcLike s.heap e (W.ca c)) (h : Q true s) : wpAny W.M A (excMatches (.ref e) (.ref (W.ca "SeatError"))) Q E s := by
  obtain ⟨hok, h4⟩ := and_of hok
  obtain ⟨hok, h3⟩ := and_of hok
  obtain ⟨hok, h2⟩ := and_of hok
  obtain ⟨_, h1⟩ := and_of hok
  have L1 := looks_instIn (M := W.M) Y (eq_of_beq h1)
  have L2 := looks_cls (M := W.M) Y h2
  have L3 := looks_mroIn (M := W.M) Y (eq_of_beq h3)
  have L4 := looks_mroIn (M := W.M) Y (eq_of_beq (List.all_eq_true.mp h4 c (List.contains_iff_mem.mp hc)))
  have L5 := I.type (M := W.M)
  unfold excMatches
  refine wpAny_bind (L1.here ?_)
  simp only [Bool.false_eq_true, if_false]
  refine wpAny_bind (wpAny_pure ?_)
  simp only [List.forIn_cons, List.forIn_nil]
  unfold isExcClass
  refine wpAny_bind (wpAny_bind (wpAny_bind (wpAny_bind (L2.here ?_))))
  simp only [if_true]
  refine L3.here ?_
  simp only [Bool.not_true, Bool.false_eq_true, if_false]
  refine wpAny_pure (wpAny_pure (wpAny_bind (L5.here ?_)))
  refine wpAny_bind (wpAny_bind (wpAny_bind (L4.here ?_)))
  simp only [if_true]
  exact wpAny_pure (wpAny_pure (wpAny_pure h))
end
end Mine
end
section
set_option autoImplicit false
set_option linter.unusedVariables false
namespace Mine
open PySem

section
variable {W : Amb} {K : PySem.W.Frag} {Δ : CallT} {n : Nat} {nm : Names} {fs : List Env} {Ψ Ψ₀ Ψ' : Psi} {H : MH} {s s' : Shared} {A : Around} {E : Value → Shared → Prop} {env : Env} {outer : List Env}

noncomputable def isLocal (nm : Names) (x : String) (id : Str) : Bool := strEq id (Str.ofString x) && (nm.lookup id == some .local) && !(x == ".0")
theorem local_target {x : String} {id : Str} (h : isLocal nm x id = true) : isTarget nm x id = true := by
  obtain ⟨h1, h2⟩ := and_of (and_of h).1
  unfold isTarget
  rw [h1, eq_of_beq h2]; rfl

theorem snd_try {b h : MSs} {x : String} {body suite : List Stmt} {st : Stmt} {idE id : Str} {np hpos pos : Pos} (F : Facts W K) (hE : isGlob nm "SeatError" idE = true) (hok : tryOk W.ca K = true) (hx : isLocal nm x id = true)
    (hb : SndSs W Δ n nm b body) (hh : SndSs W Δ n nm h (st :: suite)) : SndS W Δ n nm (.try_ b x h) (.Try body [.ExceptHandler (some (.Name idE np)) (some id) (st :: suite) hpos] [] [] pos) := by
  intro hd A outer env ρ Ψ H s N R X C Rl S z
  obtain ⟨rfl, z⟩ := z
  have hT := local_target hx
  obtain ⟨hx, hx3⟩ := and_of hx
  obtain ⟨hx1, hx2⟩ := and_of hx
  obtain rfl := strEq_eq hx1
  have hloc : env.kindOf (Str.ofString x) = some .local := by unfold Env.kindOf; rw [C.names]; exact eq_of_beq hx2
  have hx0 : x ≠ ".0" := beq_eq_false_iff_ne.mp (not_of hx3)
  refine wpAny_Try_except (wpAny_mono (hb C Rl S z) (fun f s₁ h₁ => ?_) fun e s₁ h₁ => ?_)
  · cases f with
    | next => exact wpAny_execs_nil h₁
    | ret v => exact h₁
    | _ => exact h₁.elim
  · obtain ⟨ea, c, Ψ₁, H₁, ρ₁, rfl, Fl, S₁, K₁, R₁, h₁⟩ := h₁
    refine noted C.frames Fl S₁ fun s₂ Hd S₂ => landed Hd S₂ fun s₃ _ Tr S₃ => ?_
    obtain ⟨B, a0, hB0, hBs, hBe, hBk, hBf, hTr⟩ := Tr
    have hcn := Hd.1
    have hee : ∀ {h : Heap}, h.TracedAtW B ea (.ref (W.ca c)) a0 .none → ∃ oe vs, h.get? ea = some oe ∧ oe.cls = .ref (W.ca c) ∧ oe.data = .fields vs := fun hh => by
      obtain ⟨oe, vs, T, oT, ts, he, ⟨hcls, _⟩, hd, _⟩ := hh
      exact ⟨oe, vs, he, hcls, hd⟩
    have Cm : Cx n true (A.mark (some (.ref ea))) (env :: outer) env nm := ⟨C.frames, C.top, C.names, fun q => (by cases q), C.depth, C.units⟩
    refine wpAny_handleBy_cons (codeAny_handlers_test (loadGlob F Cm R₁ S₃ hE (eq_of_beq (and_of (and_of (and_of (and_of hok).1).1).1).1) ?_)) (by intro q; cases q)
    obtain ⟨oe, vs, he1, he2, he3⟩ := hee hTr
    refine exc_matches hok hcn (F.at S₃) ⟨oe, he1, he2⟩ ?_
    refine codeAny_handlers_suite_as ?_
    refine PyProof.Rows.lands_againW (l := env :: outer) (base := B) ⟨hBs, hBe, hBf, hTr⟩ fun h₄ hfl₄ hu₄ => ?_
    obtain ⟨k1, k2, k3, k4⟩ := hfl₄
    have S₄ : St W (env :: outer) Ψ₁ H₁ { s₃ with heap := h₄ } := S₃.flown hBk hB0 hBs k1 hu₄ rfl rfl
    obtain ⟨oe, vs, he1, he2, he3⟩ := hee k4
    have hn : Ψ₁ ea = none := by
      cases q : Ψ₁ ea with
      | none => rfl
      | some k =>
        exfalso
        by_cases hk : ∃ m, k = .ns m
        · obtain ⟨m, rfl⟩ := hk
          obtain ⟨o, ho, ents, kk, hd, _⟩ := S₄.typed _ _ q
          have ho' : h₄.get? ea = some o := ho
          rw [he1] at ho'; cases ho'; rw [he3] at hd; cases hd
        · obtain ⟨o, ho⟩ := hBk ea k q fun m z => hk ⟨m, z⟩
          rw [hBe] at ho; cases ho
    have h0 : W.h₀.get? ea = none := by
      cases q : W.h₀.get? ea with
      | none => rfl
      | some o => have := hB0 _ _ q; rw [hBe] at this; cases this
    obtain ⟨S₅, K₅⟩ := S₄.adopt hn h0 hcn he1 he2 he3
    refine storeVar C.names (R₁.keep K₅) S₅ hT (.exc (Psi.set_self _ _ _)) fun Ψ₆ s₆ S₆ K₆ R₆ => ?_
    have K16 : Keep (ownOf env) Ψ Ψ₆ := (K₁.trans K₅.of_none).trans (K₆.weaken fun a ha => slot_own ha)
    -- the end of the clause: the name goes
    have fin : ∀ {Ψ₇ : Psi} {H₇ : MH} {ρ₇ : Sto} {s₇ : Shared} {QQ : Unit → Shared → Prop} {E' : Value → Shared → Prop}, St W (env :: outer) Ψ₇ H₇ s₇ → EnvRel Ψ₇ env ρ₇ →
        (∀ Ψ₈ s₈, St W (env :: outer) Ψ₈ H₇ s₈ → Keep (ownOf env) Ψ₇ Ψ₈ → EnvRel Ψ₈ env (ρ₇.del x) → QQ () s₈) → wpAny W.M A (do bindName env (Str.ofString x) .none; unbindBehindTheSuite env (Str.ofString x) hpos) QQ E' s₇ := by
      intro Ψ₇ H₇ ρ₇ s₇ QQ E' S₇ R₇ hq
      refine wpAny_bind (wpAny_bindName (storeVar C.names R₇ S₇ hT VRel.none fun Ψ₈ s₈ S₈ K₈ R₈ => ?_))
      unfold unbindBehindTheSuite
      refine wpAny_onRaise (delVar hloc hx0 R₈ S₈ (mv := .none) (if_pos rfl) fun Ψ₉ s₉ S₉ K₉ R₉ => ?_)
      have e : (ρ₇.set x .none).del x = ρ₇.del x := by
        funext y; unfold Sto.del Sto.set
        by_cases q : y = x <;> simp [q]
      rw [e] at R₉
      exact hq Ψ₉ s₉ S₉ ((K₈.weaken fun a ha => slot_own ha).trans K₉) R₉
    refine wpAny_mono (hh Cm R₆ S₆ h₁) (fun f s₇ h₇ => ?_) fun e s₇ h₇ => ?_
    · cases f with
      | next =>
        obtain ⟨Ψ₇, H₇, ρ₇, S₇, K₇, R₇, h₇⟩ := h₇
        exact fin S₇ R₇ fun Ψ₈ s₈ S₈ K₈ R₈ => ⟨Ψ₈, H₇, _, S₈, (K16.trans K₇).trans K₈, R₈, h₇⟩
      | ret v =>
        obtain ⟨Ψ₇, H₇, mv, S₇, K₇, ⟨ρ₇, R₇⟩, v₇, h₇⟩ := h₇
        exact fin S₇ R₇ fun Ψ₈ s₈ S₈ K₈ R₈ => ⟨Ψ₈, H₇, mv, S₈, (K16.trans K₇).trans K₈, ⟨_, R₈⟩, v₇.mono K₈.fix, h₇⟩
      | _ => exact h₇.elim
    · obtain ⟨_, _, _, _, _, _, _, _, _, _, q⟩ := h₇
      exact q.elim
end
end Mine
end
section
set_option autoImplicit false
set_option linter.unusedVariables false
namespace Mine
open PySem

/-- what a text's names stand for -/
structure Tab where
  fns : List (String × Addr)
  meths : List (String × Addr)
  init : Addr
  bis : List String
  consts : List (String × MV)
  attrs : List String
  sets : List String
  isis : List String
  raises : List String
  tries : Bool
  mks : Bool

noncomputable def inS (x : String) : List String → Bool
  | [] => false
  | y :: r => x == y || inS x r
noncomputable def lookS {α : Type} (x : String) : List (String × α) → Option α
  | [] => none
  | (y, a) :: r => if x == y then some a else lookS x r
noncomputable def mvIs (a : MV) (b : MV) : Bool := match a with
  | .int i => (match b with | .int j => decide (i = j) | _ => false)
  | .str s => (match b with | .str t => strEq s t | _ => false)
  | _ => false
theorem mvIs_eq {a b : MV} (h : mvIs a b = true) : a = b := by
  cases a <;> first | exact nof h | skip
  all_goals cases b <;> first | exact nof h | skip
  · rw [of_decide_eq_true h]
  · rw [strEq_eq h]
noncomputable def opIs (a : BOp) (b : Operator) : Bool := decide (b = opOf a)
noncomputable def copIs (a : COp) (b : CmpOp) : Bool := decide (b = copOf a)
noncomputable def plainTest (x : PySem.Expr) : Bool := Nat.beq x.ctorIdx 23 || Nat.beq x.ctorIdx 16 || Nat.beq x.ctorIdx 19 || Nat.beq x.ctorIdx 20 || Nat.beq x.ctorIdx 21
theorem plainTest_is {x : PySem.Expr} (h : plainTest x = true) : ∀ env whole, isTrue x env whole = (do let v ← whole; standAt x.pos; holding [v] (truthy v)) := by
  intro env whole
  cases x <;> first | rfl | exact nof h
/-! what an expression is, as data -/
noncomputable def isBool (x : PySem.Expr) (f : BoolOp → List PySem.Expr → Pos → Bool) : Bool := if h : x.ctorIdx = 0 then PySem.Expr.BoolOp.elim (motive_1 := fun _ => Bool) x h f else false
@[elab_as_elim] theorem isBool_of {P : PySem.Expr → Prop} {x : PySem.Expr} {f : BoolOp → List PySem.Expr → Pos → Bool} (h : isBool x f = true) (k : ∀ a0 a1 a2, f a0 a1 a2 = true → P (.BoolOp a0 a1 a2)) : P x := PySem.Expr.BoolOp.elim (motive_1 := fun x => isBool x f = true → P x) x (dno h) k h
noncomputable def isBin (x : PySem.Expr) (f : PySem.Expr → Operator → PySem.Expr → Pos → Bool) : Bool := if h : x.ctorIdx = 2 then PySem.Expr.BinOp.elim (motive_1 := fun _ => Bool) x h f else false
@[elab_as_elim] theorem isBin_of {P : PySem.Expr → Prop} {x : PySem.Expr} {f : PySem.Expr → Operator → PySem.Expr → Pos → Bool} (h : isBin x f = true) (k : ∀ a0 a1 a2 a3, f a0 a1 a2 a3 = true → P (.BinOp a0 a1 a2 a3)) : P x := PySem.Expr.BinOp.elim (motive_1 := fun x => isBin x f = true → P x) x (dno h) k h
noncomputable def isUn (x : PySem.Expr) (f : UnaryOp → PySem.Expr → Pos → Bool) : Bool := if h : x.ctorIdx = 3 then PySem.Expr.UnaryOp.elim (motive_1 := fun _ => Bool) x h f else false
@[elab_as_elim] theorem isUn_of {P : PySem.Expr → Prop} {x : PySem.Expr} {f : UnaryOp → PySem.Expr → Pos → Bool} (h : isUn x f = true) (k : ∀ a0 a1 a2, f a0 a1 a2 = true → P (.UnaryOp a0 a1 a2)) : P x := PySem.Expr.UnaryOp.elim (motive_1 := fun x => isUn x f = true → P x) x (dno h) k h
noncomputable def isDict (x : PySem.Expr) (f : List (Option PySem.Expr) → List PySem.Expr → Pos → Bool) : Bool := if h : x.ctorIdx = 6 then PySem.Expr.Dict.elim (motive_1 := fun _ => Bool) x h f else false
@[elab_as_elim] theorem isDict_of {P : PySem.Expr → Prop} {x : PySem.Expr} {f : List (Option PySem.Expr) → List PySem.Expr → Pos → Bool} (h : isDict x f = true) (k : ∀ a0 a1 a2, f a0 a1 a2 = true → P (.Dict a0 a1 a2)) : P x := PySem.Expr.Dict.elim (motive_1 := fun x => isDict x f = true → P x) x (dno h) k h
noncomputable def isLC (x : PySem.Expr) (f : PySem.Expr → List Comprehension → Scope → Pos → Bool) : Bool := if h : x.ctorIdx = 8 then PySem.Expr.ListComp.elim (motive_1 := fun _ => Bool) x h f else false
@[elab_as_elim] theorem isLC_of {P : PySem.Expr → Prop} {x : PySem.Expr} {f : PySem.Expr → List Comprehension → Scope → Pos → Bool} (h : isLC x f = true) (k : ∀ a0 a1 a2 a3, f a0 a1 a2 a3 = true → P (.ListComp a0 a1 a2 a3)) : P x := PySem.Expr.ListComp.elim (motive_1 := fun x => isLC x f = true → P x) x (dno h) k h
noncomputable def isCmp (x : PySem.Expr) (f : PySem.Expr → List CmpOp → List PySem.Expr → Pos → Bool) : Bool := if h : x.ctorIdx = 15 then PySem.Expr.Compare.elim (motive_1 := fun _ => Bool) x h f else false
@[elab_as_elim] theorem isCmp_of {P : PySem.Expr → Prop} {x : PySem.Expr} {f : PySem.Expr → List CmpOp → List PySem.Expr → Pos → Bool} (h : isCmp x f = true) (k : ∀ a0 a1 a2 a3, f a0 a1 a2 a3 = true → P (.Compare a0 a1 a2 a3)) : P x := PySem.Expr.Compare.elim (motive_1 := fun x => isCmp x f = true → P x) x (dno h) k h
noncomputable def isCall (x : PySem.Expr) (f : PySem.Expr → List PySem.Expr → List Keyword → Pos → Bool) : Bool := if h : x.ctorIdx = 16 then PySem.Expr.Call.elim (motive_1 := fun _ => Bool) x h f else false
@[elab_as_elim] theorem isCall_of {P : PySem.Expr → Prop} {x : PySem.Expr} {f : PySem.Expr → List PySem.Expr → List Keyword → Pos → Bool} (h : isCall x f = true) (k : ∀ a0 a1 a2 a3, f a0 a1 a2 a3 = true → P (.Call a0 a1 a2 a3)) : P x := PySem.Expr.Call.elim (motive_1 := fun x => isCall x f = true → P x) x (dno h) k h
noncomputable def isConst (x : PySem.Expr) (f : Const → Nat → Pos → Bool) : Bool := if h : x.ctorIdx = 19 then PySem.Expr.Constant.elim (motive_1 := fun _ => Bool) x h f else false
@[elab_as_elim] theorem isConst_of {P : PySem.Expr → Prop} {x : PySem.Expr} {f : Const → Nat → Pos → Bool} (h : isConst x f = true) (k : ∀ a0 a1 a2, f a0 a1 a2 = true → P (.Constant a0 a1 a2)) : P x := PySem.Expr.Constant.elim (motive_1 := fun x => isConst x f = true → P x) x (dno h) k h
noncomputable def isAttr (x : PySem.Expr) (f : PySem.Expr → Str → Pos → Bool) : Bool := if h : x.ctorIdx = 20 then PySem.Expr.Attribute.elim (motive_1 := fun _ => Bool) x h f else false
@[elab_as_elim] theorem isAttr_of {P : PySem.Expr → Prop} {x : PySem.Expr} {f : PySem.Expr → Str → Pos → Bool} (h : isAttr x f = true) (k : ∀ a0 a1 a2, f a0 a1 a2 = true → P (.Attribute a0 a1 a2)) : P x := PySem.Expr.Attribute.elim (motive_1 := fun x => isAttr x f = true → P x) x (dno h) k h
noncomputable def isSub (x : PySem.Expr) (f : PySem.Expr → PySem.Expr → Pos → Bool) : Bool := if h : x.ctorIdx = 21 then PySem.Expr.Subscript.elim (motive_1 := fun _ => Bool) x h f else false
@[elab_as_elim] theorem isSub_of {P : PySem.Expr → Prop} {x : PySem.Expr} {f : PySem.Expr → PySem.Expr → Pos → Bool} (h : isSub x f = true) (k : ∀ a0 a1 a2, f a0 a1 a2 = true → P (.Subscript a0 a1 a2)) : P x := PySem.Expr.Subscript.elim (motive_1 := fun x => isSub x f = true → P x) x (dno h) k h
noncomputable def isList (x : PySem.Expr) (f : List PySem.Expr → Pos → Bool) : Bool := if h : x.ctorIdx = 24 then PySem.Expr.List.elim (motive_1 := fun _ => Bool) x h f else false
@[elab_as_elim] theorem isList_of {P : PySem.Expr → Prop} {x : PySem.Expr} {f : List PySem.Expr → Pos → Bool} (h : isList x f = true) (k : ∀ a0 a1, f a0 a1 = true → P (.List a0 a1)) : P x := PySem.Expr.List.elim (motive_1 := fun x => isList x f = true → P x) x (dno h) k h
noncomputable def isTup (x : PySem.Expr) (f : List PySem.Expr → Nat → Pos → Bool) : Bool := if h : x.ctorIdx = 25 then PySem.Expr.Tuple.elim (motive_1 := fun _ => Bool) x h f else false
@[elab_as_elim] theorem isTup_of {P : PySem.Expr → Prop} {x : PySem.Expr} {f : List PySem.Expr → Nat → Pos → Bool} (h : isTup x f = true) (k : ∀ a0 a1 a2, f a0 a1 a2 = true → P (.Tuple a0 a1 a2)) : P x := PySem.Expr.Tuple.elim (motive_1 := fun x => isTup x f = true → P x) x (dno h) k h
noncomputable def isSlice (x : PySem.Expr) (f : Option PySem.Expr → Option PySem.Expr → Option PySem.Expr → Pos → Bool) : Bool := if h : x.ctorIdx = 26 then PySem.Expr.Slice.elim (motive_1 := fun _ => Bool) x h f else false
@[elab_as_elim] theorem isSlice_of {P : PySem.Expr → Prop} {x : PySem.Expr} {f : Option PySem.Expr → Option PySem.Expr → Option PySem.Expr → Pos → Bool} (h : isSlice x f = true) (k : ∀ a0 a1 a2 a3, f a0 a1 a2 a3 = true → P (.Slice a0 a1 a2 a3)) : P x := PySem.Expr.Slice.elim (motive_1 := fun x => isSlice x f = true → P x) x (dno h) k h
noncomputable def isCBool (x : PySem.Const) (f : Bool → Bool) : Bool := if h : x.ctorIdx = 1 then PySem.Const.bool.elim (motive := fun _ => Bool) x h f else false
@[elab_as_elim] theorem isCBool_of {P : PySem.Const → Prop} {x : PySem.Const} {f : Bool → Bool} (h : isCBool x f = true) (k : ∀ a0, f a0 = true → P (.bool a0)) : P x := PySem.Const.bool.elim (motive := fun x => isCBool x f = true → P x) x (dno h) k h
noncomputable def isCInt (x : PySem.Const) (f : Int → Bool) : Bool := if h : x.ctorIdx = 2 then PySem.Const.int.elim (motive := fun _ => Bool) x h f else false
@[elab_as_elim] theorem isCInt_of {P : PySem.Const → Prop} {x : PySem.Const} {f : Int → Bool} (h : isCInt x f = true) (k : ∀ a0, f a0 = true → P (.int a0)) : P x := PySem.Const.int.elim (motive := fun x => isCInt x f = true → P x) x (dno h) k h
noncomputable def isCStr (x : PySem.Const) (f : Str → Bool) : Bool := if h : x.ctorIdx = 5 then PySem.Const.str.elim (motive := fun _ => Bool) x h f else false
@[elab_as_elim] theorem isCStr_of {P : PySem.Const → Prop} {x : PySem.Const} {f : Str → Bool} (h : isCStr x f = true) (k : ∀ a0, f a0 = true → P (.str a0)) : P x := PySem.Const.str.elim (motive := fun x => isCStr x f = true → P x) x (dno h) k h
noncomputable def isNilL {α : Type} : List α → Bool
  | [] => true
  | _ => false
@[elab_as_elim] theorem nil_of {α : Type} {P : List α → Prop} {l : List α} (h : isNilL l = true) (k : P []) : P l := by
  cases l with
  | nil => exact k
  | cons _ _ => cases h
noncomputable def isOne {α : Type} (l : List α) (f : α → Bool) : Bool := match l with
  | [] => false
  | a :: r => f a && isNilL r
@[elab_as_elim] theorem isOne_of {α : Type} {P : List α → Prop} {l : List α} {f : α → Bool} (h : isOne l f = true) (k : ∀ a, f a = true → P [a]) : P l := by
  cases l with
  | nil => cases h
  | cons a r => exact nil_of (br h) (k a (bl h))
noncomputable def isTwo {α : Type} (l : List α) (f : α → α → Bool) : Bool := match l with
  | [] => false
  | a :: r => isOne r (f a)
@[elab_as_elim] theorem isTwo_of {α : Type} {P : List α → Prop} {l : List α} {f : α → α → Bool} (h : isTwo l f = true) (k : ∀ a b, f a b = true → P [a, b]) : P l := by
  cases l with
  | nil => cases h
  | cons a r => exact isOne_of (show isOne r (f a) = true from h) (k a)
noncomputable def isNoneM (e : ME) : Bool := Nat.beq e.ctorIdx 0
theorem isNoneM_eq {e : ME} (h : isNoneM e = true) : e = .none := ME.none.elim (motive_1 := fun e => e = .none) e (Nat.eq_of_beq_eq_true h) rfl
noncomputable def isTrueM (e : ME) : Bool := if h : e.ctorIdx = 1 then ME.bool.elim (motive_1 := fun _ => Bool) e h fun b => b else false
theorem isTrueM_eq {e : ME} (h : isTrueM e = true) : e = .bool true := ME.bool.elim (motive_1 := fun e => isTrueM e = true → e = .bool true) e (dno h) (fun b h => congrArg ME.bool (show b = true from h)) h

section
variable (T : Tab)
mutual
noncomputable def okE : Nat → Names → ME → PySem.Expr → Bool
  | 0, _, _, _ => false
  | k + 1, _, .none, x => isConst x fun c _ _ => Nat.beq c.ctorIdx 0
  | k + 1, _, .bool b, x => isConst x fun c _ _ => isCBool c fun d => b == d
  | k + 1, _, .int i, x => isConst x fun c _ _ => isCInt c fun j => decide (i = j)
  | k + 1, _, .str s, x => isConst x fun c _ _ => isCStr c fun t => strEq t (Str.ofString s)
  | k + 1, nm, .var y, x => isName x fun i _ => isVar nm y i
  | k + 1, nm, .gconst g u, x => isName x fun i _ => isGlob nm g i && (lookS g T.consts).any (mvIs u)
  | k + 1, nm, .bin op l r, x => isBin x fun a o b _ => opIs op o && okE k nm l a && okE k nm r b
  | k + 1, nm, .neg e, x => isUn x fun o y _ => decide (o = .USub) && okE k nm e y
  | k + 1, nm, .not e, x => isUn x fun o y _ => decide (o = .Not) && okE k nm e y
  | k + 1, nm, .and es, x => isBool x fun o y _ => decide (o = .And) && okAnd k nm es y
  | k + 1, nm, .or es, x => isBool x fun o y _ => decide (o = .Or) && okAnd k nm es y
  | k + 1, nm, .cmp l c, x => isCmp x fun y o z _ => okE k nm l y && okC k nm c o z
  | k + 1, nm, .attr e f, x => isAttr x fun y i _ => strEq i (Str.ofString f) && inS f T.attrs && notSuper y && okE k nm e y
  | k + 1, nm, .sub e i, x => isSub x fun y z _ => notSlice z && okE k nm e y && okE k nm i z
  | k + 1, nm, .slice e lo hi, x => isSub x fun y z _ => isSlice z fun l u s _ => isNilL s.toList && okE k nm e y && okO k nm lo l && okO k nm hi u
  | k + 1, nm, .list es, x => isList x fun v _ => decide (v.length ≤ 1000) && okL k nm es v
  | k + 1, nm, .tup es, x => isTup x fun v _ _ => decide (v.length ≤ 1000) && okL k nm es v
  | k + 1, _, .dict, x => isDict x fun v u _ => isNilL v && isNilL u
  | k + 1, nm, .comp elt y it cond, x => isLC x fun v gs sc _ => isOne gs fun g => isName g.target fun t _ =>
      strEq t (Str.ofString y) && compOk nm y sc && notSet g.iter && okE k nm it g.iter && okIfs k (relabN nm sc.names) cond g.ifs && okE k (relabN nm sc.names) elt v && decide (g.is_async = 0)
  | k + 1, nm, .call f es, x => isCall x fun g xs ks _ => isName g fun t _ => isGlob nm f t && (lookS f T.fns).isSome && allPlain xs && okL k nm es xs && isNilL ks
  | k + 1, nm, .meth e m es, x => isCall x fun g xs ks p => isAttr g fun y t q =>
      strEq t (Str.ofString m) && (lookS m T.meths).isSome && notSuper y && allPlain xs && decide (xs.length < 29) && (q.endLine == p.line) && okE k nm e y && okL k nm es xs && isNilL ks
  | k + 1, nm, .mk es, x => isCall x fun g xs ks _ => isName g fun t _ => T.mks && isGlob nm "Train" t && allPlain xs && okL k nm es xs && isNilL ks
  | k + 1, nm, .bi b es, x => isCall x fun g xs ks _ => isName g fun t _ => inS b T.bis && isGlob nm b t && allPlain xs && okL k nm es xs && isNilL ks
  | k + 1, nm, .bm e m es, x => isCall x fun g xs ks p => isAttr g fun y t q =>
      strEq t (Str.ofString m) && notSuper y && allPlain xs && decide (xs.length < 29) && (q.endLine == p.line) && okE k nm e y && okL k nm es xs && isNilL ks
  | k + 1, nm, .isinst e t, x => isCall x fun g xs ks _ => isName g fun i _ => isTwo xs fun a b => isName b fun z _ => isGlob nm "isinstance" i && isGlob nm t z && inS t T.isis && notStarred a && okE k nm e a && isNilL ks
noncomputable def okL : Nat → Names → MEs → List PySem.Expr → Bool
  | 0, _, _, _ => false
  | k + 1, _, .nil, xs => isNilL xs
  | k + 1, nm, .cons e es, xs => match xs with
    | [] => false
    | x :: xs => notStarred x && okE k nm e x && okL k nm es xs
noncomputable def okAnd : Nat → Names → MEs → List PySem.Expr → Bool
  | 0, _, _, _ => false
  | k + 1, _, .nil, _ => false
  | k + 1, nm, .cons e es, xs => match xs with
    | [] => false
    | x :: xs => okE k nm e x && (match es with
      | .nil => isNilL xs
      | .cons _ _ => okAnd k nm es xs)
noncomputable def okC : Nat → Names → MCs → List CmpOp → List PySem.Expr → Bool
  | 0, _, _, _, _ => false
  | k + 1, _, .nil, _, _ => false
  | k + 1, nm, .cons op e c, ops, xs => match ops with
    | [] => false
    | o :: ops => match xs with
      | [] => false
      | x :: xs => copIs op o && okE k nm e x && (match c with
        | .nil => isNilL ops && isNilL xs && notSet x
        | .cons _ _ _ => okC k nm c ops xs)
noncomputable def okT : Nat → Names → ME → PySem.Expr → Bool
  | 0, _, _, _ => false
  | k + 1, nm, .not e, x => isUn x fun o y _ => decide (o = .Not) && okT k nm e y
  | k + 1, nm, .and es, x => isBool x fun o y _ => decide (o = .And) && okAllT k nm es y
  | k + 1, nm, .or es, x => isBool x fun o y _ => decide (o = .Or) && okAllT k nm es y
  | k + 1, nm, .cmp l c, x => isCmp x fun y o z _ => okE k nm l y && okC k nm c o z
  | k + 1, nm, e, x => plainTest x && okE k nm e x
noncomputable def okAllT : Nat → Names → MEs → List PySem.Expr → Bool
  | 0, _, _, _ => false
  | k + 1, _, .nil, _ => false
  | k + 1, nm, .cons e es, xs => match xs with
    | [] => false
    | x :: xs => okT k nm e x && (match es with
      | .nil => isNilL xs
      | .cons _ _ => okAllT k nm es xs)
noncomputable def okO : Nat → Names → ME → Option PySem.Expr → Bool
  | 0, _, _, _ => false
  | k + 1, nm, e, x => match x with
    | none => isNoneM e
    | some x => okE k nm e x
noncomputable def okIfs : Nat → Names → ME → List PySem.Expr → Bool
  | 0, _, _, _ => false
  | k + 1, nm, c, ifs => match ifs with
    | [] => isTrueM c
    | x :: xs => isNilL xs && okT k nm c x
end
end
end Mine
end
section
set_option autoImplicit false
set_option linter.unusedVariables false
namespace Mine
open PySem

noncomputable def tabOk (ca : String → Addr) (K : PySem.W.Frag) (T : Tab) : Bool :=
  (T.fns.all fun p => defOk K p.1 p.2) && (T.meths.all fun p => methOk ca K (Str.ofString p.1) p.2) && (!T.mks || mkOk ca K T.init) && (T.bis.all fun b => biOk K b) && (T.consts.all fun p => gcOk K p.1 p.2) &&
  (T.attrs.all fun f => attrOk ca K (Str.ofString f)) && (T.sets.all fun f => setOk ca K (Str.ofString f)) && (T.isis.all fun t => isiOk ca K t) && (T.raises.all fun c => raiseOk ca K c) && (!T.tries || tryOk ca K)
structure TabOk (W : Amb) (K : PySem.W.Frag) (T : Tab) : Prop where
  fns : ∀ p ∈ T.fns, defOk K p.1 p.2 = true
  meths : ∀ p ∈ T.meths, methOk W.ca K (Str.ofString p.1) p.2 = true
  mks : T.mks = true → mkOk W.ca K T.init = true
  bis : ∀ b ∈ T.bis, biOk K b = true
  consts : ∀ p ∈ T.consts, gcOk K p.1 p.2 = true
  attrs : ∀ f ∈ T.attrs, attrOk W.ca K (Str.ofString f) = true
  sets : ∀ f ∈ T.sets, setOk W.ca K (Str.ofString f) = true
  isis : ∀ t ∈ T.isis, isiOk W.ca K t = true
  raises : ∀ c ∈ T.raises, raiseOk W.ca K c = true
  tries : T.tries = true → tryOk W.ca K = true
theorem tabOk_of {W : Amb} {K : PySem.W.Frag} {T : Tab} (h : tabOk W.ca K T = true) : TabOk W K T := by
  simp only [tabOk, Bool.and_eq_true, List.all_eq_true, Bool.or_eq_true, Bool.not_eq_true'] at h
  obtain ⟨⟨⟨⟨⟨⟨⟨⟨⟨h1, h2⟩, h3⟩, h4⟩, h5⟩, h6⟩, h7⟩, h8⟩, h9⟩, h10⟩ := h
  exact ⟨h1, h2, fun q => h3.elim (fun z => by rw [q] at z; cases z) id, h4, h5, h6, h7, h8, h9, fun q => h10.elim (fun z => by rw [q] at z; cases z) id⟩
theorem inS_mem {x : String} : ∀ {l : List String}, inS x l = true → x ∈ l
  | y :: r, h => by
    simp only [inS, Bool.or_eq_true, beq_iff_eq] at h
    rcases h with h | h
    · simp [h]
    · simp [inS_mem h]
theorem lookS_mem {α : Type} {x : String} : ∀ {l : List (String × α)} {a : α}, lookS x l = some a → (x, a) ∈ l
  | (y, b) :: r, a, h => by
    unfold lookS at h
    split at h
    · rename_i q; cases h; rw [beq_iff_eq.mp q]; simp
    · simp [lookS_mem h]

noncomputable def addrOf (T : Tab) (f : String) (a : Addr) : Prop := lookS f T.fns = some a ∨ lookS f T.meths = some a ∨ (f = "__init__" ∧ T.mks = true ∧ a = T.init)

section
variable {W : Amb} {K : PySem.W.Frag} {T : Tab} {Δ : CallT} {n : Nat}

theorem SndF.up {c : Bool → List MV → MH → (MV → MH → Prop) → (String → MH → Prop) → Prop} {f : Value} (x : SndF W n c f) : SndF W (n + 1) c f := x.le (Nat.le_succ n)

variable (F : Facts W K) (TT : TabOk W K T) (HΔ : ∀ f a, addrOf T f a → SndF W n (fun hd => Δ hd f) (.ref a))
include F TT HΔ

set_option maxHeartbeats 800000 in
theorem okAll (k : Nat) :
    (∀ nm e x, okE T k nm e x = true → SndE W Δ (n + 1) nm e x) ∧ (∀ nm es xs, okL T k nm es xs = true → SndL W Δ (n + 1) nm es xs) ∧
    (∀ nm es xs, okAnd T k nm es xs = true → SndAnd (W := W) (Δ := Δ) (n := n + 1) nm es xs) ∧ (∀ nm c ops xs, okC T k nm c ops xs = true → SndC W Δ (n + 1) nm c ops xs) ∧
    (∀ nm e x, okT T k nm e x = true → SndT W Δ (n + 1) nm e x) ∧
    (∀ nm es xs, okAllT T k nm es xs = true → SndAllT (W := W) (Δ := Δ) (n := n + 1) nm es xs) ∧ (∀ nm c xs, okIfs T k nm c xs = true → SndIfs W Δ (n + 1) nm c xs) ∧ (∀ nm e x, okO T k nm e x = true → SndO W Δ (n + 1) nm e x) := by
  induction k with
  | zero => exact ⟨fun _ _ _ h => nof h, fun _ _ _ h => nof h, fun _ _ _ h => nof h, fun _ _ _ _ h => nof h, fun _ _ _ h => nof h, fun _ _ _ h => nof h, fun _ _ _ h => nof h, fun _ _ _ h => nof h⟩
  | succ k ih =>
    obtain ⟨iE, iL, iA, iC, iT, iAT, iI, iO⟩ := ih
    refine ⟨fun nm e x h => ?_, fun nm es xs h => ?_, fun nm es xs h => ?_, fun nm c ops xs h => ?_, fun nm e x h => ?_, fun nm es xs h => ?_, fun nm c xs h => ?_, fun nm e x h => ?_⟩
    · cases e with
      | none => exact isConst_of (show isConst x _ = true from h) fun c _ _ h => PySem.Const.none.elim (motive := fun c => ∀ i p, SndE W Δ (n + 1) nm .none (.Constant c i p)) c (Nat.eq_of_beq_eq_true h) (fun i p => snd_none) _ _
      | bool b => exact isConst_of (show isConst x _ = true from h) fun c _ _ h => isCBool_of h fun d h => beq_iff_eq.mp h ▸ snd_bool
      | int i => exact isConst_of (show isConst x _ = true from h) fun c _ _ h => isCInt_of h fun d h => of_decide_eq_true h ▸ snd_int
      | str s => exact isConst_of (show isConst x _ = true from h) fun c _ _ h => isCStr_of h fun d h => (strEq_eq h).symm ▸ snd_str
      | var y => exact isName_of (show isName x _ = true from h) fun i _ h => snd_var h
      | gconst g u => exact isName_of (show isName x _ = true from h) fun i _ h => (bany (br h)).elim fun u' z => mvIs_eq z.2 ▸ snd_gconst F (TT.consts _ (lookS_mem z.1)) (bl h)
      | bin op l r => exact isBin_of (show isBin x _ = true from h) fun a o b _ h => (of_decide_eq_true (bl (bl h))).symm ▸ snd_bin (iE _ _ _ (br (bl h))) (iE _ _ _ (br h))
      | neg e => exact isUn_of (show isUn x _ = true from h) fun o y _ h => (of_decide_eq_true (bl h)).symm ▸ snd_neg (iE _ _ _ (br h))
      | not e => exact isUn_of (show isUn x _ = true from h) fun o y _ h => (of_decide_eq_true (bl h)).symm ▸ snd_not (iE _ _ _ (br h))
      | and es => exact isBool_of (show isBool x _ = true from h) fun o y _ h => (of_decide_eq_true (bl h)).symm ▸ snd_bop (op := .And) (e := .and es) (iA _ _ _ (br h)) fun z => z
      | or es => exact isBool_of (show isBool x _ = true from h) fun o y _ h => (of_decide_eq_true (bl h)).symm ▸ snd_bop (op := .Or) (e := .or es) (iA _ _ _ (br h)) fun z => z
      | cmp l c => exact isCmp_of (show isCmp x _ = true from h) fun y o z _ h => snd_cmp (iE _ _ _ (bl h)) (iC _ _ _ _ (br h))
      | attr e f => exact isAttr_of (show isAttr x _ = true from h) fun y i _ h => snd_attr F (bl (bl (bl h))) (TT.attrs _ (inS_mem (br (bl (bl h))))) (br (bl h)) (iE _ _ _ (br h))
      | sub e i => exact isSub_of (show isSub x _ = true from h) fun y z _ h => snd_sub (bl (bl h)) (iE _ _ _ (br (bl h))) (iE _ _ _ (br h))
      | slice e lo hi =>
        refine isSub_of (show isSub x _ = true from h) fun y z _ h => isSlice_of h fun l u s _ h => ?_
        cases s with
        | none => exact snd_slice (iE _ _ _ (br (bl (bl h)))) (iO _ _ _ (br (bl h))) (iO _ _ _ (br h))
        | some _ => exact nof (bl (bl (bl h)))
      | list es => exact isList_of (show isList x _ = true from h) fun v _ h => snd_list (iL _ _ _ (br h)) (of_decide_eq_true (bl h))
      | tup es => exact isTup_of (show isTup x _ = true from h) fun v _ _ h => snd_tup (iL _ _ _ (br h)) (of_decide_eq_true (bl h))
      | dict => exact isDict_of (show isDict x _ = true from h) fun v u _ h => nil_of (bl h) (nil_of (br h) snd_dict)
      | comp elt y it cond =>
        refine isLC_of (show isLC x _ = true from h) fun v gs sc _ h => isOne_of h fun g h => ?_
        obtain ⟨tg, iter, ifs, as⟩ := g
        dsimp only at h
        refine isName_of h fun t _ h => ?_
        cases of_decide_eq_true (br h)
        exact snd_comp (bl (bl (bl (bl (bl (bl h)))))) (br (bl (bl (bl (bl (bl h)))))) (br (bl (bl (bl (bl h))))) (iE _ _ _ (br (bl (bl (bl h))))) (iI _ _ _ (br (bl (bl h)))) (iE _ _ _ (br (bl h)))
      | call f es => exact isCall_of (show isCall x _ = true from h) fun g xs ks _ h => isName_of h fun t _ h => nil_of (br h) ((Option.isSome_iff_exists.mp (br (bl (bl (bl h))))).elim fun a ha => snd_call F (bl (bl (bl (bl h)))) (TT.fns _ (lookS_mem ha)) (br (bl (bl h))) (iL _ _ _ (br (bl h))) (SndF.up (HΔ f a (.inl ha))))
      | meth e m es => exact isCall_of (show isCall x _ = true from h) fun g xs ks _ h => isAttr_of h fun y t _ h => nil_of (br h) ((Option.isSome_iff_exists.mp (br (bl (bl (bl (bl (bl (bl (bl h))))))))).elim fun a ha => snd_meth F (bl (bl (bl (bl (bl (bl (bl (bl h)))))))) (TT.meths _ (lookS_mem ha)) (br (bl (bl (bl (bl (bl (bl h))))))) (br (bl (bl (bl (bl (bl h)))))) (of_decide_eq_true (br (bl (bl (bl (bl h)))))) (br (bl (bl (bl h)))) (iE _ _ _ (br (bl (bl h)))) (iL _ _ _ (br (bl h))) (SndF.up (HΔ m a (.inr (.inl ha)))))
      | mk es => exact isCall_of (show isCall x _ = true from h) fun g xs ks _ h => isName_of h fun t _ h => nil_of (br h) (snd_mk F (br (bl (bl (bl h)))) (TT.mks (bl (bl (bl (bl h))))) (br (bl (bl h))) (iL _ _ _ (br (bl h))) (HΔ _ _ (.inr (.inr ⟨rfl, bl (bl (bl (bl h))), rfl⟩))))
      | bi b es => exact isCall_of (show isCall x _ = true from h) fun g xs ks _ h => isName_of h fun t _ h => nil_of (br h) (snd_bi F (TT.bis _ (inS_mem (bl (bl (bl (bl h)))))) (br (bl (bl (bl h)))) (br (bl (bl h))) (iL _ _ _ (br (bl h))))
      | bm e m es => exact isCall_of (show isCall x _ = true from h) fun g xs ks _ h => isAttr_of h fun y t _ h => nil_of (br h) (snd_bm (bl (bl (bl (bl (bl (bl (bl h))))))) (br (bl (bl (bl (bl (bl (bl h))))))) (br (bl (bl (bl (bl (bl h)))))) (of_decide_eq_true (br (bl (bl (bl (bl h)))))) (br (bl (bl (bl h)))) (iE _ _ _ (br (bl (bl h)))) (iL _ _ _ (br (bl h))))
      | isinst e t => exact isCall_of (show isCall x _ = true from h) fun g xs ks _ h => isName_of h fun i _ h => isTwo_of h fun a b h => isName_of h fun z _ h => nil_of (br h) (snd_isinst F (bl (bl (bl (bl (bl h))))) (br (bl (bl (bl (bl h))))) (TT.isis _ (inS_mem (br (bl (bl (bl h)))))) (br (bl (bl h))) (iE _ _ _ (br (bl h))))
    · cases es with
      | nil => exact nil_of (show isNilL xs = true from h) sndL_nil
      | cons e es =>
        cases xs with
        | nil => exact nof h
        | cons x xs => exact sndL_cons (bl (bl h)) (iE _ _ _ (br (bl h))) (iL _ _ _ (br h))
    · cases es with
      | nil => exact nof h
      | cons e es =>
        cases xs with
        | nil => exact nof h
        | cons x xs =>
          cases es with
          | nil => exact nil_of (br h) (sndAnd_one (iE _ _ _ (bl h)))
          | cons e' es' =>
            have h2 : okAnd T k nm (.cons e' es') xs = true := br h
            cases xs with
            | nil => cases k <;> exact @nof _ h2
            | cons y ys => show SndAnd (W := W) (Δ := Δ) (n := n + 1) nm _ _; exact sndAnd_cons (iE _ _ _ (bl h)) (iA _ _ _ h2)
    · cases c with
      | nil => exact nof h
      | cons op e c =>
        cases ops with
        | nil => exact nof h
        | cons o ops =>
          cases xs with
          | nil => exact nof h
          | cons x xs =>
            obtain rfl := of_decide_eq_true (bl (bl h))
            cases c with
            | nil => exact nil_of (bl (bl (br h))) (nil_of (br (bl (br h))) (sndC_one F (br (br h)) (iE _ _ _ (br (bl h)))))
            | cons op' e' c' =>
              have h3 : okC T k nm (.cons op' e' c') ops xs = true := br h
              cases ops with
              | nil => cases k <;> exact @nof _ h3
              | cons o2 ops2 =>
                cases xs with
                | nil => cases k <;> exact @nof _ h3
                | cons y ys => show SndC W Δ (n + 1) nm _ _ _; exact sndC_cons F (iE _ _ _ (br (bl h))) (iC _ _ _ _ h3)
    · cases e
      case not e => exact isUn_of (show isUn x _ = true from h) fun o y _ h => (of_decide_eq_true (bl h)).symm ▸ sndT_not (iT _ _ _ (br h))
      case and es => exact isBool_of (show isBool x _ = true from h) fun o y _ h => (of_decide_eq_true (bl h)).symm ▸ sndT_bop (op := .And) (e := .and es) (iAT _ _ _ (br h)) fun z => z
      case or es => exact isBool_of (show isBool x _ = true from h) fun o y _ h => (of_decide_eq_true (bl h)).symm ▸ sndT_bop (op := .Or) (e := .or es) (iAT _ _ _ (br h)) fun z => z
      case cmp l c => exact isCmp_of (show isCmp x _ = true from h) fun y o z _ h => sndT_cmp (iE _ _ _ (bl h)) (iC _ _ _ _ (br h))
      all_goals exact sndT_plain (iE _ _ _ (br h)) (plainTest_is (bl h))
    · cases es with
      | nil => exact nof h
      | cons e es =>
        cases xs with
        | nil => exact nof h
        | cons x xs =>
          cases es with
          | nil => exact nil_of (br h) (sndAllT_one (iT _ _ _ (bl h)))
          | cons e' es' =>
            have h2 : okAllT T k nm (.cons e' es') xs = true := br h
            cases xs with
            | nil => cases k <;> exact @nof _ h2
            | cons y ys => show SndAllT (W := W) (Δ := Δ) (n := n + 1) nm _ _; exact sndAllT_cons (iT _ _ _ (bl h)) (iAT _ _ _ h2)
    · cases xs with
      | nil => exact isTrueM_eq h ▸ rfl
      | cons x xs => exact nil_of (bl h) (iT _ _ _ (br h))
    · cases x with
      | none => exact isNoneM_eq h
      | some x => exact iE _ _ _ h
end
end Mine
end
section
set_option autoImplicit false
set_option linter.unusedVariables false
namespace Mine
open PySem

/-! what a statement is, as data -/
noncomputable def isRet (x : PySem.Stmt) (f : Option PySem.Expr → Pos → Bool) : Bool := if h : x.ctorIdx = 3 then PySem.Stmt.Return.elim (motive_2 := fun _ => Bool) x h f else false
@[elab_as_elim] theorem isRet_of {P : PySem.Stmt → Prop} {x : PySem.Stmt} {f : Option PySem.Expr → Pos → Bool} (h : isRet x f = true) (k : ∀ a0 a1, f a0 a1 = true → P (.Return a0 a1)) : P x := PySem.Stmt.Return.elim (motive_2 := fun x => isRet x f = true → P x) x (dno h) k h
noncomputable def isAss (x : PySem.Stmt) (f : List PySem.Expr → PySem.Expr → Pos → Bool) : Bool := if h : x.ctorIdx = 5 then PySem.Stmt.Assign.elim (motive_2 := fun _ => Bool) x h f else false
@[elab_as_elim] theorem isAss_of {P : PySem.Stmt → Prop} {x : PySem.Stmt} {f : List PySem.Expr → PySem.Expr → Pos → Bool} (h : isAss x f = true) (k : ∀ a0 a1 a2, f a0 a1 a2 = true → P (.Assign a0 a1 a2)) : P x := PySem.Stmt.Assign.elim (motive_2 := fun x => isAss x f = true → P x) x (dno h) k h
noncomputable def isFor (x : PySem.Stmt) (f : PySem.Expr → PySem.Expr → List Stmt → List Stmt → Pos → Bool) : Bool := if h : x.ctorIdx = 9 then PySem.Stmt.For.elim (motive_2 := fun _ => Bool) x h f else false
@[elab_as_elim] theorem isFor_of {P : PySem.Stmt → Prop} {x : PySem.Stmt} {f : PySem.Expr → PySem.Expr → List Stmt → List Stmt → Pos → Bool} (h : isFor x f = true) (k : ∀ a0 a1 a2 a3 a4, f a0 a1 a2 a3 a4 = true → P (.For a0 a1 a2 a3 a4)) : P x := PySem.Stmt.For.elim (motive_2 := fun x => isFor x f = true → P x) x (dno h) k h
noncomputable def isWhile (x : PySem.Stmt) (f : PySem.Expr → List Stmt → List Stmt → Pos → Bool) : Bool := if h : x.ctorIdx = 11 then PySem.Stmt.While.elim (motive_2 := fun _ => Bool) x h f else false
@[elab_as_elim] theorem isWhile_of {P : PySem.Stmt → Prop} {x : PySem.Stmt} {f : PySem.Expr → List Stmt → List Stmt → Pos → Bool} (h : isWhile x f = true) (k : ∀ a0 a1 a2 a3, f a0 a1 a2 a3 = true → P (.While a0 a1 a2 a3)) : P x := PySem.Stmt.While.elim (motive_2 := fun x => isWhile x f = true → P x) x (dno h) k h
noncomputable def isIf (x : PySem.Stmt) (f : PySem.Expr → List Stmt → List Stmt → Pos → Bool) : Bool := if h : x.ctorIdx = 12 then PySem.Stmt.If.elim (motive_2 := fun _ => Bool) x h f else false
@[elab_as_elim] theorem isIf_of {P : PySem.Stmt → Prop} {x : PySem.Stmt} {f : PySem.Expr → List Stmt → List Stmt → Pos → Bool} (h : isIf x f = true) (k : ∀ a0 a1 a2 a3, f a0 a1 a2 a3 = true → P (.If a0 a1 a2 a3)) : P x := PySem.Stmt.If.elim (motive_2 := fun x => isIf x f = true → P x) x (dno h) k h
noncomputable def isRaise (x : PySem.Stmt) (f : Option PySem.Expr → Option PySem.Expr → Pos → Bool) : Bool := if h : x.ctorIdx = 16 then PySem.Stmt.Raise.elim (motive_2 := fun _ => Bool) x h f else false
@[elab_as_elim] theorem isRaise_of {P : PySem.Stmt → Prop} {x : PySem.Stmt} {f : Option PySem.Expr → Option PySem.Expr → Pos → Bool} (h : isRaise x f = true) (k : ∀ a0 a1 a2, f a0 a1 a2 = true → P (.Raise a0 a1 a2)) : P x := PySem.Stmt.Raise.elim (motive_2 := fun x => isRaise x f = true → P x) x (dno h) k h
noncomputable def isTry (x : PySem.Stmt) (f : List Stmt → List ExceptHandler → List Stmt → List Stmt → Pos → Bool) : Bool := if h : x.ctorIdx = 17 then PySem.Stmt.Try.elim (motive_2 := fun _ => Bool) x h f else false
@[elab_as_elim] theorem isTry_of {P : PySem.Stmt → Prop} {x : PySem.Stmt} {f : List Stmt → List ExceptHandler → List Stmt → List Stmt → Pos → Bool} (h : isTry x f = true) (k : ∀ a0 a1 a2 a3 a4, f a0 a1 a2 a3 a4 = true → P (.Try a0 a1 a2 a3 a4)) : P x := PySem.Stmt.Try.elim (motive_2 := fun x => isTry x f = true → P x) x (dno h) k h
noncomputable def isExprS (x : PySem.Stmt) (f : PySem.Expr → Pos → Bool) : Bool := if h : x.ctorIdx = 24 then PySem.Stmt.Expr.elim (motive_2 := fun _ => Bool) x h f else false
@[elab_as_elim] theorem isExprS_of {P : PySem.Stmt → Prop} {x : PySem.Stmt} {f : PySem.Expr → Pos → Bool} (h : isExprS x f = true) (k : ∀ a0 a1, f a0 a1 = true → P (.Expr a0 a1)) : P x := PySem.Stmt.Expr.elim (motive_2 := fun x => isExprS x f = true → P x) x (dno h) k h
noncomputable def hType : ExceptHandler → Option PySem.Expr
  | .ExceptHandler a _ _ _ => a
noncomputable def hName : ExceptHandler → Option Str
  | .ExceptHandler _ a _ _ => a
noncomputable def hBody : ExceptHandler → List Stmt
  | .ExceptHandler _ _ a _ => a
noncomputable def isCons {α : Type} : List α → Bool
  | [] => false
  | _ => true

/-- a comprehension to a name -/
noncomputable def okAC (T : Tab) (nm : Names) (e : ME) (x : PySem.Expr) : Bool := if h : e.ctorIdx = 18 then ME.comp.elim (motive_1 := fun _ => Bool) e h fun elt y it cond => isLC x fun v gs sc _ => isOne gs fun g => isName g.target fun t _ =>
      strEq t (Str.ofString y) && compOk nm y sc && notSet g.iter && okE T 100 nm it g.iter && okIfs T 100 (relabN nm sc.names) cond g.ifs && okE T 100 (relabN nm sc.names) elt v && decide (g.is_async = 0) else false
theorem okAC_of {T : Tab} {nm : Names} {P : ME → Prop} {e : ME} {x : PySem.Expr} (h : okAC T nm e x = true) (k : ∀ elt y it cond, okAC T nm (.comp elt y it cond) x = true → P (.comp elt y it cond)) : P e :=
  ME.comp.elim (motive_1 := fun e => okAC T nm e x = true → P e) e (dno h) k h
section
variable (T : Tab)
mutual
noncomputable def okS : Nat → Names → MS → Stmt → Bool
  | 0, _, _, _ => false
  | k + 1, nm, .expr e, x => isExprS x fun v _ => notComp v && okE T 100 nm e v
  | k + 1, nm, .assign y e, x => isAss x fun ts v _ => isOne ts fun t => isName t fun i _ => isTarget nm y i && ((notComp v && okE T 100 nm e v) || okAC T nm e v)
  | k + 1, nm, .setAttr e f y, x => isAss x fun ts v _ => isOne ts fun t => isAttr t fun z i _ => strEq i (Str.ofString f) && inS f T.sets && okE T 100 nm e z && okE T 100 nm y v
  | k + 1, nm, .ret e, x => isRet x fun v _ => v.any fun y => okE T 100 nm e y
  | k + 1, nm, .ite t a b, x => isIf x fun y u v _ => okT T 100 nm t y && okSs k nm a u && okSs k nm b v
  | k + 1, nm, .whil t b, x => isWhile x fun y u v _ => okT T 100 nm t y && okSs k nm b u && isNilL v
  | k + 1, nm, .for_ y it b, x => isFor x fun t z u v _ => isName t fun i _ => isTarget nm y i && notSet z && okE T 100 nm it z && okSs k nm b u && isNilL v
  | k + 1, nm, .unpack ys e, x => isAss x fun ts v _ => isOne ts fun t => isTup t fun i _ _ => isName v fun i2 p2 => okTargets nm ys i && okE T 100 nm e (.Name i2 p2)
  | k + 1, nm, .raise c _, x => isRaise x fun v w _ => v.any fun y => isCall y fun g xs ks _ => isName g fun i _ => isOne xs fun a => isConst a fun c' _ _ => isCStr c' fun _ => isGlob nm c i && inS c T.raises && isNilL ks && isNilL w.toList
  | k + 1, nm, .try_ b y h, x => isTry x fun u hs v w _ => isOne hs fun z => (hType z).any fun t => isName t fun i _ => (hName z).any fun id =>
      T.tries && isGlob nm "SeatError" i && isLocal nm y id && okSs k nm b u && okSs k nm h (hBody z) && isCons (hBody z) && isNilL v && isNilL w
  | k + 1, nm, .setIdx e i y, x => isAss x fun ts v _ => isOne ts fun t => isSub t fun a z _ => okE T 100 nm e a && okE T 100 nm i z && okE T 100 nm y v
  | k + 1, nm, .forT ys it b, x => isFor x fun t z u v _ => isTup t fun i _ _ => okTargets nm ys i && notSet z && okE T 100 nm it z && okSs k nm b u && isNilL v
noncomputable def okSs : Nat → Names → MSs → List Stmt → Bool
  | 0, _, _, _ => false
  | k + 1, _, .nil, xs => isNilL xs
  | k + 1, nm, .cons m ms, xs => match xs with
    | [] => false
    | x :: xs => okS k nm m x && okSs k nm ms xs
end
end

section
variable {W : Amb} {K : PySem.W.Frag} {T : Tab} {Δ : CallT} {n : Nat} (F : Facts W K) (TT : TabOk W K T) (HΔ : ∀ f a, addrOf T f a → SndF W n (fun hd => Δ hd f) (.ref a))
include F TT HΔ
set_option maxHeartbeats 800000 in
theorem okStm (k : Nat) : (∀ nm m x, okS T k nm m x = true → SndS W Δ (n + 1) nm m x) ∧ (∀ nm ms xs, okSs T k nm ms xs = true → SndSs W Δ (n + 1) nm ms xs) := by
  obtain ⟨iE, iL, iA, iC, iT, iAT, iI, iO⟩ := okAll F TT HΔ 100
  induction k with
  | zero => exact ⟨fun _ _ _ h => nof h, fun _ _ _ h => nof h⟩
  | succ k ih =>
    obtain ⟨iS, iSs⟩ := ih
    refine ⟨fun nm m x h => ?_, fun nm ms xs h => ?_⟩
    · cases m with
      | expr e => exact isExprS_of (show isExprS x _ = true from h) fun v _ h => snd_expr (bl h) (iE _ _ _ (br h))
      | assign y e =>
        refine isAss_of (show isAss x _ = true from h) fun ts v _ h => isOne_of h fun t h => isName_of h fun i _ h => ?_
        refine (Bool.or_eq_true_iff.mp (br h)).elim (fun h2 => snd_assign (bl h2) (bl h) (iE _ _ _ (br h2))) fun h2 => okAC_of (P := fun e => SndS W Δ (n + 1) nm (.assign y e) (.Assign [.Name i _] v _)) h2 fun elt z it cond h2 => ?_
        refine isLC_of (show isLC v _ = true from h2) fun v gs sc _ h2 => isOne_of h2 fun g h2 => ?_
        obtain ⟨tg, iter, ifs, as⟩ := g
        dsimp only at h2
        refine isName_of h2 fun t _ h2 => ?_
        cases of_decide_eq_true (br h2)
        exact snd_assignComp (bl h) (bl (bl (bl (bl (bl (bl h2)))))) (br (bl (bl (bl (bl (bl h2)))))) (br (bl (bl (bl (bl h2))))) (iE _ _ _ (br (bl (bl (bl h2))))) (iI _ _ _ (br (bl (bl h2)))) (iE _ _ _ (br (bl h2)))
      | setAttr e f y => exact isAss_of (show isAss x _ = true from h) fun ts v _ h => isOne_of h fun t h => isAttr_of h fun z i _ h => snd_setAttr F (bl (bl (bl h))) (TT.sets _ (inS_mem (br (bl (bl h))))) (iE _ _ _ (br (bl h))) (iE _ _ _ (br h))
      | ret e => exact isRet_of (show isRet x _ = true from h) fun v _ h => (bany h).elim fun y z => z.1 ▸ snd_ret (iE _ _ _ z.2)
      | ite t a b => exact isIf_of (show isIf x _ = true from h) fun y u v _ h => snd_ite (iT _ _ _ (bl (bl h))) (iSs _ _ _ (br (bl h))) (iSs _ _ _ (br h))
      | whil t b => exact isWhile_of (show isWhile x _ = true from h) fun y u v _ h => nil_of (br h) (snd_while (iT _ _ _ (bl (bl h))) (iSs _ _ _ (br (bl h))))
      | for_ y it b => exact isFor_of (show isFor x _ = true from h) fun t z u v _ h => isName_of h fun i _ h => nil_of (br h) (snd_for (bl (bl (bl (bl h)))) (br (bl (bl (bl h)))) (iE _ _ _ (br (bl (bl h)))) (iSs _ _ _ (br (bl h))))
      | unpack ys e => exact isAss_of (show isAss x _ = true from h) fun ts v _ h => isOne_of h fun t h => isTup_of h fun es k p h => isName_of h fun i2 p2 h => snd_unpack (bl h) (iE _ _ _ (br h))
      | raise c msg =>
        refine isRaise_of (show isRaise x _ = true from h) fun v w _ h => ?_
        cases v with
        | none => exact nof h
        | some y =>
          refine isCall_of (show isCall y _ = true from h) fun g xs ks _ h => isName_of h fun i _ h => isOne_of h fun a h => isConst_of h fun c' _ _ h => isCStr_of h fun s h => nil_of (br (bl h)) ?_
          cases w with
          | none => exact snd_raise F (bl (bl (bl h))) (TT.raises _ (inS_mem (br (bl (bl h)))))
          | some _ => exact nof (br h)
      | try_ b y hs =>
        refine isTry_of (show isTry x _ = true from h) fun u hs v w _ h => isOne_of h fun z h => ?_
        obtain ⟨ty, na, bo, po⟩ := z
        cases ty with
        | none => exact nof h
        | some t =>
          refine isName_of (show isName t _ = true from h) fun i _ h => ?_
          cases na with
          | none => exact nof h
          | some id =>
            cases bo with
            | nil => exact nof (br (bl (bl h)))
            | cons st suite => exact nil_of (br (bl h)) (nil_of (br h) (snd_try F (br (bl (bl (bl (bl (bl (bl h))))))) (TT.tries (bl (bl (bl (bl (bl (bl (bl h)))))))) (br (bl (bl (bl (bl (bl h)))))) (iSs _ _ _ (br (bl (bl (bl (bl h)))))) (iSs _ _ _ (br (bl (bl (bl h)))))))
      | setIdx e i y => exact isAss_of (show isAss x _ = true from h) fun ts v _ h => isOne_of h fun t h => isSub_of h fun a z _ h => snd_setIdx (iE _ _ _ (bl (bl h))) (iE _ _ _ (br (bl h))) (iE _ _ _ (br h))
      | forT ys it b => exact isFor_of (show isFor x _ = true from h) fun t z u v _ h => isTup_of h fun i _ _ h => nil_of (br h) (snd_forT (bl (bl (bl (bl h)))) (br (bl (bl (bl h)))) (iE _ _ _ (br (bl (bl h)))) (iSs _ _ _ (br (bl h))))
    · cases ms with
      | nil => exact nil_of (show isNilL xs = true from h) sndSs_nil
      | cons m ms =>
        cases xs with
        | nil => exact nof h
        | cons x xs => exact sndSs_cons (iS _ _ _ (bl h)) (iSs _ _ _ (br h))
end

/-! the defs -/
noncomputable def argsAre : List Arg → List String → Bool
  | [], [] => true
  | a :: as, p :: ps => strEq a.arg (Str.ofString p) && argsAre as ps
  | _, _ => false
theorem argsAre_eq : ∀ {as : List Arg} {ps : List String}, argsAre as ps = true → as.map (·.arg) = ps.map Str.ofString
  | [], [], _ => rfl
  | a :: as, p :: ps, h => by
    simp only [argsAre, Bool.and_eq_true] at h
    simp only [List.map_cons, strEq_eq h.1, argsAre_eq h.2]
  | [], _ :: _, h => by cases h
  | _ :: _, [], h => by cases h
noncomputable def isNone : Value → Bool
  | .none => true
  | _ => false
noncomputable def nodupS : List Str → Bool
  | [] => true
  | a :: r => (r.all fun b => !strEq a b) && nodupS r
theorem strEq_self (a : Str) : strEq a a = true := by
  have : ∀ l, strEqL l l = true := by
    intro l; induction l with
    | nil => rfl
    | cons a l ih => simp [strEqL, ih]
  exact this _
theorem nodupS_of : ∀ {l : List Str}, nodupS l = true → l.Nodup
  | [], _ => .nil
  | a :: r, h => by
    simp only [nodupS, Bool.and_eq_true, List.all_eq_true, Bool.not_eq_true'] at h
    refine List.nodup_cons.mpr ⟨fun hm => ?_, nodupS_of h.2⟩
    have := h.1 a hm
    rw [strEq_self] at this; cases this
noncomputable def fnOk (K : PySem.W.Frag) (T : Tab) (a : Addr) (d : MFn) : Bool := match K.lookup a with
  | some ⟨_, _, .func fd, _⟩ => (match fd.params, fd.body with
    | ⟨[], as, none, [], _, none, _⟩, .stmts body => argsAre as d.params && isNone fd.defaults && nodupS (d.params.map Str.ofString) && (match fd.closure with | [] => true | _ => false) && (fd.globals == mainGlobals) && (fd.builtins == builtinsNs) &&
        PySem.W.codeIn K fd.code fd.qualname && (d.params.all fun p => storeKind (fd.scope.names.lookup (Str.ofString p))) && nodupS (fd.scope.names.map (·.1)) && nodupS ((cellsFrom 0 fd.scope.names []).map (·.1)) &&
        !fd.scope.isCoroutine && !fd.scope.isGenerator && (fd.scope.kind == .function) && okSs T 100 fd.scope.names d.body body
    | _, _ => false)
  | _ => false
theorem fn_sound {W : Amb} {K : PySem.W.Frag} {T : Tab} {Δ : CallT} {n : Nat} {a : Addr} {d : MFn} (F : Facts W K) (TT : TabOk W K T) (HΔ : ∀ f a, addrOf T f a → SndF W n (fun hd => Δ hd f) (.ref a)) (h : fnOk K T a d = true) :
    SndF W (n + 2) (fun hd vs H Q X => d.params.length = vs.length ∧ wSs Δ hd d.body (Sto.ofArgs d.params vs) H (fun _ H' => Q .none H') Q (fun c _ H' => X c H')) (.ref a) := by
  unfold fnOk at h
  split at h
  · rename_i oc od fd sl ho
    split at h
    · rename_i as kwd ds body hp hb
      simp only [Bool.and_eq_true, Bool.not_eq_true', beq_iff_eq, List.all_eq_true] at h
      obtain ⟨⟨⟨⟨⟨⟨⟨⟨⟨⟨⟨⟨⟨h1, h2⟩, h3⟩, h4⟩, h5⟩, h6⟩, h7⟩, h8⟩, h9⟩, h10⟩, h11⟩, h12⟩, h13⟩, h14⟩ := h
      have D : FnIs W.h₀ a fd body d.params := {
        at_ := ⟨_, F.inn _ _ ho, rfl⟩
        body := hb
        par := ⟨as, kwd, ds, hp, argsAre_eq h1⟩
        dflt := by cases q : fd.defaults <;> rw [q] at h2 <;> first | rfl | cases h2
        nodup := nodupS_of h3
        clo := by cases q : fd.closure with | nil => rfl | cons _ _ => rw [q] at h4; cases h4
        glob := h5
        blt := h6
        code := PySem.W.codeRec_of F.inn h7
        kinds := fun x hx => by
          obtain ⟨p, hp, rfl⟩ := List.mem_map.mp hx
          have := h8 p hp
          unfold storeKind at this
          split at this
          · rename_i q; exact .inl q
          · rename_i q; exact .inr q
          · cases this
        names := nodupS_of h9
        cells := nodupS_of h10
        co := h11
        gen := h12
        kind := h13 }
      intro hd A fs Ψ H s vs mvs Q X C S v z
      exact call_fn F D ((okStm F TT HΔ 100).2 _ _ _ h14) C S v z
    · cases h
  · cases h

/-- the whole text -/
theorem sound {W : Amb} {K : PySem.W.Frag} {T : Tab} {P : MProg} (F : Facts W K) (TT : TabOk W K T) (hP : ∀ f a d, addrOf T f a → P.fn f = some d → fnOk K T a d = true) :
    ∀ m f a, addrOf T f a → SndF W (4 * m) (fun hd => callW P m hd f) (.ref a) := by
  intro m
  induction m with
  | zero => intro f a _ hd A fs Ψ H s vs mvs Q X C S hv h; exact h.elim
  | succ m ih =>
    intro f a ha hd' A fs Ψ H s vs mvs Q X C S hv h
    obtain ⟨d, hd, h⟩ := h
    exact fn_sound F TT ih (hP f a d ha hd) (C.le (by (first | lia | omega))) S hv h
end Mine
end
section
set_option autoImplicit false
namespace Mine
open PySem

noncomputable def progOk (K : PySem.W.Frag) (T : Tab) (P : MProg) : Bool :=
  (T.fns.all fun p => match P.fn p.1 with | some d => fnOk K T p.2 d | none => true) && (T.meths.all fun p => match P.fn p.1 with | some d => fnOk K T p.2 d | none => true) &&
  (!T.mks || match P.fn "__init__" with | some d => fnOk K T T.init d | none => true)
theorem progOk_of {K : PySem.W.Frag} {T : Tab} {P : MProg} (h : progOk K T P = true) : ∀ f a d, addrOf T f a → P.fn f = some d → fnOk K T a d = true := by
  simp only [progOk, Bool.and_eq_true, List.all_eq_true, Bool.or_eq_true, Bool.not_eq_true'] at h
  obtain ⟨⟨h1, h2⟩, h3⟩ := h
  intro f a d ha hd
  rcases ha with ha | ha | ⟨rfl, hm, rfl⟩
  · have := h1 _ (lookS_mem ha)
    rw [hd] at this; exact this
  · have := h2 _ (lookS_mem ha)
    rw [hd] at this; exact this
  · rcases h3 with h3 | h3
    · rw [hm] at h3; cases h3
    · rw [hd] at h3; exact h3

theorem entry {prog : Program} {w : World} {K : PySem.W.Frag} {T : Tab} {P : MProg} {ca : String → Addr} {fa script : Addr} {fd : FuncData} {body : List Stmt} {params : List String} {ms : MSs} {s₁ : Shared} {vals : List Value} {is : List Int} {pv : Program} {loose : List Str} {mean : ExcName → Option Value} {mg mb : Str → Option Value} {R : Result → Shared → Prop}
    (X : K.In s₁.heap) (Tp : PyProof.Rows.Top pv loose mean mg mb s₁.heap) (hg : s₁.gens = #[]) (ht : tabOk ca K T = true) (hP : progOk K T P = true) (D : FnIs s₁.heap fa fd body params) (hbody : okSs T 100 fd.scope.names ms body = true)
    (hL : s₁.heap.IsList script vals.toArray) (hI : PyProof.Rows.IntsAre vals is) (hsm : is.length ≤ 63) (M : Nat) (hM : M ≤ 100) (hpar : params.length = 1)
    (hw : ∀ H : MH, H script = some (.ro (is.map .int)) → wSs (callW P M) false ms (Sto.ofArgs params [.ref script]) H (fun _ _ => MV.none = .bool true) (fun v _ => v = .bool true) (fun _ _ _ => False))
    (fin : ∀ s', s₁.heap.StaysIn s'.heap → s'.gens = #[] → s'.os = s₁.os → R (.ok (.ret (.bool true))) s') :
    codeAny (model prog w) callerA (.call (.ref fa) ⟨[.ref script], []⟩) R s₁ := by
  have hbig : ∃ a o, sysModules < a ∧ s₁.heap.get? a = some o := by
    obtain ⟨_, ⟨o, _, _, ho, _⟩, _⟩ := Tp.nodigits
    exact ⟨_, o, by decide, ho⟩
  let W : Amb := ⟨prog, w, s₁.heap, ca, s₁.gens, s₁.os, hbig⟩
  have F : Facts W K := ⟨X, ⟨pv, loose, mg, mb, PySem.W.topRead_of Tp⟩, Tp.nolimit⟩
  have TT : TabOk W K T := tabOk_of ht
  have HS := sound F TT (progOk_of hP) M
  have hb : SndSs W (callW P M) (4 * M + 1) fd.scope.names ms body := (okStm F TT HS 100).2 _ _ _ hbody
  let Ψ : Psi := fun a => if a = script then some (.ro (is.map .int)) else none
  let H : MH := fun a => if a = script then some (.ro (is.map .int)) else none
  have S : St W [] Ψ H s₁ := by
    have inv : ∀ a k, Ψ a = some k → a = script ∧ k = .ro (is.map .int) := fun a k e => by
      have e' : (if a = script then some (HK.ro (is.map .int)) else none) = some k := e
      split at e'
      · rename_i q; cases e'; exact ⟨q, rfl⟩
      · cases e'
    refine ⟨fun a k e => ?_, fun a k e hx => ?_, fun a o e => ?_, fun _ _ e => e, fun e he => (by cases he), rfl, rfl, fun a es e => ?_⟩
    · obtain ⟨rfl, rfl⟩ := inv a k e
      obtain ⟨o, ho, hc, n, hd⟩ := hL
      exact ⟨o, ho, _, n, hc, hd, of_intsAre hI, by rw [List.length_map]; exact Nat.le_trans hsm (by decide)⟩
    · obtain ⟨_, rfl⟩ := inv a k e; exact absurd rfl (hx _)
    · have e' : (if a = script then some (MObj.ro (is.map .int)) else none) = some o := e
      split at e'
      · rename_i q; cases e'; exact if_pos q
      · cases e'
    · obtain ⟨_, q⟩ := inv a _ e; cases q
  have C : CxC (4 * M + 1 + 1) false callerA [] := ⟨rfl, fun _ => rfl, by show 1 + claimMargin + (4 * M + 1 + 1) ≤ 900; unfold claimMargin; (first | lia | omega), by show 4 + 4 * (4 * M + 1 + 1) ≤ 9000; (first | lia | omega)⟩
  refine codeAny_mono (call_fn F D hb (Q := fun v _ => v = .bool true) (X := fun _ _ => False) C S (vs := [.ref script]) (mvs := [.ref script]) (.cons .ref .nil) ⟨hpar, ?_⟩) fun r s' h => ?_
  · exact hw H (if_pos rfl)
  · cases r with
    | error e => obtain ⟨_, _, _, _, _, _, _, _, q⟩ := h; exact q.elim
    | ok f =>
      cases f with
      | ret v =>
        obtain ⟨Ψ', H', mv, S', K', v', rfl⟩ := h
        obtain rfl := vbool v'
        exact fin s' S'.base (S'.gens.trans hg) S'.os
      | _ => exact h.elim

open PySem.W in
theorem good_true {c : ClaimW} {cl : Str → Option Addr} {mean : ExcName → Option Value} {args : List WData} {s₁ s' : Shared} (hk : s₁.heap.StaysIn s'.heap) (hg : s'.gens = #[]) (hos : s'.os = s₁.os) (hn : ∀ cls, c.raises args cls = false) (hp : c.post args (.bool true) args = true) :
    GoodW c cl mean args s₁ (.ok (.ret (.bool true))) s' := ⟨.inl ⟨_, _, [], rfl, hn, .bool true, hp, fun _ => ⟨.nil, fun _ h => by cases h⟩⟩, hk, hos, hg⟩
end Mine
end
section
set_option autoImplicit false
namespace Mine
open PySem

/-- the law's own def, by what its making says of it -/
noncomputable def fdOk (T : Tab) (fd : FuncData) (d : MFn) : Bool := match fd.params, fd.body with
  | ⟨[], as, none, [], _, none, _⟩, .stmts body => argsAre as d.params && nodupS (d.params.map Str.ofString) && (match fd.closure with | [] => true | _ => false) && (fd.globals == mainGlobals) && (fd.builtins == builtinsNs) &&
      (d.params.all fun p => storeKind (fd.scope.names.lookup (Str.ofString p))) && nodupS (fd.scope.names.map (·.1)) && nodupS ((cellsFrom 0 fd.scope.names []).map (·.1)) &&
      !fd.scope.isCoroutine && !fd.scope.isGenerator && (fd.scope.kind == .function) && okSs T 100 fd.scope.names d.body body
  | _, _ => false
theorem fnIs_of {T : Tab} {h : Heap} {a : Addr} {o : Obj} {fd : FuncData} {d : MFn} (ho : h.get? a = some o) (hd : o.data = .func fd) (hc : h.CodeRec fd.code fd.qualname) (hdf : fd.defaults = .none) (hk : fdOk T fd d = true) :
    ∃ body, FnIs h a fd body d.params ∧ okSs T 100 fd.scope.names d.body body = true := by
  unfold fdOk at hk
  split at hk
  · rename_i as kwd ds body hp hb
    simp only [Bool.and_eq_true, Bool.not_eq_true', beq_iff_eq, List.all_eq_true] at hk
    obtain ⟨⟨⟨⟨⟨⟨⟨⟨⟨⟨⟨h1, h3⟩, h4⟩, h5⟩, h6⟩, h8⟩, h9⟩, h10⟩, h11⟩, h12⟩, h13⟩, h14⟩ := hk
    exact ⟨body, {
      at_ := ⟨o, ho, hd⟩
      body := hb
      par := ⟨as, kwd, ds, hp, argsAre_eq h1⟩
      dflt := hdf
      nodup := nodupS_of h3
      clo := by cases q : fd.closure with | nil => rfl | cons _ _ => rw [q] at h4; cases h4
      glob := h5
      blt := h6
      code := hc
      kinds := fun x hx => by
        obtain ⟨p, hp, rfl⟩ := List.mem_map.mp hx
        have := h8 p hp
        unfold storeKind at this
        split at this
        · rename_i q; exact .inl q
        · rename_i q; exact .inr q
        · cases this
      names := nodupS_of h9
      cells := nodupS_of h10
      co := h11
      gen := h12
      kind := h13 }, h14⟩
  · cases hk

open PySem.W in
/-- all of it: what the head leaves, from the mini law -/
theorem claim_of {row : RowW} {w : World} {K : PySem.W.Frag} {T : Tab} {P : MProg} {ca : String → Addr} {fa script : Addr} {fd : FuncData} {d : MFn} {o : Obj} {s₁ : Shared} {vals : List Value} {is : List Int} {pv : Program} {loose : List Str} {mean : ExcName → Option Value} {mg mb : Str → Option Value} {cl : Str → Option Addr} {args : List WData} {x : String}
    (X : K.In s₁.heap) (Tp : PyProof.Rows.Top pv loose mean mg mb s₁.heap) (hg : s₁.gens = #[]) (ht : tabOk ca K T = true) (hP : progOk K T P = true)
    (ho : s₁.heap.get? fa = some o) (hd : o.data = .func fd) (hc : s₁.heap.CodeRec fd.code fd.qualname) (hdf : fd.defaults = .none) (hk : fdOk T fd d = true) (hpar : d.params = [x])
    (hL : s₁.heap.IsList script vals.toArray) (hI : PyProof.Rows.IntsAre vals is) (hlen : ¬ ((63 : Nat) : Int) < (is.length : Int)) (M : Nat) (hM : M ≤ 100)
    (law : is.length ≤ 63 → ∀ H : MH, H script = some (.ro (is.map .int)) → wSs (callW P M) false d.body (Sto.ofArgs [x] [.ref script]) H (fun _ _ => MV.none = .bool true) (fun v _ => v = .bool true) (fun _ _ _ => False))
    (hn : ∀ cls, row.claim.raises args cls = false) (hp : row.claim.post args (.bool true) args = true) :
    codeAny (model row.prog w) callerA (.call (.ref fa) ⟨[.ref script], []⟩) (GoodW row.claim cl mean args s₁) s₁ := by
  obtain ⟨body, D, hb⟩ := fnIs_of ho hd hc hdf hk
  rw [hpar] at D
  exact entry X Tp hg ht hP D hb hL hI (by (first | lia | omega)) M hM rfl (law (by (first | lia | omega))) fun s' h1 h2 h3 => good_true h1 h2 h3 hn hp
end Mine
end
section
set_option autoImplicit false
namespace Mine
open PySem PySem.W

/-- the top, run at once -/
theorem left_of_run {p q : Program} {loose : List Str} {Xt : Shared → Bool} {α : Type} {Yf : Shared → α} {Ya : World → α} {N : Nat} {g0 : Bool} {H₀ : Params → Heap} {gs₀ : Array GenState} {d₀ : Drawn} {k₀ : Nat} {m₀ : Nat} {ann : Option Value}
    (open_ : ∀ w : World, (fencedOpening treeTable p w N).map (fun s => (s.heap, s.gens, s.drawn, s.toks)) = some (H₀ w.params, gs₀, d₀, k₀))
    (size : ∀ w : World, ((H₀ w.params).isNs mainGlobals && gs₀.size == 0, (H₀ w.params).objs.size, (H₀ w.params).nsMap mainGlobals "__annotations__") = (true, m₀, ann))
    (run : ∀ w : World, (fun os => (topRun treeTable p w m₀ ann N ⟨H₀ w.params, gs₀, d₀, k₀, os⟩ (topStub p)).map fun s₁ => ((staticsOk (importedModules p.main.body) (H₀ w.params) s₁.heap && namesBound p s₁.heap && gensDone s₁ && laidKept (H₀ w.params) s₁.heap),
        openSeen q loose (importedModules p.main.body) Xt g0 s₁, Yf s₁)) = fun _ => some (true, openGood q loose, Ya w)) : LeftO p q loose Xt Yf Ya N g0 := fun w => by
  obtain ⟨⟨h, gs, d, k, os⟩, e, e'⟩ := Option.map_eq_some_iff.mp (open_ w)
  obtain ⟨rfl, rfl, rfl, rfl⟩ : h = H₀ w.params ∧ gs = gs₀ ∧ d = d₀ ∧ k = k₀ := by simpa using e'
  obtain ⟨z1, z2, z3⟩ : _ ∧ _ ∧ _ := by simpa only [Prod.mk.injEq] using size w
  obtain ⟨s₁, r, l⟩ := Option.map_eq_some_iff.mp (congrFun (run w) os)
  obtain ⟨l1, l2, l3⟩ : _ ∧ _ ∧ _ := by simpa only [Prod.mk.injEq] using l
  have t : topFrom treeTable p w N ⟨H₀ w.params, gs, d, k, os⟩ = some s₁ := by
    unfold topFrom
    dsimp only
    rw [z1, z2, z3, r]
    show (match staticsOk (importedModules p.main.body) (H₀ w.params) s₁.heap && namesBound p s₁.heap && gensDone s₁ && laidKept (H₀ w.params) s₁.heap with | true => _ | false => _) = _
    rw [l1]
  unfold openEnds
  rw [e]
  show (topFrom treeTable p w N ⟨H₀ w.params, gs, d, k, os⟩).map _ = _
  rw [t, Option.map_some, l2, l3]

/-- what the law needs of the heap behind the top, looked at there -/
noncomputable def fragOfHeap (as : List Addr) (h : Heap) : Frag := as.filterMap fun a => match h.get? a with
  | some o => some (a, o)
  | none => none
theorem fragOf_in : ∀ (as : List Addr) (h : Heap), (fragOfHeap as h).In h
  | [], _, a, o, e => by cases e
  | b :: as, h, a, o, e => by
    unfold fragOfHeap at e
    rw [List.filterMap_cons] at e
    cases q : h.get? b with
    | none => rw [q] at e; exact fragOf_in as h a o e
    | some x =>
      rw [q] at e
      change List.lookup a ((b, x) :: fragOfHeap as h) = some o at e
      rw [List.lookup_cons] at e
      cases z : a == b with
      | true => rw [z] at e; cases e; rw [beq_iff_eq.mp z]; exact q
      | false => rw [z] at e; exact fragOf_in as h a o e
noncomputable def lawHook (as : List Addr) (ca : String → Addr) (T : Tab) (P : MProg) : Hook :=
  ⟨Bool, fun s => tabOk ca (fragOfHeap as s.heap) T && progOk (fragOfHeap as s.heap) T P, fun _ => true, fun _ h => ∃ K : Frag, K.In h ∧ tabOk ca K T = true ∧ progOk K T P = true,
   fun _ s e => ⟨fragOfHeap as s.heap, fragOf_in _ _, (Bool.and_eq_true_iff.mp e).1, (Bool.and_eq_true_iff.mp e).2⟩, fun _ _ _ ⟨K, k1, k2⟩ hk => ⟨K, fun a o e => hk a o (k1 a o e), k2⟩⟩
end Mine
end
section
set_option autoImplicit false
namespace Mine
open PySem PySem.W

/-! the same run over a heap kept as a tree -/
theorem goT_top {tb : String → Option Builtin} {p : Program} {w : World} {n₀ : Nat} {ann : Option Value} : ∀ {n : Nat} {s s' : SharedT} {t : Thread}, goT (stepOk n₀ ann) (stepT (denote tb) p w) n s t = some s' → topRun tb p w n₀ ann n s.abs t = some s'.abs
  | 0, _, _, _, h => by cases h
  | n + 1, s, s', t, h => by
    unfold goT at h
    unfold topRun
    cases he : through t with
    | true => rw [he] at h; cases h; rfl
    | false =>
      rw [he] at h
      cases hk : stepOk n₀ ann t with
      | false => rw [hk] at h; cases h
      | true =>
        rw [hk] at h
        cases hs : stepT (denote tb) p w s t with
        | none => rw [hs] at h; cases h
        | some r => rw [hs] at h; rw [stepT_spec hs]; exact goT_top h

theorem left_of_tree {p q : Program} {loose : List Str} {Xt : Shared → Bool} {α : Type} {Yf : Shared → α} {Ya : World → α} {N : Nat} {g0 : Bool} {gs₀ : Array GenState} {d₀ : Drawn} {k₀ : Nat} {m₀ : Nat} {ann : Option Value}
    (open_ : ∀ w : World, (fencedOpening treeTable p w N).map (fun s => (s.heap, s.gens, s.drawn, s.toks)) = some (boot_heap w.params, gs₀, d₀, k₀))
    (size : ∀ w : World, ((boot_heap w.params).isNs mainGlobals && gs₀.size == 0, (boot_heap w.params).objs.size, (boot_heap w.params).nsMap mainGlobals "__annotations__") = (true, m₀, ann))
    (tree : ∀ w : World, absHeap (bootTree w.params) m₀ (boot_heap w.params).life = boot_heap w.params)
    (run : ∀ w : World, (fun os => (goT (stepOk m₀ ann) (stepT (denote treeTable) p w) N ⟨bootTree w.params, m₀, (boot_heap w.params).life, gs₀, d₀, k₀, os⟩ (topStub p)).map fun s₁ => ((staticsOk (importedModules p.main.body) (boot_heap w.params) s₁.abs.heap && namesBound p s₁.abs.heap && gensDone s₁.abs && laidKept (boot_heap w.params) s₁.abs.heap),
        openSeen q loose (importedModules p.main.body) Xt g0 s₁.abs)) = fun _ => some (true, openGood q loose))
    (seen : ∀ w : World, (fun os => (goT (stepOk m₀ ann) (stepT (denote treeTable) p w) N ⟨bootTree w.params, m₀, (boot_heap w.params).life, gs₀, d₀, k₀, os⟩ (topStub p)).map fun s₁ => Yf s₁.abs) = fun _ => some (Ya w)) : LeftO p q loose Xt Yf Ya N g0 :=
  left_of_run open_ size fun w => by
    funext os
    obtain ⟨s₁, r, l⟩ := Option.map_eq_some_iff.mp (congrFun (run w) os)
    obtain ⟨s₂, r2, l2⟩ := Option.map_eq_some_iff.mp (congrFun (seen w) os)
    rw [r] at r2; cases r2
    have := goT_top r
    unfold SharedT.abs at this
    dsimp only at this
    rw [tree w] at this
    rw [this, Option.map_some]
    obtain ⟨l1, l3⟩ : _ ∧ _ := by simpa only [Prod.mk.injEq] using l
    have l1' : (staticsOk (importedModules p.main.body) (boot_heap w.params) s₁.abs.heap && namesBound p s₁.abs.heap && gensDone s₁.abs && laidKept (boot_heap w.params) s₁.abs.heap) = true := l1
    have l3' : openSeen q loose (importedModules p.main.body) Xt g0 s₁.abs = openGood q loose := l3
    have l2' : Yf s₁.abs = Ya w := l2
    unfold SharedT.abs at l1' l3' l2'
    rw [l1', l3', l2']
end Mine
end
section
set_option autoImplicit false
namespace Mine
open PySem
noncomputable def f_law : MFn := ⟨["_law_script"],
  (.cons (.assign "_law_text" (.call "written" (.cons (.sub (.call "_law_run" (.cons (.var "_law_script") .nil)) (.int 0)) .nil)))
  (.cons (.ite (.cmp (.bin .mod (.call "_law_cell_at" (.cons (.var "_law_script") (.cons (.int 2) .nil))) (.int 3)) (.cons .eq (.int 1) .nil))
  (.cons (.assign "_law_text" (.call "_law_changing" (.cons (.bin .fdiv (.call "_law_cell_at" (.cons (.var "_law_script") (.cons (.int 2) .nil))) (.int 3)) .nil)))
  .nil)
  .nil)
  (.cons (.assign "_law_cell" (.bin .add (.bin .add (.call "_law_cell_at" (.cons (.var "_law_script") (.cons (.int 1) .nil))) (.bin .mul (.int 3) (.call "_law_cell_at" (.cons (.var "_law_script") (.cons (.int 0) .nil))))) (.bin .mul (.int 5) (.call "_law_cell_at" (.cons (.var "_law_script") (.cons (.bi "max" (.cons (.int 0) (.cons (.bin .sub (.bi "len" (.cons (.var "_law_script") .nil)) (.int 1)) .nil))) .nil))))))
  (.cons (.assign "_law_way" (.sub (.list (.cons (.int 0) (.cons (.int 1) (.cons (.int 2) (.cons (.int 2) (.cons (.int 2) (.cons (.int 3) (.cons (.int 4) (.cons (.int 5) (.cons (.int 5) (.cons (.int 6) .nil))))))))))) (.call "_law_mixed" (.cons (.var "_law_cell") (.cons (.int 6) (.cons (.int 10) .nil))))))
  (.cons (.ite (.cmp (.var "_law_way") (.cons .lt (.int 6) .nil))
  (.cons (.assign "_law_text" (.call "_law_spoilt" (.cons (.var "_law_text") (.cons (.var "_law_cell") (.cons (.var "_law_way") .nil)))))
  (.cons (.ite (.cmp (.call "_law_mixed" (.cons (.var "_law_cell") (.cons (.int 2) (.cons (.int 2) .nil)))) (.cons .eq (.int 1) .nil))
  (.cons (.assign "_law_text" (.call "_law_spoilt" (.cons (.var "_law_text") (.cons (.bin .add (.var "_law_cell") (.int 7)) (.cons (.sub (.list (.cons (.int 2) (.cons (.int 2) (.cons (.int 2) (.cons (.int 4) (.cons (.int 5) (.cons (.int 1) .nil))))))) (.call "_law_mixed" (.cons (.var "_law_cell") (.cons (.int 3) (.cons (.int 6) .nil))))) .nil)))))
  .nil)
  .nil)
  .nil))
  .nil)
  (.cons (.assign "_law_due_here" (.call "_law_due" (.cons (.var "_law_text") .nil)))
  (.cons (.assign "_law_found" (.call "_law_read" (.cons (.var "_law_text") .nil)))
  (.cons (.ite (.cmp (.sub (.var "_law_due_here") (.int 0)) (.cons .ne (.sub (.var "_law_found") (.int 0)) .nil))
  (.cons (.ret (.bool false))
  .nil)
  .nil)
  (.cons (.ite (.cmp (.sub (.var "_law_due_here") (.int 0)) (.cons .ne (.str "") .nil))
  (.cons (.ret (.bool true))
  .nil)
  .nil)
  (.cons (.assign "_law_train" (.sub (.var "_law_found") (.int 1)))
  (.cons (.ite (.or (.cons (.cmp (.meth (.var "_law_train") "size" .nil) (.cons .ne (.tup (.cons (.sub (.sub (.var "_law_due_here") (.int 2)) (.int 0)) (.cons (.sub (.sub (.var "_law_due_here") (.int 2)) (.int 1)) .nil))) .nil)) (.cons (.not (.call "_law_numbers" (.cons (.meth (.var "_law_train") "tickets" .nil) (.cons (.sub (.var "_law_due_here") (.int 3)) .nil)))) .nil)))
  (.cons (.ret (.bool false))
  .nil)
  .nil)
  (.cons (.for_ "_law_k" (.bi "range" (.cons (.bi "len" (.cons (.sub (.var "_law_due_here") (.int 3)) .nil)) .nil))
  (.cons (.ite (.not (.call "_law_rows" (.cons (.meth (.var "_law_train") "parts" (.cons (.sub (.sub (.var "_law_due_here") (.int 3)) (.var "_law_k")) .nil)) (.cons (.sub (.sub (.var "_law_due_here") (.int 1)) (.var "_law_k")) .nil))))
  (.cons (.ret (.bool false))
  .nil)
  .nil)
  .nil))
  (.cons (.ite (.cmp (.call "written" (.cons (.var "_law_train") .nil)) (.cons .ne (.var "_law_text") .nil))
  (.cons (.ret (.bool false))
  .nil)
  .nil)
  (.cons (.assign "_law_told_here" (.call "_law_word" (.cons (.var "_law_train") (.cons (.tup (.cons (.str "sell") (.cons (.int 0) (.cons (.bin .sub (.sub (.sub (.var "_law_due_here") (.int 2)) (.int 1)) (.int 1)) .nil)))) .nil))))
  (.cons (.ret (.or (.cons (.cmp (.sub (.var "_law_told_here") (.int 0)) (.cons .eq (.str "full") .nil)) (.cons (.and (.cons (.cmp (.sub (.var "_law_told_here") (.int 0)) (.cons .eq (.str "") .nil)) (.cons (.call "_law_whole" (.cons (.sub (.var "_law_told_here") (.int 1)) .nil)) (.cons (.cmp (.sub (.var "_law_told_here") (.int 1)) (.cons .eq (.sub (.sub (.var "_law_due_here") (.int 2)) (.int 2)) .nil)) .nil)))) .nil))))
  .nil)))))))))))))))⟩
noncomputable def f__law_whole : MFn := ⟨["_law_found"],
  (.cons (.ret (.and (.cons (.isinst (.var "_law_found") "int") (.cons (.not (.isinst (.var "_law_found") "bool")) .nil))))
  .nil)⟩
noncomputable def f__law_word : MFn := ⟨["_law_train", "_law_deed"],
  (.cons (.try_ (.cons (.ret (.tup (.cons (.str "") (.cons (.call "_law_told" (.cons (.var "_law_train") (.cons (.var "_law_deed") .nil))) .nil))))
  .nil) "_law_e"
  (.cons (.ret (.tup (.cons (.call "_law_class" (.cons (.var "_law_e") .nil)) (.cons .none .nil))))
  .nil))
  .nil)⟩
noncomputable def f_written : MFn := ⟨["train"],
  (.cons (.assign "lines" (.list (.cons (.call "line_of" (.cons (.str "train") (.cons (.bin .add (.bi "list" (.cons (.meth (.var "train") "size" .nil) .nil)) (.list (.cons (.attr (.var "train") "coming") .nil))) .nil))) .nil)))
  (.cons (.for_ "ticket" (.meth (.var "train") "tickets" .nil)
  (.cons (.assign "numbers" (.list (.cons (.var "ticket") .nil)))
  (.cons (.for_ "part" (.meth (.var "train") "parts" (.cons (.var "ticket") .nil))
  (.cons (.assign "numbers" (.bin .add (.var "numbers") (.bi "list" (.cons (.var "part") .nil))))
  .nil))
  (.cons (.expr (.bm (.var "lines") "append" (.cons (.call "line_of" (.cons (.str "ticket") (.cons (.var "numbers") .nil))) .nil)))
  .nil))))
  (.cons (.ret (.bm (.str "\n") "join" (.cons (.var "lines") .nil)))
  .nil)))⟩
noncomputable def f__law_rows : MFn := ⟨["_law_found", "_law_due_here"],
  (.cons (.ite (.or (.cons (.not (.isinst (.var "_law_found") "list")) (.cons (.cmp (.bi "len" (.cons (.var "_law_found") .nil)) (.cons .ne (.bi "len" (.cons (.var "_law_due_here") .nil)) .nil)) .nil)))
  (.cons (.ret (.bool false))
  .nil)
  .nil)
  (.cons (.for_ "_law_k" (.bi "range" (.cons (.bi "len" (.cons (.var "_law_due_here") .nil)) .nil))
  (.cons (.ite (.or (.cons (.not (.isinst (.sub (.var "_law_found") (.var "_law_k")) "tuple")) (.cons (.cmp (.bi "len" (.cons (.sub (.var "_law_found") (.var "_law_k")) .nil)) (.cons .ne (.bi "len" (.cons (.sub (.var "_law_due_here") (.var "_law_k")) .nil)) .nil)) .nil)))
  (.cons (.ret (.bool false))
  .nil)
  .nil)
  (.cons (.ite (.or (.cons (.not (.bi "all" (.cons (.comp (.call "_law_whole" (.cons (.var "_law_one") .nil)) "_law_one" (.sub (.var "_law_found") (.var "_law_k")) (.bool true)) .nil))) (.cons (.cmp (.sub (.var "_law_found") (.var "_law_k")) (.cons .ne (.sub (.var "_law_due_here") (.var "_law_k")) .nil)) .nil)))
  (.cons (.ret (.bool false))
  .nil)
  .nil)
  .nil)))
  (.cons (.ret (.bool true))
  .nil)))⟩
noncomputable def f_Train_parts : MFn := ⟨["self", "ticket"],
  (.cons (.expr (.meth (.var "self") "need_ticket" (.cons (.var "ticket") .nil)))
  (.cons (.ret (.bi "list" (.cons (.sub (.attr (.var "self") "rides") (.var "ticket")) .nil)))
  .nil))⟩
noncomputable def f__law_numbers : MFn := ⟨["_law_found", "_law_due_here"],
  (.cons (.ite (.or (.cons (.not (.isinst (.var "_law_found") "list")) (.cons (.cmp (.bi "len" (.cons (.var "_law_found") .nil)) (.cons .ne (.bi "len" (.cons (.var "_law_due_here") .nil)) .nil)) .nil)))
  (.cons (.ret (.bool false))
  .nil)
  .nil)
  (.cons (.for_ "_law_k" (.bi "range" (.cons (.bi "len" (.cons (.var "_law_due_here") .nil)) .nil))
  (.cons (.ite (.or (.cons (.not (.call "_law_whole" (.cons (.sub (.var "_law_found") (.var "_law_k")) .nil))) (.cons (.cmp (.sub (.var "_law_found") (.var "_law_k")) (.cons .ne (.sub (.var "_law_due_here") (.var "_law_k")) .nil)) .nil)))
  (.cons (.ret (.bool false))
  .nil)
  .nil)
  .nil))
  (.cons (.ret (.bool true))
  .nil)))⟩
noncomputable def f_Train_tickets : MFn := ⟨["self"],
  (.cons (.ret (.bi "sorted" (.cons (.bi "list" (.cons (.attr (.var "self") "rides") .nil)) .nil)))
  .nil)⟩
noncomputable def f_Train_size : MFn := ⟨["self"],
  (.cons (.ret (.tup (.cons (.attr (.var "self") "seats") (.cons (.attr (.var "self") "stops") .nil))))
  .nil)⟩
noncomputable def f__law_read : MFn := ⟨["_law_text"],
  (.cons (.try_ (.cons (.ret (.list (.cons (.str "") (.cons (.call "read" (.cons (.var "_law_text") .nil)) .nil))))
  .nil) "_law_e"
  (.cons (.ret (.list (.cons (.call "_law_class" (.cons (.var "_law_e") .nil)) .nil)))
  .nil))
  .nil)⟩
noncomputable def f__law_due : MFn := ⟨["_law_text"],
  (.cons (.assign "_law_rows_here" (.bm (.var "_law_text") "split" (.cons (.str "\n") .nil)))
  (.cons (.assign "_law_head" (.call "_law_numbers_of" (.cons (.sub (.var "_law_rows_here") (.int 0)) (.cons (.str "train") .nil))))
  (.cons (.assign "_law_tickets" (.comp (.call "_law_numbers_of" (.cons (.var "_law_row") (.cons (.str "ticket") .nil))) "_law_row" (.slice (.var "_law_rows_here") (.int 1) .none) (.bool true)))
  (.cons (.ite (.or (.cons (.cmp (.bi "len" (.cons (.var "_law_head") .nil)) (.cons .ne (.int 3) .nil)) (.cons (.not (.bi "all" (.cons (.comp (.and (.cons (.cmp (.bi "len" (.cons (.var "_law_one") .nil)) (.cons .gt (.int 3) .nil)) (.cons (.cmp (.bin .mod (.bi "len" (.cons (.var "_law_one") .nil)) (.int 3)) (.cons .eq (.int 1) .nil)) .nil))) "_law_one" (.var "_law_tickets") (.bool true)) .nil))) .nil)))
  (.cons (.ret (.list (.cons (.str "text") .nil)))
  .nil)
  .nil)
  (.cons (.ret (.bin .add (.call "_law_looked_at" (.cons (.var "_law_head") (.cons (.var "_law_tickets") .nil))) (.list (.cons (.var "_law_head") (.cons (.comp (.sub (.var "_law_one") (.int 0)) "_law_one" (.var "_law_tickets") (.bool true)) .nil)))))
  .nil)))))⟩
noncomputable def f__law_mixed : MFn := ⟨["_law_cell", "_law_k", "_law_many"],
  (.cons (.assign "_law_some" (.list (.cons (.int 99991) (.cons (.int 99989) (.cons (.int 99971) (.cons (.int 99961) (.cons (.int 99929) (.cons (.int 99923) (.cons (.int 99907) (.cons (.int 99901) (.cons (.int 99881) (.cons (.int 99877) (.cons (.int 99871) .nil)))))))))))))
  (.cons (.assign "_law_made" (.bin .mod (.bin .mul (.bin .add (.var "_law_cell") (.bin .mul (.int 7) (.var "_law_k"))) (.int 48271)) (.sub (.var "_law_some") (.bin .mod (.var "_law_k") (.int 11)))))
  (.cons (.ret (.bin .mod (.bin .mod (.bin .add (.bin .add (.bin .mul (.bin .mul (.var "_law_made") (.var "_law_made")) (.int 7)) (.var "_law_made")) (.var "_law_k")) (.int 1000003)) (.var "_law_many")))
  .nil)))⟩
noncomputable def f__law_spoilt : MFn := ⟨["_law_text", "_law_cell", "_law_way"],
  (.cons (.assign "_law_rows_here" (.bm (.var "_law_text") "split" (.cons (.str "\n") .nil)))
  (.cons (.assign "_law_at" (.call "_law_mixed" (.cons (.var "_law_cell") (.cons (.int 1) (.cons (.bi "len" (.cons (.var "_law_rows_here") .nil)) .nil)))))
  (.cons (.ite (.cmp (.var "_law_way") (.cons .lt (.int 2) .nil))
  (.cons (.assign "_law_spot" (.call "_law_mixed" (.cons (.var "_law_cell") (.cons (.int 2) (.cons (.bi "len" (.cons (.var "_law_text") .nil)) .nil)))))
  (.cons (.ite (.cmp (.var "_law_way") (.cons .eq (.int 0) .nil))
  (.cons (.ret (.bin .add (.slice (.var "_law_text") .none (.var "_law_spot")) (.slice (.var "_law_text") (.bin .add (.var "_law_spot") (.int 1)) .none)))
  .nil)
  .nil)
  (.cons (.ret (.bin .add (.bin .add (.slice (.var "_law_text") .none (.var "_law_spot")) (.call "_law_sign_by" (.cons (.var "_law_cell") .nil))) (.slice (.var "_law_text") (.bin .add (.var "_law_spot") (.bin .mod (.bin .fdiv (.var "_law_cell") (.int 96)) (.int 2))) .none)))
  .nil)))
  .nil)
  (.cons (.ite (.cmp (.call "_law_mixed" (.cons (.var "_law_cell") (.cons (.int 9) (.cons (.int 2) .nil)))) (.cons .eq (.int 1) .nil))
  (.cons (.assign "_law_at" (.bin .sub (.bi "len" (.cons (.var "_law_rows_here") .nil)) (.int 1)))
  .nil)
  .nil)
  (.cons (.assign "_law_words" (.bm (.sub (.var "_law_rows_here") (.var "_law_at")) "split" (.cons (.str " ") .nil)))
  (.cons (.ite (.cmp (.var "_law_way") (.cons .eq (.int 2) .nil))
  (.cons (.setIdx (.var "_law_rows_here") (.var "_law_at") (.bm (.str " ") "join" (.cons (.call "_law_figure_spoilt" (.cons (.var "_law_words") (.cons (.var "_law_cell") .nil))) .nil)))
  .nil)
  .nil)
  (.cons (.ite (.cmp (.var "_law_way") (.cons .eq (.int 3) .nil))
  (.cons (.assign "_law_other" (.call "_law_mixed" (.cons (.var "_law_cell") (.cons (.int 5) (.cons (.bi "len" (.cons (.var "_law_rows_here") .nil)) .nil)))))
  (.cons (.assign "_law_kept" (.sub (.var "_law_rows_here") (.var "_law_at")))
  (.cons (.setIdx (.var "_law_rows_here") (.var "_law_at") (.sub (.var "_law_rows_here") (.var "_law_other")))
  (.cons (.setIdx (.var "_law_rows_here") (.var "_law_other") (.var "_law_kept"))
  .nil))))
  .nil)
  (.cons (.ite (.cmp (.var "_law_way") (.cons .eq (.int 4) .nil))
  (.cons (.expr (.bm (.var "_law_rows_here") "insert" (.cons (.bin .add (.var "_law_at") (.int 1)) (.cons (.sub (.var "_law_rows_here") (.var "_law_at")) .nil))))
  (.cons (.ite (.cmp (.call "_law_mixed" (.cons (.var "_law_cell") (.cons (.int 10) (.cons (.int 2) .nil)))) (.cons .eq (.int 1) .nil))
  (.cons (.setIdx (.var "_law_rows_here") (.var "_law_at") (.bm (.str " ") "join" (.cons (.slice (.var "_law_words") .none (.bin .sub (.bin .sub (.bi "len" (.cons (.var "_law_words") .nil)) (.int 1)) (.call "_law_mixed" (.cons (.var "_law_cell") (.cons (.int 3) (.cons (.int 4) .nil)))))) .nil)))
  .nil)
  .nil)
  .nil))
  .nil)
  (.cons (.ite (.cmp (.var "_law_way") (.cons .eq (.int 5) .nil))
  (.cons (.expr (.bm (.var "_law_rows_here") "insert" (.cons (.bin .add (.var "_law_at") (.call "_law_mixed" (.cons (.var "_law_cell") (.cons (.int 10) (.cons (.int 3) .nil))))) (.cons (.call "_law_odd_row" (.cons (.call "_law_mixed" (.cons (.var "_law_cell") (.cons (.int 8) (.cons (.int 12) .nil)))) .nil)) .nil))))
  .nil)
  .nil)
  (.cons (.ret (.bm (.str "\n") "join" (.cons (.var "_law_rows_here") .nil)))
  .nil))))))))))⟩
noncomputable def f__law_cell_at : MFn := ⟨["_law_script", "_law_k"],
  (.cons (.ite (.cmp (.var "_law_k") (.cons .lt (.bi "len" (.cons (.var "_law_script") .nil)) .nil))
  (.cons (.ret (.sub (.var "_law_script") (.var "_law_k")))
  .nil)
  .nil)
  (.cons (.ret (.int 0))
  .nil))⟩
noncomputable def f__law_changing : MFn := ⟨["_law_cell"],
  (.cons (.assign "_law_seats_here" (.bin .add (.int 2) (.bin .mod (.var "_law_cell") (.int 3))))
  (.cons (.assign "_law_stops_here" (.bin .add (.int 3) (.bin .mod (.bin .fdiv (.var "_law_cell") (.int 3)) (.int 7))))
  (.cons (.assign "_law_many" (.bin .add (.int 1) (.bin .mod (.bin .fdiv (.var "_law_cell") (.int 21)) (.var "_law_seats_here"))))
  (.cons (.assign "_law_rows_here" (.list (.cons (.bm (.str " ") "join" (.cons (.list (.cons (.str "train") (.cons (.bi "str" (.cons (.var "_law_seats_here") .nil)) (.cons (.bi "str" (.cons (.var "_law_stops_here") .nil)) (.cons (.bi "str" (.cons (.bin .add (.var "_law_many") (.bin .mod (.bin .fdiv (.var "_law_cell") (.int 63)) (.int 3))) .nil)) .nil))))) .nil)) .nil)))
  (.cons (.for_ "_law_ticket" (.bi "range" (.cons (.var "_law_many") .nil))
  (.cons (.assign "_law_words" (.list (.cons (.str "ticket") (.cons (.bi "str" (.cons (.var "_law_ticket") .nil)) .nil))))
  (.cons (.for_ "_law_leg" (.bi "range" (.cons (.bin .sub (.var "_law_stops_here") (.int 1)) .nil))
  (.cons (.assign "_law_words" (.bin .add (.var "_law_words") (.list (.cons (.bi "str" (.cons (.bin .mod (.bin .add (.var "_law_leg") (.var "_law_ticket")) (.var "_law_seats_here")) .nil)) (.cons (.bi "str" (.cons (.var "_law_leg") .nil)) (.cons (.bi "str" (.cons (.bin .add (.var "_law_leg") (.int 1)) .nil)) .nil))))))
  .nil))
  (.cons (.expr (.bm (.var "_law_rows_here") "append" (.cons (.bm (.str " ") "join" (.cons (.var "_law_words") .nil)) .nil)))
  .nil))))
  (.cons (.ret (.bm (.str "\n") "join" (.cons (.var "_law_rows_here") .nil)))
  .nil))))))⟩
noncomputable def f__law_run : MFn := ⟨["_law_script"],
  (.cons (.assign "_law_seats_here" (.call "_law_seats" (.cons (.call "_law_cell_at" (.cons (.var "_law_script") (.cons (.int 0) .nil))) .nil)))
  (.cons (.assign "_law_stops_here" (.call "_law_stops" (.cons (.call "_law_cell_at" (.cons (.var "_law_script") (.cons (.int 1) .nil))) .nil)))
  (.cons (.assign "_law_train" (.mk (.cons (.var "_law_seats_here") (.cons (.var "_law_stops_here") .nil))))
  (.cons (.assign "_law_sold" (.list .nil))
  (.cons (.for_ "_law_cell" (.call "_law_cells" (.cons (.var "_law_script") .nil))
  (.cons (.assign "_law_deed" (.call "_law_deed_by" (.cons (.var "_law_cell") (.cons (.var "_law_sold") (.cons (.var "_law_stops_here") .nil)))))
  (.cons (.assign "_law_told_here" (.call "_law_word" (.cons (.var "_law_train") (.cons (.var "_law_deed") .nil))))
  (.cons (.ite (.and (.cons (.cmp (.sub (.var "_law_told_here") (.int 0)) (.cons .eq (.str "") .nil)) (.cons (.cmp (.sub (.var "_law_deed") (.int 0)) (.cons .eq (.str "sell") .nil)) .nil)))
  (.cons (.expr (.bm (.var "_law_sold") "append" (.cons (.sub (.var "_law_told_here") (.int 1)) .nil)))
  .nil)
  .nil)
  (.cons (.ite (.and (.cons (.cmp (.sub (.var "_law_told_here") (.int 0)) (.cons .eq (.str "") .nil)) (.cons (.cmp (.sub (.var "_law_deed") (.int 0)) (.cons .eq (.str "back") .nil)) .nil)))
  (.cons (.expr (.bm (.var "_law_sold") "remove" (.cons (.sub (.var "_law_deed") (.int 1)) .nil)))
  .nil)
  .nil)
  .nil)))))
  (.cons (.ret (.list (.cons (.var "_law_train") (.cons (.var "_law_sold") .nil))))
  .nil))))))⟩
noncomputable def f__law_told : MFn := ⟨["_law_train", "_law_deed"],
  (.cons (.ite (.cmp (.sub (.var "_law_deed") (.int 0)) (.cons .eq (.str "sell") .nil))
  (.cons (.ret (.meth (.var "_law_train") "sell" (.cons (.sub (.var "_law_deed") (.int 1)) (.cons (.sub (.var "_law_deed") (.int 2)) .nil))))
  .nil)
  .nil)
  (.cons (.ite (.cmp (.sub (.var "_law_deed") (.int 0)) (.cons .eq (.str "back") .nil))
  (.cons (.ret (.meth (.var "_law_train") "back" (.cons (.sub (.var "_law_deed") (.int 1)) .nil)))
  .nil)
  .nil)
  (.cons (.ite (.cmp (.sub (.var "_law_deed") (.int 0)) (.cons .eq (.str "leave") .nil))
  (.cons (.ret (.meth (.var "_law_train") "leave" (.cons (.sub (.var "_law_deed") (.int 1)) (.cons (.sub (.var "_law_deed") (.int 2)) .nil))))
  .nil)
  .nil)
  (.cons (.ret (.meth (.var "_law_train") "reseat" (.cons (.sub (.var "_law_deed") (.int 1)) .nil)))
  .nil))))⟩
noncomputable def f__law_class : MFn := ⟨["_law_e"],
  (.cons (.assign "_law_words" (.list .nil))
  (.cons (.ite (.isinst (.var "_law_e") "NoTrain")
  (.cons (.expr (.bm (.var "_law_words") "append" (.cons (.str "train") .nil)))
  .nil)
  .nil)
  (.cons (.ite (.isinst (.var "_law_e") "NoStretch")
  (.cons (.expr (.bm (.var "_law_words") "append" (.cons (.str "stretch") .nil)))
  .nil)
  .nil)
  (.cons (.ite (.isinst (.var "_law_e") "NoSeat")
  (.cons (.expr (.bm (.var "_law_words") "append" (.cons (.str "seat") .nil)))
  .nil)
  .nil)
  (.cons (.ite (.isinst (.var "_law_e") "NoStop")
  (.cons (.expr (.bm (.var "_law_words") "append" (.cons (.str "stop") .nil)))
  .nil)
  .nil)
  (.cons (.ite (.isinst (.var "_law_e") "NoLeg")
  (.cons (.expr (.bm (.var "_law_words") "append" (.cons (.str "leg") .nil)))
  .nil)
  .nil)
  (.cons (.ite (.isinst (.var "_law_e") "NoTicket")
  (.cons (.expr (.bm (.var "_law_words") "append" (.cons (.str "ticket") .nil)))
  .nil)
  .nil)
  (.cons (.ite (.isinst (.var "_law_e") "Full")
  (.cons (.expr (.bm (.var "_law_words") "append" (.cons (.str "full") .nil)))
  .nil)
  .nil)
  (.cons (.ite (.isinst (.var "_law_e") "Shared")
  (.cons (.expr (.bm (.var "_law_words") "append" (.cons (.str "shared") .nil)))
  .nil)
  .nil)
  (.cons (.ite (.isinst (.var "_law_e") "NoText")
  (.cons (.expr (.bm (.var "_law_words") "append" (.cons (.str "text") .nil)))
  .nil)
  .nil)
  (.cons (.ite (.and (.cons (.cmp (.bi "len" (.cons (.var "_law_words") .nil)) (.cons .eq (.int 1) .nil)) (.cons (.isinst (.var "_law_e") "ValueError") .nil)))
  (.cons (.ret (.sub (.var "_law_words") (.int 0)))
  .nil)
  .nil)
  (.cons (.ret (.str "other"))
  .nil))))))))))))⟩
noncomputable def f_line_of : MFn := ⟨["word", "numbers"],
  (.cons (.ret (.bm (.str " ") "join" (.cons (.bin .add (.list (.cons (.var "word") .nil)) (.comp (.bi "str" (.cons (.var "number") .nil)) "number" (.var "numbers") (.bool true))) .nil)))
  .nil)⟩
noncomputable def f_Train_need_ticket : MFn := ⟨["self", "ticket"],
  (.cons (.ite (.cmp (.var "ticket") (.cons .notin (.attr (.var "self") "rides") .nil))
  (.cons (.raise "NoTicket" "no such ticket")
  .nil)
  .nil)
  .nil)⟩
noncomputable def f_read : MFn := ⟨["text"],
  (.cons (.ite (.not (.isinst (.var "text") "str"))
  (.cons (.raise "NoText" "no text")
  .nil)
  .nil)
  (.cons (.assign "lines" (.bm (.var "text") "split" (.cons (.str "\n") .nil)))
  (.cons (.assign "head" (.call "numbers_of" (.cons (.sub (.var "lines") (.int 0)) (.cons (.str "train") .nil))))
  (.cons (.ite (.cmp (.bi "len" (.cons (.var "head") .nil)) (.cons .ne (.int 3) .nil))
  (.cons (.raise "NoText" "no train's row")
  .nil)
  .nil)
  (.cons (.assign "rows" (.list .nil))
  (.cons (.for_ "line" (.slice (.var "lines") (.int 1) .none)
  (.cons (.assign "numbers" (.call "numbers_of" (.cons (.var "line") (.cons (.str "ticket") .nil))))
  (.cons (.ite (.or (.cons (.cmp (.bi "len" (.cons (.var "numbers") .nil)) (.cons .lt (.int 4) .nil)) (.cons (.cmp (.bin .mod (.bi "len" (.cons (.var "numbers") .nil)) (.int 3)) (.cons .ne (.int 1) .nil)) .nil)))
  (.cons (.raise "NoText" "no ticket's row")
  .nil)
  .nil)
  (.cons (.expr (.bm (.var "rows") "append" (.cons (.var "numbers") .nil)))
  .nil))))
  (.cons (.assign "train" (.mk (.cons (.sub (.var "head") (.int 0)) (.cons (.sub (.var "head") (.int 1)) .nil))))
  (.cons (.assign "last" (.neg (.int 1)))
  (.cons (.for_ "numbers" (.var "rows")
  (.cons (.ite (.not (.cmp (.var "last") (.cons .lt (.sub (.var "numbers") (.int 0)) (.cons .lt (.sub (.var "head") (.int 2)) .nil))))
  (.cons (.raise "NoTicket" "no such ticket")
  .nil)
  .nil)
  (.cons (.assign "last" (.sub (.var "numbers") (.int 0)))
  (.cons (.expr (.call "seat_ticket" (.cons (.var "train") (.cons (.var "numbers") .nil))))
  .nil))))
  (.cons (.expr (.meth (.var "train") "start_at" (.cons (.sub (.var "head") (.int 2)) .nil)))
  (.cons (.ret (.var "train"))
  .nil)))))))))))⟩
noncomputable def f__law_looked_at : MFn := ⟨["_law_head", "_law_tickets"],
  (.cons (.ite (.or (.cons (.cmp (.sub (.var "_law_head") (.int 0)) (.cons .lt (.int 1) .nil)) (.cons (.cmp (.sub (.var "_law_head") (.int 0)) (.cons .gt (.int 60) .nil)) (.cons (.cmp (.sub (.var "_law_head") (.int 1)) (.cons .lt (.int 2) .nil)) (.cons (.cmp (.sub (.var "_law_head") (.int 1)) (.cons .gt (.int 60) .nil)) .nil)))))
  (.cons (.ret (.list (.cons (.str "train") .nil)))
  .nil)
  .nil)
  (.cons (.assign "_law_rows_here" (.comp (.bin .mul (.list (.cons .none .nil)) (.bin .sub (.sub (.var "_law_head") (.int 1)) (.int 1))) "_law_seat" (.bi "range" (.cons (.sub (.var "_law_head") (.int 0)) .nil)) (.bool true)))
  (.cons (.assign "_law_least" (.int 0))
  (.cons (.assign "_law_found" (.list .nil))
  (.cons (.for_ "_law_one" (.var "_law_tickets")
  (.cons (.ite (.or (.cons (.cmp (.sub (.var "_law_one") (.int 0)) (.cons .lt (.var "_law_least") .nil)) (.cons (.cmp (.sub (.var "_law_one") (.int 0)) (.cons .ge (.sub (.var "_law_head") (.int 2)) .nil)) .nil)))
  (.cons (.ret (.list (.cons (.str "ticket") .nil)))
  .nil)
  .nil)
  (.cons (.assign "_law_least" (.bin .add (.sub (.var "_law_one") (.int 0)) (.int 1)))
  (.cons (.assign "_law_some" (.list .nil))
  (.cons (.for_ "_law_k" (.bi "range" (.cons (.int 1) (.cons (.bi "len" (.cons (.var "_law_one") .nil)) (.cons (.int 3) .nil))))
  (.cons (.assign "_law_part" (.tup (.cons (.sub (.var "_law_one") (.var "_law_k")) (.cons (.sub (.var "_law_one") (.bin .add (.var "_law_k") (.int 1))) (.cons (.sub (.var "_law_one") (.bin .add (.var "_law_k") (.int 2))) .nil)))))
  (.cons (.assign "_law_word_here" (.call "_law_part_word" (.cons (.var "_law_rows_here") (.cons (.var "_law_some") (.cons (.var "_law_part") .nil)))))
  (.cons (.ite (.cmp (.var "_law_word_here") (.cons .ne (.str "") .nil))
  (.cons (.ret (.list (.cons (.var "_law_word_here") .nil)))
  .nil)
  .nil)
  (.cons (.expr (.bm (.var "_law_some") "append" (.cons (.var "_law_part") .nil)))
  (.cons (.for_ "_law_leg" (.bi "range" (.cons (.sub (.var "_law_part") (.int 1)) (.cons (.sub (.var "_law_part") (.int 2)) .nil)))
  (.cons (.setIdx (.sub (.var "_law_rows_here") (.sub (.var "_law_part") (.int 0))) (.var "_law_leg") (.sub (.var "_law_one") (.int 0)))
  .nil))
  .nil))))))
  (.cons (.expr (.bm (.var "_law_found") "append" (.cons (.var "_law_some") .nil)))
  .nil))))))
  (.cons (.ret (.list (.cons (.str "") (.cons (.var "_law_found") .nil))))
  .nil))))))⟩
noncomputable def f__law_numbers_of : MFn := ⟨["_law_row", "_law_word_here"],
  (.cons (.assign "_law_words" (.bm (.var "_law_row") "split" (.cons (.str " ") .nil)))
  (.cons (.assign "_law_found" (.comp (.call "_law_figures" (.cons (.var "_law_one") .nil)) "_law_one" (.slice (.var "_law_words") (.int 1) .none) (.bool true)))
  (.cons (.ite (.or (.cons (.cmp (.sub (.var "_law_words") (.int 0)) (.cons .ne (.var "_law_word_here") .nil)) (.cons (.cmp (.neg (.int 1)) (.cons .isin (.var "_law_found") .nil)) .nil)))
  (.cons (.ret (.list .nil))
  .nil)
  .nil)
  (.cons (.ret (.var "_law_found"))
  .nil))))⟩
noncomputable def f__law_odd_row : MFn := ⟨["_law_cell"],
  (.cons (.assign "_law_some" (.list (.cons (.str "") (.cons (.str " ") (.cons (.str "ticket") (.cons (.str "ticket 0") (.cons (.str "ticket 1 0 0") (.cons (.str "Ticket 0 0 0 1") (.cons (.str "ticket  0 0 0 1") (.cons (.str "ticket 0 0 0 1 ") .nil))))))))))
  (.cons (.ret (.sub (.bin .add (.var "_law_some") (.list (.cons (.str "train 1 2 0") (.cons (.str "ticket 00 0 0 1") (.cons (.str "ticket 0 0 0 +1") (.cons (.str "seat 0 0 0 1") .nil)))))) (.bin .mod (.var "_law_cell") (.int 12))))
  .nil))⟩
noncomputable def f__law_figure_spoilt : MFn := ⟨["_law_words", "_law_cell"],
  (.cons (.ite (.cmp (.bi "len" (.cons (.var "_law_words") .nil)) (.cons .lt (.int 2) .nil))
  (.cons (.ret (.var "_law_words"))
  .nil)
  .nil)
  (.cons (.assign "_law_spot" (.bin .add (.int 1) (.call "_law_mixed" (.cons (.var "_law_cell") (.cons (.int 3) (.cons (.bin .sub (.bi "len" (.cons (.var "_law_words") .nil)) (.int 1)) .nil))))))
  (.cons (.assign "_law_was" (.bi "max" (.cons (.int 0) (.cons (.call "_law_figures" (.cons (.sub (.var "_law_words") (.var "_law_spot")) .nil)) .nil))))
  (.cons (.assign "_law_made" (.sub (.list (.cons (.bin .add (.var "_law_was") (.int 1)) (.cons (.bin .add (.var "_law_was") (.int 1)) (.cons (.bi "max" (.cons (.int 0) (.cons (.bin .sub (.var "_law_was") (.int 1)) .nil))) (.cons (.int 0) (.cons (.int 1) (.cons (.int 59) (.cons (.int 60) (.cons (.int 61) (.cons (.bin .mod (.var "_law_cell") (.bin .pow (.int 10) (.int 12))) .nil)))))))))) (.call "_law_mixed" (.cons (.var "_law_cell") (.cons (.int 4) (.cons (.int 9) .nil))))))
  (.cons (.setIdx (.var "_law_words") (.var "_law_spot") (.bi "str" (.cons (.var "_law_made") .nil)))
  (.cons (.ite (.cmp (.call "_law_mixed" (.cons (.var "_law_cell") (.cons (.int 7) (.cons (.int 4) .nil)))) (.cons .eq (.int 1) .nil))
  (.cons (.setIdx (.var "_law_words") (.var "_law_spot") (.bin .add (.str "0") (.sub (.var "_law_words") (.var "_law_spot"))))
  .nil)
  .nil)
  (.cons (.ite (.and (.cons (.cmp (.call "_law_mixed" (.cons (.var "_law_cell") (.cons (.int 8) (.cons (.int 3) .nil)))) (.cons .eq (.int 1) .nil)) (.cons (.cmp (.bi "len" (.cons (.var "_law_words") .nil)) (.cons .gt (.int 6) .nil)) .nil)))
  (.cons (.setIdx (.var "_law_words") (.int 5) (.sub (.var "_law_words") (.int 2)))
  .nil)
  .nil)
  (.cons (.ret (.var "_law_words"))
  .nil))))))))⟩
noncomputable def f__law_sign_by : MFn := ⟨["_law_cell"],
  (.cons (.assign "_law_some" (.str " !\"#$&'()*+,-./0123456789:;<=>?@ABCDEFGHIJKLMNOPQRSTUVWXYZ[\\]^_`"))
  (.cons (.assign "_law_some" (.bin .add (.var "_law_some") (.str "abcdefghijklmnopqrstuvwxyz{|}~\n\t")))
  (.cons (.ret (.sub (.var "_law_some") (.bin .mod (.var "_law_cell") (.int 96))))
  .nil)))⟩
noncomputable def f__law_cells : MFn := ⟨["_law_script"],
  (.cons (.assign "_law_far" (.call "_law_cell_at" (.cons (.var "_law_script") (.cons (.int 2) .nil))))
  (.cons (.assign "_law_seats_here" (.call "_law_seats" (.cons (.call "_law_cell_at" (.cons (.var "_law_script") (.cons (.int 0) .nil))) .nil)))
  (.cons (.assign "_law_stops_here" (.call "_law_stops" (.cons (.call "_law_cell_at" (.cons (.var "_law_script") (.cons (.int 1) .nil))) .nil)))
  (.cons (.ite (.and (.cons (.cmp (.bin .mod (.var "_law_far") (.int 4)) (.cons .eq (.int 3) .nil)) (.cons (.cmp (.bin .mul (.var "_law_seats_here") (.var "_law_stops_here")) (.cons .lt (.int 240) .nil)) .nil)))
  (.cons (.ret (.bin .add (.call "_law_laid" (.cons (.var "_law_seats_here") (.cons (.var "_law_stops_here") (.cons (.bin .fdiv (.var "_law_far") (.int 8)) .nil)))) (.slice (.var "_law_script") (.int 3) (.int 40))))
  .nil)
  .nil)
  (.cons (.ite (.and (.cons (.cmp (.bin .mod (.var "_law_far") (.int 8)) (.cons .eq (.int 1) .nil)) (.cons (.cmp (.bin .mul (.var "_law_seats_here") (.var "_law_stops_here")) (.cons .lt (.int 900) .nil)) .nil)))
  (.cons (.ret (.bin .add (.comp (.bin .add (.bin .fdiv (.var "_law_far") (.int 8)) (.bin .mul (.int 17) (.var "_law_k"))) "_law_k" (.bi "range" (.cons (.bin .add (.int 60) (.bin .mod (.bin .fdiv (.var "_law_far") (.int 8)) (.int 90))) .nil)) (.bool true)) (.slice (.var "_law_script") (.int 3) (.int 13))))
  .nil)
  .nil)
  (.cons (.ite (.cmp (.bin .mod (.var "_law_far") (.int 8)) (.cons .eq (.int 2) .nil))
  (.cons (.ret (.bin .add (.comp (.bin .mul (.int 9) (.bin .add (.bin .fdiv (.var "_law_far") (.int 8)) (.bin .mul (.int 5) (.var "_law_k")))) "_law_k" (.bi "range" (.cons (.bin .add (.int 60) (.bin .mod (.bin .fdiv (.var "_law_far") (.int 8)) (.int 90))) .nil)) (.bool true)) (.slice (.var "_law_script") (.int 3) (.int 13))))
  .nil)
  .nil)
  (.cons (.ret (.slice (.var "_law_script") (.int 3) (.int 99)))
  .nil)))))))⟩
noncomputable def f__law_deed_by : MFn := ⟨["_law_cell", "_law_sold", "_law_stops_here"],
  (.cons (.ite (.isinst (.var "_law_cell") "tuple")
  (.cons (.ret (.var "_law_cell"))
  .nil)
  .nil)
  (.cons (.assign "_law_way" (.sub (.list (.cons (.int 0) (.cons (.int 0) (.cons (.int 0) (.cons (.int 0) (.cons (.int 1) (.cons (.int 2) (.cons (.int 3) (.cons (.int 0) (.cons (.int 4) .nil)))))))))) (.bin .mod (.var "_law_cell") (.int 9))))
  (.cons (.assign "_law_some" (.bin .add (.var "_law_sold") (.list (.cons (.int 0) .nil))))
  (.cons (.assign "_law_ticket" (.sub (.var "_law_some") (.call "_law_mixed" (.cons (.var "_law_cell") (.cons (.int 3) (.cons (.bi "max" (.cons (.int 1) (.cons (.bi "len" (.cons (.var "_law_sold") .nil)) .nil))) .nil))))))
  (.cons (.ite (.cmp (.var "_law_way") (.cons .eq (.int 1) .nil))
  (.cons (.ret (.tup (.cons (.str "back") (.cons (.var "_law_ticket") (.cons (.int 0) .nil)))))
  .nil)
  .nil)
  (.cons (.ite (.cmp (.var "_law_way") (.cons .eq (.int 2) .nil))
  (.cons (.ret (.tup (.cons (.str "leave") (.cons (.var "_law_ticket") (.cons (.bin .sub (.call "_law_mixed" (.cons (.var "_law_cell") (.cons (.int 4) (.cons (.bin .add (.var "_law_stops_here") (.int 2)) .nil)))) (.int 1)) .nil)))))
  .nil)
  .nil)
  (.cons (.ite (.cmp (.var "_law_way") (.cons .eq (.int 3) .nil))
  (.cons (.ret (.tup (.cons (.str "reseat") (.cons (.var "_law_ticket") (.cons (.int 0) .nil)))))
  .nil)
  .nil)
  (.cons (.ite (.and (.cons (.cmp (.var "_law_way") (.cons .eq (.int 4) .nil)) (.cons (.cmp (.bin .mod (.bin .fdiv (.var "_law_cell") (.int 9)) (.int 2)) (.cons .eq (.int 1) .nil)) .nil)))
  (.cons (.assign "_law_kind" (.sub (.list (.cons (.str "back") (.cons (.str "leave") (.cons (.str "reseat") .nil)))) (.bin .mod (.bin .fdiv (.var "_law_cell") (.int 18)) (.int 3))))
  (.cons (.ret (.tup (.cons (.var "_law_kind") (.cons (.sub (.list (.cons (.neg (.int 1)) (.cons (.bin .add (.bi "len" (.cons (.var "_law_sold") .nil)) (.int 400)) (.cons (.bin .add (.var "_law_ticket") (.int 1)) (.cons (.bin .pow (.int 10) (.int 12)) .nil))))) (.bin .mod (.bin .fdiv (.var "_law_cell") (.int 54)) (.int 4))) (.cons (.int 1) .nil)))))
  .nil))
  .nil)
  (.cons (.assign "_law_stretch" (.call "_law_stretch_by" (.cons (.var "_law_cell") (.cons (.var "_law_stops_here") .nil))))
  (.cons (.ite (.cmp (.var "_law_way") (.cons .eq (.int 4) .nil))
  (.cons (.assign "_law_end" (.sub (.list (.cons (.sub (.var "_law_stretch") (.int 0)) (.cons (.bin .sub (.sub (.var "_law_stretch") (.int 0)) (.int 1)) (.cons (.var "_law_stops_here") (.cons (.bin .pow (.int 10) (.int 12)) .nil))))) (.bin .mod (.bin .fdiv (.var "_law_cell") (.int 18)) (.int 4))))
  (.cons (.ret (.tup (.cons (.str "sell") (.cons (.sub (.list (.cons (.sub (.var "_law_stretch") (.int 0)) (.cons (.neg (.int 1)) .nil))) (.bin .mod (.bin .fdiv (.var "_law_cell") (.int 72)) (.int 2))) (.cons (.var "_law_end") .nil)))))
  .nil))
  .nil)
  (.cons (.ret (.tup (.cons (.str "sell") (.cons (.sub (.var "_law_stretch") (.int 0)) (.cons (.sub (.var "_law_stretch") (.int 1)) .nil)))))
  .nil)))))))))))⟩
noncomputable def f_Train_init : MFn := ⟨["self", "seats", "stops"],
  (.cons (.ite (.or (.cons (.not (.cmp (.int 1) (.cons .le (.var "seats") (.cons .le (.gconst "MOST" (.int 60)) .nil)))) (.cons (.not (.cmp (.int 2) (.cons .le (.var "stops") (.cons .le (.gconst "MOST" (.int 60)) .nil)))) .nil)))
  (.cons (.raise "NoTrain" "no such train")
  .nil)
  .nil)
  (.cons (.setAttr (.var "self") "seats" (.var "seats"))
  (.cons (.setAttr (.var "self") "stops" (.var "stops"))
  (.cons (.setAttr (.var "self") "coming" (.int 0))
  (.cons (.setAttr (.var "self") "rides" .dict)
  (.cons (.setAttr (.var "self") "held" (.comp (.bin .mul (.list (.cons .none .nil)) (.bin .sub (.var "stops") (.int 1))) "seat" (.bi "range" (.cons (.var "seats") .nil)) (.bool true)))
  .nil))))))⟩
noncomputable def f__law_stops : MFn := ⟨["_law_cell"],
  (.cons (.ite (.cmp (.bin .mod (.bin .fdiv (.var "_law_cell") (.int 8)) (.int 8)) (.cons .eq (.int 1) .nil))
  (.cons (.ret (.bin .add (.int 50) (.bin .mod (.bin .fdiv (.var "_law_cell") (.int 64)) (.int 11))))
  .nil)
  .nil)
  (.cons (.ite (.cmp (.bin .mod (.bin .fdiv (.var "_law_cell") (.int 8)) (.int 8)) (.cons .eq (.int 2) .nil))
  (.cons (.ret (.bin .add (.int 10) (.bin .mod (.bin .fdiv (.var "_law_cell") (.int 64)) (.int 40))))
  .nil)
  .nil)
  (.cons (.ret (.bin .add (.int 2) (.bin .mod (.var "_law_cell") (.int 8))))
  .nil)))⟩
noncomputable def f__law_seats : MFn := ⟨["_law_cell"],
  (.cons (.ite (.cmp (.bin .mod (.bin .fdiv (.var "_law_cell") (.int 5)) (.int 8)) (.cons .eq (.int 1) .nil))
  (.cons (.ret (.bin .add (.int 50) (.bin .mod (.bin .fdiv (.var "_law_cell") (.int 40)) (.int 11))))
  .nil)
  .nil)
  (.cons (.ite (.cmp (.bin .mod (.bin .fdiv (.var "_law_cell") (.int 5)) (.int 8)) (.cons .eq (.int 2) .nil))
  (.cons (.ret (.bin .add (.int 6) (.bin .mod (.bin .fdiv (.var "_law_cell") (.int 40)) (.int 44))))
  .nil)
  .nil)
  (.cons (.ret (.bin .add (.int 1) (.bin .mod (.var "_law_cell") (.int 5))))
  .nil)))⟩
noncomputable def f_Train_reseat : MFn := ⟨["self", "ticket"],
  (.cons (.expr (.meth (.var "self") "need_ticket" (.cons (.var "ticket") .nil)))
  (.cons (.assign "told" (.sub (.attr (.var "self") "rides") (.var "ticket")))
  (.cons (.expr (.meth (.var "self") "mark" (.cons (.var "told") (.cons .none .nil))))
  (.cons (.assign "again" (.meth (.var "self") "found" (.cons (.sub (.sub (.var "told") (.int 0)) (.int 1)) (.cons (.sub (.sub (.var "told") (.neg (.int 1))) (.int 2)) .nil))))
  (.cons (.setIdx (.attr (.var "self") "rides") (.var "ticket") (.var "again"))
  (.cons (.expr (.meth (.var "self") "mark" (.cons (.var "again") (.cons (.var "ticket") .nil))))
  (.cons (.ret (.bi "list" (.cons (.var "again") .nil)))
  .nil)))))))⟩
noncomputable def f_Train_leave : MFn := ⟨["self", "ticket", "stop"],
  (.cons (.expr (.meth (.var "self") "need_ticket" (.cons (.var "ticket") .nil)))
  (.cons (.assign "told" (.sub (.attr (.var "self") "rides") (.var "ticket")))
  (.cons (.ite (.not (.cmp (.sub (.sub (.var "told") (.int 0)) (.int 1)) (.cons .lt (.var "stop") (.cons .lt (.sub (.sub (.var "told") (.neg (.int 1))) (.int 2)) .nil))))
  (.cons (.raise "NoStop" "not within the stretch")
  .nil)
  .nil)
  (.cons (.assign "gone" (.comp (.tup (.cons (.sub (.var "part") (.int 0)) (.cons (.bi "max" (.cons (.sub (.var "part") (.int 1)) (.cons (.var "stop") .nil))) (.cons (.sub (.var "part") (.int 2)) .nil)))) "part" (.var "told") (.cmp (.sub (.var "part") (.int 2)) (.cons .gt (.var "stop") .nil))))
  (.cons (.expr (.meth (.var "self") "mark" (.cons (.var "gone") (.cons .none .nil))))
  (.cons (.setIdx (.attr (.var "self") "rides") (.var "ticket") (.comp (.tup (.cons (.sub (.var "part") (.int 0)) (.cons (.sub (.var "part") (.int 1)) (.cons (.bi "min" (.cons (.sub (.var "part") (.int 2)) (.cons (.var "stop") .nil))) .nil)))) "part" (.var "told") (.cmp (.sub (.var "part") (.int 1)) (.cons .lt (.var "stop") .nil))))
  (.cons (.ret (.var "gone"))
  .nil)))))))⟩
noncomputable def f_Train_back : MFn := ⟨["self", "ticket"],
  (.cons (.expr (.meth (.var "self") "need_ticket" (.cons (.var "ticket") .nil)))
  (.cons (.assign "told" (.bm (.attr (.var "self") "rides") "pop" (.cons (.var "ticket") .nil)))
  (.cons (.expr (.meth (.var "self") "mark" (.cons (.var "told") (.cons .none .nil))))
  (.cons (.ret (.bi "list" (.cons (.var "told") .nil)))
  .nil))))⟩
noncomputable def f_Train_sell : MFn := ⟨["self", "begin", "end"],
  (.cons (.assign "told" (.meth (.var "self") "row" (.cons (.var "begin") (.cons (.var "end") .nil))))
  (.cons (.assign "ticket" (.attr (.var "self") "coming"))
  (.cons (.setAttr (.var "self") "coming" (.bin .add (.var "ticket") (.int 1)))
  (.cons (.setIdx (.attr (.var "self") "rides") (.var "ticket") (.var "told"))
  (.cons (.expr (.meth (.var "self") "mark" (.cons (.var "told") (.cons (.var "ticket") .nil))))
  (.cons (.ret (.var "ticket"))
  .nil))))))⟩
noncomputable def f_Train_start_at : MFn := ⟨["self", "number"],
  (.cons (.setAttr (.var "self") "coming" (.var "number"))
  .nil)⟩
noncomputable def f_seat_ticket : MFn := ⟨["train", "numbers"],
  (.cons (.assign "told" (.list .nil))
  (.cons (.for_ "at" (.bi "range" (.cons (.int 1) (.cons (.bi "len" (.cons (.var "numbers") .nil)) (.cons (.int 3) .nil))))
  (.cons (.assign "part" (.tup (.cons (.sub (.var "numbers") (.var "at")) (.cons (.sub (.var "numbers") (.bin .add (.var "at") (.int 1))) (.cons (.sub (.var "numbers") (.bin .add (.var "at") (.int 2))) .nil)))))
  (.cons (.expr (.call "need_part" (.cons (.var "train") (.cons (.var "told") (.cons (.var "part") .nil)))))
  (.cons (.expr (.meth (.var "train") "hold" (.cons (.sub (.var "numbers") (.int 0)) (.cons (.var "part") .nil))))
  (.cons (.expr (.bm (.var "told") "append" (.cons (.var "part") .nil)))
  .nil)))))
  .nil))⟩
noncomputable def f_numbers_of : MFn := ⟨["line", "word"],
  (.cons (.assign "words" (.bm (.var "line") "split" (.cons (.str " ") .nil)))
  (.cons (.ite (.cmp (.sub (.var "words") (.int 0)) (.cons .ne (.var "word") .nil))
  (.cons (.raise "NoText" "no row")
  .nil)
  .nil)
  (.cons (.ret (.comp (.call "number_of" (.cons (.var "one") .nil)) "one" (.slice (.var "words") (.int 1) .none) (.bool true)))
  .nil)))⟩
noncomputable def f__law_part_word : MFn := ⟨["_law_rows_here", "_law_ahead", "_law_part"],
  (.cons (.ite (.cmp (.sub (.var "_law_part") (.int 0)) (.cons .ge (.bi "len" (.cons (.var "_law_rows_here") .nil)) .nil))
  (.cons (.ret (.str "seat"))
  .nil)
  .nil)
  (.cons (.ite (.or (.cons (.cmp (.sub (.var "_law_part") (.int 1)) (.cons .ge (.sub (.var "_law_part") (.int 2)) .nil)) (.cons (.cmp (.sub (.var "_law_part") (.int 2)) (.cons .gt (.bi "len" (.cons (.sub (.var "_law_rows_here") (.int 0)) .nil)) .nil)) .nil)))
  (.cons (.ret (.str "stretch"))
  .nil)
  .nil)
  (.cons (.ite (.and (.cons (.cmp (.bi "len" (.cons (.var "_law_ahead") .nil)) (.cons .gt (.int 0) .nil)) (.cons (.or (.cons (.cmp (.sub (.sub (.var "_law_ahead") (.neg (.int 1))) (.int 2)) (.cons .ne (.sub (.var "_law_part") (.int 1)) .nil)) (.cons (.cmp (.sub (.sub (.var "_law_ahead") (.neg (.int 1))) (.int 0)) (.cons .eq (.sub (.var "_law_part") (.int 0)) .nil)) .nil))) .nil)))
  (.cons (.ret (.str "stretch"))
  .nil)
  .nil)
  (.cons (.ite (.not (.bi "all" (.cons (.comp (.cmp (.sub (.sub (.var "_law_rows_here") (.sub (.var "_law_part") (.int 0))) (.var "_law_leg")) (.cons .is_ .none .nil)) "_law_leg" (.bi "range" (.cons (.sub (.var "_law_part") (.int 1)) (.cons (.sub (.var "_law_part") (.int 2)) .nil))) (.bool true)) .nil)))
  (.cons (.ret (.str "shared"))
  .nil)
  .nil)
  (.cons (.ret (.str ""))
  .nil)))))⟩
noncomputable def f__law_figures : MFn := ⟨["_law_word_here"],
  (.cons (.ite (.or (.cons (.cmp (.var "_law_word_here") (.cons .eq (.str "") .nil)) (.cons (.cmp (.bi "len" (.cons (.var "_law_word_here") .nil)) (.cons .gt (.int 9) .nil)) (.cons (.and (.cons (.cmp (.bi "len" (.cons (.var "_law_word_here") .nil)) (.cons .gt (.int 1) .nil)) (.cons (.cmp (.sub (.var "_law_word_here") (.int 0)) (.cons .eq (.str "0") .nil)) .nil))) .nil))))
  (.cons (.ret (.neg (.int 1)))
  .nil)
  .nil)
  (.cons (.ite (.not (.bi "all" (.cons (.comp (.cmp (.var "_law_sign") (.cons .isin (.str "0123456789") .nil)) "_law_sign" (.var "_law_word_here") (.bool true)) .nil)))
  (.cons (.ret (.neg (.int 1)))
  .nil)
  .nil)
  (.cons (.ret (.bi "int" (.cons (.var "_law_word_here") .nil)))
  .nil)))⟩
noncomputable def f__law_laid : MFn := ⟨["_law_seats_here", "_law_stops_here", "_law_far"],
  (.cons (.assign "_law_deeds" (.list .nil))
  (.cons (.for_ "_law_leg" (.bi "range" (.cons (.bin .sub (.var "_law_stops_here") (.int 1)) .nil))
  (.cons (.for_ "_law_seat" (.bi "range" (.cons (.var "_law_seats_here") .nil))
  (.cons (.expr (.bm (.var "_law_deeds") "append" (.cons (.tup (.cons (.str "sell") (.cons (.var "_law_leg") (.cons (.bin .add (.var "_law_leg") (.int 1)) .nil)))) .nil)))
  .nil))
  .nil))
  (.cons (.for_ "_law_leg" (.bi "range" (.cons (.bin .sub (.var "_law_stops_here") (.int 1)) .nil))
  (.cons (.expr (.bm (.var "_law_deeds") "append" (.cons (.tup (.cons (.str "back") (.cons (.bin .add (.bin .mul (.var "_law_leg") (.var "_law_seats_here")) (.bin .mod (.bin .add (.bin .mul (.var "_law_leg") (.bin .add (.int 1) (.bin .mod (.var "_law_far") (.int 3)))) (.bin .fdiv (.var "_law_far") (.int 3))) (.var "_law_seats_here"))) (.cons (.int 0) .nil)))) .nil)))
  .nil))
  (.cons (.assign "_law_whole_here" (.bin .mul (.var "_law_seats_here") (.bin .sub (.var "_law_stops_here") (.int 1))))
  (.cons (.ret (.bin .add (.var "_law_deeds") (.list (.cons (.tup (.cons (.str "sell") (.cons (.bin .mod (.bin .fdiv (.var "_law_far") (.int 9)) (.int 2)) (.cons (.bin .sub (.var "_law_stops_here") (.int 1)) .nil)))) (.cons (.tup (.cons (.str "leave") (.cons (.var "_law_whole_here") (.cons (.bin .mod (.bin .fdiv (.var "_law_far") (.int 18)) (.var "_law_stops_here")) .nil)))) (.cons (.tup (.cons (.str "reseat") (.cons (.var "_law_whole_here") (.cons (.int 0) .nil)))) .nil))))))
  .nil)))))⟩
noncomputable def f__law_stretch_by : MFn := ⟨["_law_cell", "_law_stops_here"],
  (.cons (.assign "_law_begin" (.call "_law_mixed" (.cons (.var "_law_cell") (.cons (.int 1) (.cons (.bin .sub (.var "_law_stops_here") (.int 1)) .nil)))))
  (.cons (.ite (.cmp (.bin .mod (.bin .fdiv (.var "_law_cell") (.int 9)) (.int 3)) (.cons .eq (.int 1) .nil))
  (.cons (.assign "_law_begin" (.int 0))
  .nil)
  .nil)
  (.cons (.assign "_law_end" (.bin .add (.bin .add (.var "_law_begin") (.int 1)) (.call "_law_mixed" (.cons (.var "_law_cell") (.cons (.int 2) (.cons (.bin .sub (.bin .sub (.var "_law_stops_here") (.int 1)) (.var "_law_begin")) .nil))))))
  (.cons (.ite (.cmp (.bin .mod (.bin .fdiv (.var "_law_cell") (.int 27)) (.int 3)) (.cons .eq (.int 1) .nil))
  (.cons (.assign "_law_end" (.bi "min" (.cons (.bin .add (.bin .add (.var "_law_begin") (.int 1)) (.bin .mod (.bin .fdiv (.var "_law_cell") (.int 81)) (.int 3))) (.cons (.bin .sub (.var "_law_stops_here") (.int 1)) .nil))))
  .nil)
  .nil)
  (.cons (.ret (.tup (.cons (.var "_law_begin") (.cons (.var "_law_end") .nil))))
  .nil)))))⟩
noncomputable def f_Train_mark : MFn := ⟨["self", "told", "ticket"],
  (.cons (.forT ["seat", "begin", "end"] (.var "told")
  (.cons (.for_ "leg" (.bi "range" (.cons (.var "begin") (.cons (.var "end") .nil)))
  (.cons (.setIdx (.sub (.attr (.var "self") "held") (.var "seat")) (.var "leg") (.var "ticket"))
  .nil))
  .nil))
  .nil)⟩
noncomputable def f_Train_found : MFn := ⟨["self", "begin", "end"],
  (.cons (.assign "told" (.list .nil))
  (.cons (.assign "at" (.var "begin"))
  (.cons (.whil (.cmp (.var "at") (.cons .lt (.var "end") .nil))
  (.cons (.assign "best" (.int 0))
  (.cons (.assign "to" (.bi "min" (.cons (.meth (.var "self") "leads" (.cons (.int 0) (.cons (.var "at") .nil))) (.cons (.var "end") .nil))))
  (.cons (.for_ "seat" (.bi "range" (.cons (.int 1) (.cons (.attr (.var "self") "seats") .nil)))
  (.cons (.assign "there" (.bi "min" (.cons (.meth (.var "self") "leads" (.cons (.var "seat") (.cons (.var "at") .nil))) (.cons (.var "end") .nil))))
  (.cons (.ite (.cmp (.var "there") (.cons .gt (.var "to") .nil))
  (.cons (.assign "best" (.var "seat"))
  (.cons (.assign "to" (.var "there"))
  .nil))
  .nil)
  .nil)))
  (.cons (.expr (.bm (.var "told") "append" (.cons (.tup (.cons (.var "best") (.cons (.var "at") (.cons (.var "to") .nil)))) .nil)))
  (.cons (.assign "at" (.var "to"))
  .nil))))))
  (.cons (.ret (.var "told"))
  .nil))))⟩
noncomputable def f_Train_row : MFn := ⟨["self", "begin", "end"],
  (.cons (.expr (.meth (.var "self") "need_stretch" (.cons (.var "begin") (.cons (.var "end") .nil))))
  (.cons (.ite (.cmp (.meth (.var "self") "blocking" (.cons (.var "begin") (.cons (.var "end") .nil))) (.cons .isnot .none .nil))
  (.cons (.raise "Full" "no seat is free on some leg")
  .nil)
  .nil)
  (.cons (.ret (.meth (.var "self") "found" (.cons (.var "begin") (.cons (.var "end") .nil))))
  .nil)))⟩
noncomputable def f_Train_hold : MFn := ⟨["self", "ticket", "part"],
  (.cons (.setIdx (.attr (.var "self") "rides") (.var "ticket") (.bin .add (.bm (.attr (.var "self") "rides") "get" (.cons (.var "ticket") (.cons (.list .nil) .nil))) (.list (.cons (.var "part") .nil))))
  (.cons (.expr (.meth (.var "self") "mark" (.cons (.list (.cons (.var "part") .nil)) (.cons (.var "ticket") .nil))))
  .nil))⟩
noncomputable def f_need_part : MFn := ⟨["train", "told", "part"],
  (.cons (.unpack ["seat", "begin", "end"] (.var "part"))
  (.cons (.assign "size" (.meth (.var "train") "size" .nil))
  (.cons (.ite (.not (.cmp (.int 0) (.cons .le (.var "seat") (.cons .lt (.sub (.var "size") (.int 0)) .nil))))
  (.cons (.raise "NoSeat" "no such seat")
  .nil)
  .nil)
  (.cons (.ite (.not (.cmp (.int 0) (.cons .le (.var "begin") (.cons .lt (.var "end") (.cons .lt (.sub (.var "size") (.int 1)) .nil)))))
  (.cons (.raise "NoStretch" "no stretch")
  .nil)
  .nil)
  (.cons (.ite (.and (.cons (.cmp (.var "told") (.cons .ne (.list .nil) .nil)) (.cons (.or (.cons (.cmp (.sub (.sub (.var "told") (.neg (.int 1))) (.int 2)) (.cons .ne (.var "begin") .nil)) (.cons (.cmp (.sub (.sub (.var "told") (.neg (.int 1))) (.int 0)) (.cons .eq (.var "seat") .nil)) .nil))) .nil)))
  (.cons (.raise "NoStretch" "not behind the part ahead")
  .nil)
  .nil)
  (.cons (.for_ "leg" (.bi "range" (.cons (.var "begin") (.cons (.var "end") .nil)))
  (.cons (.ite (.cmp (.meth (.var "train") "holder" (.cons (.var "seat") (.cons (.var "leg") .nil))) (.cons .isnot .none .nil))
  (.cons (.raise "Shared" "the seat is held")
  .nil)
  .nil)
  .nil))
  .nil))))))⟩
noncomputable def f_number_of : MFn := ⟨["word"],
  (.cons (.ite (.or (.cons (.not (.cmp (.int 1) (.cons .le (.bi "len" (.cons (.var "word") .nil)) (.cons .le (.gconst "MOST_FIGURES" (.int 9)) .nil)))) (.cons (.and (.cons (.cmp (.sub (.var "word") (.int 0)) (.cons .eq (.str "0") .nil)) (.cons (.cmp (.bi "len" (.cons (.var "word") .nil)) (.cons .gt (.int 1) .nil)) .nil))) .nil)))
  (.cons (.raise "NoText" "no number")
  .nil)
  .nil)
  (.cons (.for_ "sign" (.var "word")
  (.cons (.ite (.cmp (.var "sign") (.cons .notin (.gconst "FIGURES" (.str (PySem.Str.ofString "0123456789"))) .nil))
  (.cons (.raise "NoText" "no number")
  .nil)
  .nil)
  .nil))
  (.cons (.ret (.bi "int" (.cons (.var "word") .nil)))
  .nil)))⟩
noncomputable def f_Train_leads : MFn := ⟨["self", "seat", "stop"],
  (.cons (.whil (.and (.cons (.cmp (.var "stop") (.cons .lt (.bin .sub (.attr (.var "self") "stops") (.int 1)) .nil)) (.cons (.cmp (.sub (.sub (.attr (.var "self") "held") (.var "seat")) (.var "stop")) (.cons .is_ .none .nil)) .nil)))
  (.cons (.assign "stop" (.bin .add (.var "stop") (.int 1)))
  .nil))
  (.cons (.ret (.var "stop"))
  .nil))⟩
noncomputable def f_Train_blocking : MFn := ⟨["self", "begin", "end"],
  (.cons (.for_ "leg" (.bi "range" (.cons (.var "begin") (.cons (.var "end") .nil)))
  (.cons (.ite (.bi "all" (.cons (.comp (.cmp (.sub (.sub (.attr (.var "self") "held") (.var "seat")) (.var "leg")) (.cons .isnot .none .nil)) "seat" (.bi "range" (.cons (.attr (.var "self") "seats") .nil)) (.bool true)) .nil))
  (.cons (.ret (.var "leg"))
  .nil)
  .nil)
  .nil))
  (.cons (.ret .none)
  .nil))⟩
noncomputable def f_Train_need_stretch : MFn := ⟨["self", "begin", "end"],
  (.cons (.ite (.not (.cmp (.int 0) (.cons .le (.var "begin") (.cons .lt (.var "end") (.cons .lt (.attr (.var "self") "stops") .nil)))))
  (.cons (.raise "NoStretch" "no stretch")
  .nil)
  .nil)
  .nil)⟩
noncomputable def f_Train_holder : MFn := ⟨["self", "seat", "leg"],
  (.cons (.expr (.meth (.var "self") "need_seat" (.cons (.var "seat") .nil)))
  (.cons (.expr (.meth (.var "self") "need_leg" (.cons (.var "leg") .nil)))
  (.cons (.ret (.sub (.sub (.attr (.var "self") "held") (.var "seat")) (.var "leg")))
  .nil)))⟩
noncomputable def f_Train_need_leg : MFn := ⟨["self", "leg"],
  (.cons (.ite (.not (.cmp (.int 0) (.cons .le (.var "leg") (.cons .lt (.bin .sub (.attr (.var "self") "stops") (.int 1)) .nil))))
  (.cons (.raise "NoLeg" "no such leg")
  .nil)
  .nil)
  .nil)⟩
noncomputable def f_Train_need_seat : MFn := ⟨["self", "seat"],
  (.cons (.ite (.not (.cmp (.int 0) (.cons .le (.var "seat") (.cons .lt (.attr (.var "self") "seats") .nil))))
  (.cons (.raise "NoSeat" "no such seat")
  .nil)
  .nil)
  .nil)⟩
noncomputable def theP : MProg := [("_law_whole", f__law_whole), ("_law_word", f__law_word), ("written", f_written), ("_law_rows", f__law_rows), ("parts", f_Train_parts), ("_law_numbers", f__law_numbers), ("tickets", f_Train_tickets), ("size", f_Train_size), ("_law_read", f__law_read), ("_law_due", f__law_due), ("_law_mixed", f__law_mixed), ("_law_spoilt", f__law_spoilt), ("_law_cell_at", f__law_cell_at), ("_law_changing", f__law_changing), ("_law_run", f__law_run), ("_law_told", f__law_told), ("_law_class", f__law_class), ("line_of", f_line_of), ("need_ticket", f_Train_need_ticket), ("read", f_read), ("_law_looked_at", f__law_looked_at), ("_law_numbers_of", f__law_numbers_of), ("_law_odd_row", f__law_odd_row), ("_law_figure_spoilt", f__law_figure_spoilt), ("_law_sign_by", f__law_sign_by), ("_law_cells", f__law_cells), ("_law_deed_by", f__law_deed_by), ("__init__", f_Train_init), ("_law_stops", f__law_stops), ("_law_seats", f__law_seats), ("reseat", f_Train_reseat), ("leave", f_Train_leave), ("back", f_Train_back), ("sell", f_Train_sell), ("start_at", f_Train_start_at), ("seat_ticket", f_seat_ticket), ("numbers_of", f_numbers_of), ("_law_part_word", f__law_part_word), ("_law_figures", f__law_figures), ("_law_laid", f__law_laid), ("_law_stretch_by", f__law_stretch_by), ("mark", f_Train_mark), ("found", f_Train_found), ("row", f_Train_row), ("hold", f_Train_hold), ("need_part", f_need_part), ("number_of", f_number_of), ("leads", f_Train_leads), ("blocking", f_Train_blocking), ("need_stretch", f_Train_need_stretch), ("holder", f_Train_holder), ("need_leg", f_Train_need_leg), ("need_seat", f_Train_need_seat)]
noncomputable def theT : Tab where
  fns := [("_law_whole", 370), ("_law_word", 438), ("written", 323), ("_law_rows", 443), ("_law_numbers", 450), ("_law_read", 524), ("_law_due", 517), ("_law_mixed", 377), ("_law_spoilt", 497), ("_law_cell_at", 363), ("_law_changing", 483), ("_law_run", 457), ("_law_told", 431), ("_law_class", 424), ("line_of", 316), ("read", 356), ("_law_looked_at", 512), ("_law_numbers_of", 502), ("_law_odd_row", 471), ("_law_figure_spoilt", 490), ("_law_sign_by", 464), ("_law_cells", 417), ("_law_deed_by", 405), ("_law_stops", 391), ("_law_seats", 384), ("seat_ticket", 349), ("numbers_of", 335), ("_law_part_word", 507), ("_law_figures", 476), ("_law_laid", 412), ("_law_stretch_by", 398), ("need_part", 342), ("number_of", 330)]
  meths := [("parts", 262), ("tickets", 269), ("size", 304), ("need_ticket", 182), ("reseat", 255), ("leave", 248), ("back", 243), ("sell", 236), ("start_at", 222), ("mark", 208), ("found", 201), ("row", 229), ("hold", 215), ("leads", 189), ("blocking", 194), ("need_stretch", 175), ("holder", 290), ("need_leg", 168), ("need_seat", 161)]
  init := 154
  bis := ["range", "len", "max", "list", "all", "sorted", "str", "min", "int"]
  consts := [("MOST", .int 60), ("FIGURES", .str (PySem.Str.ofString "0123456789")), ("MOST_FIGURES", .int 9)]
  attrs := ["coming", "rides", "stops", "seats", "held"]
  sets := ["held", "rides", "coming", "stops", "seats"]
  isis := ["bool", "int", "tuple", "list", "ValueError", "NoText", "Shared", "Full", "NoTicket", "NoLeg", "NoStop", "NoSeat", "NoStretch", "NoTrain", "str"]
  raises := ["NoTicket", "NoText", "NoTrain", "NoStop", "Full", "Shared", "NoStretch", "NoSeat", "NoLeg"]
  tries := true
  mks := true
noncomputable def theC : String → Addr
  | "Train" => 307
  | "SeatError" => 31
  | "NoTrain" => 44
  | "NoStretch" => 56
  | "NoSeat" => 68
  | "NoStop" => 80
  | "NoLeg" => 92
  | "NoTicket" => 104
  | "Full" => 116
  | "Shared" => 128
  | "NoText" => 140
  | _ => 0
end Mine
end
section
open PySem PySem.W PyProof.Rows
namespace Mine
noncomputable def theAs : List Addr := [2, 3, 15, 17, 18, 20, 21, 22, 29, 30, 31, 32, 35, 42, 43, 44, 47, 54, 55, 56, 59, 66, 67, 68, 71, 78, 79, 80, 83, 90, 91, 92, 95, 102, 103, 104, 107, 114, 115, 116, 119, 126, 127, 128, 131, 138, 139, 140, 150, 153, 154, 155, 157, 158, 160, 161, 162, 164, 165, 167, 168, 169, 171, 172, 174, 175, 176, 178, 179, 181, 182, 183, 185, 186, 188, 189, 190, 193, 194, 195, 197, 198, 200, 201, 202, 204, 205, 207, 208, 209, 211, 212, 214, 215, 216, 218, 219, 221, 222, 223, 225, 226, 228, 229, 230, 232, 233, 235, 236, 237, 239, 240, 242, 243, 244, 247, 248, 249, 251, 252, 254, 255, 256, 258, 259, 261, 262, 263, 265, 266, 268, 269, 270, 272, 273, 275, 276, 277, 279, 280, 282, 283, 284, 286, 287, 289, 290, 291, 293, 294, 296, 297, 298, 300, 301, 303, 304, 305, 306, 307, 308, 309, 312, 315, 316, 317, 319, 320, 322, 323, 324, 326, 327, 329, 330, 331, 334, 335, 336, 338, 339, 341, 342, 343, 345, 346, 348, 349, 350, 352, 353, 355, 356, 357, 359, 360, 362, 363, 364, 366, 367, 369, 370, 371, 373, 374, 376, 377, 378, 380, 381, 383, 384, 385, 387, 388, 390, 391, 392, 394, 395, 397, 398, 399, 401, 402, 404, 405, 406, 408, 409, 411, 412, 413, 416, 417, 418, 420, 421, 423, 424, 425, 427, 428, 430, 431, 432, 434, 435, 437, 438, 439, 442, 443, 444, 446, 447, 449, 450, 451, 453, 454, 456, 457, 458, 460, 461, 463, 464, 465, 467, 468, 470, 471, 472, 475, 476, 477, 479, 480, 482, 483, 484, 486, 487, 489, 490, 491, 493, 494, 496, 497, 498, 501, 502, 503, 506, 507, 508, 511, 512, 513, 516, 517, 518, 520, 521, 523, 524, 525, 527, 528, 530, 531]
noncomputable def theH : Hook := lawHook theAs theC theT theP
set_option maxRecDepth 1000000 in
theorem top_seen : ∀ w : World, (fun os => (goT (stepOk 11 (some (.ref 6))) (stepT (denote treeTable) PySem.Challenge.pw_uf040032_13 w) 8492 ⟨bootTree w.params, 11, (boot_heap w.params).life, Array.mk [], boot_drawn, boot_toks, os⟩ (topStub PySem.Challenge.pw_uf040032_13)).map fun s₁ => theH.obs s₁.abs) = fun _ => some true := by
  intro w
  rw [PySem.W.Fast.te6613529449190102663, PySem.W.Fast.te10156331382660048174, PySem.W.Fast.te11892475500146522536, PySem.W.Fast.te14364793385576792824]
  kernel_rfl
theorem top_tree : ∀ w : World, absHeap (bootTree w.params) 11 (boot_heap w.params).life = boot_heap w.params := by
  intro w; kernel_rfl
theorem top_size : ∀ w : World, ((boot_heap w.params).isNs mainGlobals && (Array.mk ([] : List GenState)).size == 0, (boot_heap w.params).objs.size, (boot_heap w.params).nsMap mainGlobals "__annotations__") = (true, 11, some (.ref 6)) := by
  intro w; kernel_rfl
theorem top_open : ∀ w : World, (fencedOpening treeTable PySem.Challenge.pw_uf040032_13 w 8492).map (fun s => (s.heap, s.gens, s.drawn, s.toks)) = some (boot_heap w.params, Array.mk [], boot_drawn, boot_toks) :=
  boot_open (by kernel_rfl) rfl (fun s => by kernel_rfl)
theorem top_left : LeftO PySem.Challenge.pw_uf040032_13 theQ [] (fun s => xlAt theQ [] s && recOk [] s) theH.obs theH.val 8492 := left_of_tree top_open top_size top_tree top_run top_seen
set_option maxRecDepth 1000000 in
set_option maxHeartbeats 0 in
theorem law_said : OpenLaw.wellSaid PySem.Challenge.rw_uf040032_13 = true := by
  delta OpenLaw.wellSaid OpenRow.wellSaid OpenRow.partSaid looksOpen
  (repeat' with_reducible apply look_both) <;> decide +kernel
end Mine
end
section
set_option autoImplicit false
namespace Mine
/-! the train, with no program in sight -/
abbrev Grid := Int → Int → Option Int
abbrev Part := Int × Int × Int
noncomputable def markP (g : Grid) (p : Part) (k : Option Int) : Grid := fun s l => if s = p.1 ∧ p.2.1 ≤ l ∧ l < p.2.2 then k else g s l
noncomputable def marks (g : Grid) (ps : List Part) (k : Option Int) : Grid := ps.foldl (fun g p => markP g p k) g
noncomputable def leadF (g : Grid) (seat : Int) : Nat → Int → Int
  | 0, stop => stop
  | k + 1, stop => if (g seat stop).isNone then leadF g seat k (stop + 1) else stop
noncomputable def lead (g : Grid) (stops seat stop : Int) : Int := leadF g seat (stops - 1 - stop).toNat stop
noncomputable def bestN (g : Grid) (stops e at_ : Int) : Nat → Int × Int
  | 0 => (0, minI (lead g stops 0 at_) e)
  | k + 1 => let p := bestN g stops e at_ k; let th := minI (lead g stops ((k : Int) + 1) at_) e; if p.2 < th then ((k : Int) + 1, th) else p
noncomputable def foundF (g : Grid) (seats stops e : Int) : Nat → Int → List Part
  | 0, _ => []
  | k + 1, at_ => if at_ < e then let p := bestN g stops e at_ (seats - 1).toNat; (p.1, at_, p.2) :: foundF g seats stops e k p.2 else []

/-- a part covers a cell -/
noncomputable def Cov (p : Part) (s l : Int) : Prop := s = p.1 ∧ p.2.1 ≤ l ∧ l < p.2.2
noncomputable def Covs (ps : List Part) (s l : Int) : Prop := ∃ p ∈ ps, Cov p s l
theorem marks_in {k : Option Int} {s l : Int} : ∀ {ps : List Part} {g : Grid}, Covs ps s l → marks g ps k s l = k
  | p :: ps, g, ⟨q, hq, hc⟩ => by
    show marks (markP g p k) ps k s l = k
    by_cases h : Covs ps s l
    · exact marks_in h
    · have hn : ∀ {ps : List Part} {g : Grid}, ¬ Covs ps s l → marks g ps k s l = g s l := by
        intro ps; induction ps with
        | nil => intro g _; rfl
        | cons p ps ih =>
          intro g hn
          show marks (markP g p k) ps k s l = g s l
          rw [ih fun ⟨q, hq, hc⟩ => hn ⟨q, .tail _ hq, hc⟩]
          exact if_neg fun z => hn ⟨p, .head _, z⟩
      rw [hn h]
      rcases List.mem_cons.mp hq with rfl | hq
      · exact if_pos hc
      · exact absurd ⟨q, hq, hc⟩ h
theorem marks_out {k : Option Int} {s l : Int} : ∀ {ps : List Part} {g : Grid}, ¬ Covs ps s l → marks g ps k s l = g s l
  | [], _, _ => rfl
  | p :: ps, g, hn => by
    show marks (markP g p k) ps k s l = g s l
    rw [marks_out fun ⟨q, hq, hc⟩ => hn ⟨q, .tail _ hq, hc⟩]
    exact if_neg fun z => hn ⟨p, .head _, z⟩

/-! parts that go on from a stop to a stop -/
inductive Goes (seats : Int) : Int → List Part → Int → Prop
  | one {s b e : Int} (h0 : 0 ≤ s) (h1 : s < seats) (h2 : b < e) : Goes seats b [(s, b, e)] e
  | cons {s b m e : Int} {p : Part} {ps : List Part} (h0 : 0 ≤ s) (h1 : s < seats) (h2 : b < m) (hs : s ≠ p.1) (t : Goes seats m (p :: ps) e) : Goes seats b ((s, b, m) :: p :: ps) e
theorem Goes.lt {seats b e : Int} {ps : List Part} (h : Goes seats b ps e) : b < e := by
  induction h with
  | one _ _ h => exact h
  | cons _ _ h _ _ ih => (first | lia | omega)
theorem Goes.ne {seats b e : Int} {ps : List Part} (h : Goes seats b ps e) : ps ≠ [] := by cases h <;> simp
theorem Goes.mem {seats b e : Int} {ps : List Part} (h : Goes seats b ps e) : ∀ p ∈ ps, 0 ≤ p.1 ∧ p.1 < seats ∧ b ≤ p.2.1 ∧ p.2.1 < p.2.2 ∧ p.2.2 ≤ e := by
  induction h with
  | one h0 h1 h2 => intro p hp; simp at hp; subst hp; exact ⟨h0, h1, by dsimp only; (first | lia | omega), h2, by dsimp only; (first | lia | omega)⟩
  | cons h0 h1 h2 _ t ih =>
    intro p hp
    have := t.lt
    rcases List.mem_cons.mp hp with rfl | hp
    · exact ⟨h0, h1, by dsimp only; (first | lia | omega), h2, by dsimp only; (first | lia | omega)⟩
    · obtain ⟨a, b, c, d, f⟩ := ih p hp
      exact ⟨a, b, by (first | lia | omega), d, f⟩
/-- a leg of the stretch lies in one part, and in one seat -/
theorem Goes.cov {seats b e : Int} {ps : List Part} (h : Goes seats b ps e) {s l : Int} (hc : Covs ps s l) : 0 ≤ s ∧ s < seats ∧ b ≤ l ∧ l < e := by
  obtain ⟨p, hp, rfl, h1, h2⟩ := hc
  obtain ⟨a, c, d, f, i⟩ := h.mem p hp
  (first | lia | omega)

theorem leadF_ge {g : Grid} {seat : Int} : ∀ (k : Nat) (stop : Int), stop ≤ leadF g seat k stop ∧ leadF g seat k stop ≤ stop + k
  | 0, stop => by simp [leadF]
  | k + 1, stop => by
    have := leadF_ge (g := g) (seat := seat) k (stop + 1)
    unfold leadF; split <;> (first | lia | omega)
theorem leadF_free {g : Grid} {seat : Int} : ∀ (k : Nat) (stop l : Int), stop ≤ l → l < leadF g seat k stop → g seat l = none
  | 0, stop, l, h1, h2 => by simp only [leadF] at h2; (first | lia | omega)
  | k + 1, stop, l, h1, h2 => by
    unfold leadF at h2
    split at h2
    · rename_i q
      by_cases z : l = stop
      · subst z; simpa using q
      · exact leadF_free k (stop + 1) l (by (first | lia | omega)) h2
    · (first | lia | omega)
theorem leadF_stop {g : Grid} {seat : Int} : ∀ (k : Nat) (stop : Int), leadF g seat k stop < stop + k → g seat (leadF g seat k stop) ≠ none
  | 0, stop, h => by simp only [leadF] at h; (first | lia | omega)
  | k + 1, stop, h => by
    unfold leadF at h ⊢
    split at h <;> rename_i q
    · rw [if_pos q]; exact leadF_stop k (stop + 1) (by (first | lia | omega))
    · rw [if_neg q]; intro z; rw [z] at q; simp at q
theorem lead_facts {g : Grid} {stops seat stop : Int} (h : stop ≤ stops - 1) : stop ≤ lead g stops seat stop ∧ lead g stops seat stop ≤ stops - 1 ∧ (∀ l, stop ≤ l → l < lead g stops seat stop → g seat l = none) ∧ (lead g stops seat stop < stops - 1 → g seat (lead g stops seat stop) ≠ none) := by
  have := leadF_ge (g := g) (seat := seat) (stops - 1 - stop).toNat stop
  unfold lead
  exact ⟨this.1, by omega, fun l => leadF_free _ _ l, fun q => leadF_stop _ _ (by omega)⟩

theorem bestN_facts {g : Grid} {stops e at_ : Int} (h1 : at_ < e) (h2 : e < stops) : ∀ k : Nat, (at_ ≤ (bestN g stops e at_ k).2 ∧ (bestN g stops e at_ k).2 ≤ e ∧ 0 ≤ (bestN g stops e at_ k).1 ∧ (bestN g stops e at_ k).1 ≤ k ∧ (bestN g stops e at_ k).2 = minI (lead g stops (bestN g stops e at_ k).1 at_) e) ∧
    ∀ i : Nat, i ≤ k → minI (lead g stops i at_) e ≤ (bestN g stops e at_ k).2
  | 0 => by
    have l0 := lead_facts (g := g) (seat := 0) (show at_ ≤ stops - 1 by (first | lia | omega))
    refine ⟨⟨?_, ?_, ?_, ?_, rfl⟩, fun i hi => ?_⟩
    · simp only [bestN, minI]; split <;> (first | lia | omega)
    · simp only [bestN, minI]; split <;> (first | lia | omega)
    · simp [bestN]
    · simp [bestN]
    · obtain rfl : i = 0 := by (first | lia | omega)
      exact Int.le_refl _
  | k + 1 => by
    obtain ⟨⟨a, b, c, d, f⟩, ih⟩ := bestN_facts (g := g) h1 h2 k
    have l0 := lead_facts (g := g) (seat := (k : Int) + 1) (show at_ ≤ stops - 1 by (first | lia | omega))
    have m1 : at_ ≤ minI (lead g stops ((k : Int) + 1) at_) e ∧ minI (lead g stops ((k : Int) + 1) at_) e ≤ e := by unfold minI; split <;> (first | lia | omega)
    unfold bestN
    dsimp only
    split
    · refine ⟨⟨m1.1, m1.2, by dsimp only; (first | lia | omega), by dsimp only; (first | lia | omega), rfl⟩, fun i hi => ?_⟩
      rcases Nat.lt_or_ge k i with q | q
      · obtain rfl : i = k + 1 := by (first | lia | omega)
        exact Int.le_refl _
      · have := ih i q
        dsimp only; (first | lia | omega)
    · refine ⟨⟨a, b, c, by (first | lia | omega), f⟩, fun i hi => ?_⟩
      rcases Nat.lt_or_ge k i with q | q
      · obtain rfl : i = k + 1 := by (first | lia | omega)
        have : ((k + 1 : Nat) : Int) = (k : Int) + 1 := rfl
        rw [this]; (first | lia | omega)
      · exact ih i q
theorem best_gt {g : Grid} {stops e at_ seat : Int} {k : Nat} (h1 : at_ < e) (h2 : e < stops) (h3 : 0 ≤ seat) (h4 : seat ≤ k) (hg : g seat at_ = none) : at_ < (bestN g stops e at_ k).2 := by
  have := (bestN_facts (g := g) h1 h2 k).2 seat.toNat (by (first | lia | omega))
  have e1 : ((seat.toNat : Nat) : Int) = seat := Int.toNat_of_nonneg h3
  rw [e1] at this
  obtain ⟨a, b, _, d⟩ := lead_facts (g := g) (seat := seat) (show at_ ≤ stops - 1 by (first | lia | omega))
  have l : at_ < lead g stops seat at_ := by
    by_cases z : lead g stops seat at_ = at_
    · rw [z] at d; exact absurd hg (d (by (first | lia | omega)))
    · (first | lia | omega)
  have m : at_ < minI (lead g stops seat at_) e := by unfold minI; split <;> (first | lia | omega)
  (first | lia | omega)

/-- what is found: from b to e, over free cells alone -/
theorem found_goes {g : Grid} {seats stops e : Int} (hs : 1 ≤ seats) (h2 : e < stops) : ∀ (N : Nat) (at_ : Int), 0 ≤ at_ → at_ < e → (e - at_).toNat ≤ N → (∀ l, at_ ≤ l → l < e → ∃ s, 0 ≤ s ∧ s < seats ∧ g s l = none) →
    Goes seats at_ (foundF g seats stops e N at_) e ∧ ∀ s l, Covs (foundF g seats stops e N at_) s l → g s l = none
  | 0, at_, _, h1, hN, _ => by (first | lia | omega)
  | N + 1, at_, h0, h1, hN, hf => by
    obtain ⟨s, s0, s1, sg⟩ := hf at_ (Int.le_refl _) h1
    have bf := (bestN_facts (g := g) h1 h2 (seats - 1).toNat).1
    have bg := best_gt (k := (seats - 1).toNat) h1 h2 s0 (by (first | lia | omega)) sg
    have lf := lead_facts (g := g) (seat := (bestN g stops e at_ (seats - 1).toNat).1) (show at_ ≤ stops - 1 by (first | lia | omega))
    unfold foundF
    rw [if_pos h1]
    dsimp only
    generalize hb : bestN g stops e at_ (seats - 1).toNat = p at bf bg lf
    obtain ⟨ps, pt⟩ := p
    dsimp only at bf bg lf ⊢
    have free : ∀ l, at_ ≤ l → l < pt → g ps l = none := fun l q1 q2 => lf.2.2.1 l q1 (by have := bf.2.2.2.2; unfold minI at this; split at this <;> (first | lia | omega))
    by_cases q : pt < e
    · obtain ⟨ih1, ih2⟩ := found_goes hs h2 N pt (by (first | lia | omega)) q (by (first | lia | omega)) fun l q1 q2 => hf l (by (first | lia | omega)) q2
      refine ⟨?_, fun s l ⟨x, hx, hc⟩ => ?_⟩
      · generalize hr : foundF g seats stops e N pt = r at ih1 ih2 ⊢
        cases r with
        | nil => exact absurd rfl ih1.ne
        | cons y ys =>
          refine .cons bf.2.2.1 (by (first | lia | omega)) bg ?_ ih1
          intro z
          -- the seat is held at pt
          have hpt : lead g stops ps at_ = pt := by have := bf.2.2.2.2; unfold minI at this; split at this <;> (first | lia | omega)
          have hne := lf.2.2.2 (by (first | lia | omega))
          rw [hpt] at hne
          have : Covs (y :: ys) y.1 y.2.1 := ⟨y, .head _, rfl, Int.le_refl _, (ih1.mem y (.head _)).2.2.2.1⟩
          have hy := ih2 _ _ this
          have hb0 : y.2.1 = pt := by cases ih1 <;> rfl
          rw [← z, hb0] at hy
          exact hne hy
      · rcases List.mem_cons.mp hx with rfl | hx
        · obtain ⟨rfl, c1, c2⟩ := hc; exact free l c1 c2
        · exact ih2 s l ⟨x, hx, hc⟩
    · have hpe : pt = e := by (first | lia | omega)
      subst hpe
      have hnil : foundF g seats stops pt N pt = [] := by cases N <;> simp [foundF]
      rw [hnil]
      exact ⟨.one bf.2.2.1 (by (first | lia | omega)) bg, fun s l ⟨x, hx, hc⟩ => by simp at hx; subst hx; obtain ⟨rfl, c1, c2⟩ := hc; exact free l c1 c2⟩
end Mine
end
section
set_option autoImplicit false
namespace Mine
abbrev Rides := List (Int × List Part)
noncomputable def rSet (R : Rides) (k : Int) (ps : List Part) : Rides := R.map fun x => if x.1 = k then (k, ps) else x
noncomputable def rDel (R : Rides) (k : Int) : Rides := R.filter fun x => decide (x.1 ≠ k)
/-- the books are right -/
structure Inv (seats stops coming : Int) (R : Rides) (g : Grid) : Prop where
  asc : R.Pairwise fun x y => x.1 < y.1
  rng : ∀ x ∈ R, 0 ≤ x.1 ∧ x.1 < coming
  goes : ∀ x ∈ R, ∃ b e, 0 ≤ b ∧ e ≤ stops - 1 ∧ Goes seats b x.2 e
  cov : ∀ s l k, 0 ≤ s → s < seats → 0 ≤ l → l < stops - 1 → (g s l = some k ↔ ∃ ps, (k, ps) ∈ R ∧ Covs ps s l)
section
variable {seats stops coming : Int} {R : Rides} {g : Grid}
theorem inv_init : Inv seats stops 0 [] fun _ _ => none :=
  ⟨.nil, fun _ h => (by cases h), fun _ h => (by cases h), fun s l k _ _ _ _ => ⟨fun h => (by cases h), fun ⟨_, h, _⟩ => (by cases h)⟩⟩
theorem asc_unique (h : R.Pairwise fun x y => x.1 < y.1) {k : Int} {a b : List Part} (ha : (k, a) ∈ R) (hb : (k, b) ∈ R) : a = b := by
  induction h with
  | nil => cases ha
  | @cons x r hx t ih =>
    rcases List.mem_cons.mp ha with e1 | ha' <;> rcases List.mem_cons.mp hb with e2 | hb'
    · rw [← e1] at e2; cases e2; rfl
    · have := hx _ hb'; rw [← e1] at this; exact absurd this (Int.lt_irrefl _)
    · have := hx _ ha'; rw [← e2] at this; exact absurd this (Int.lt_irrefl _)
    · exact ih ha' hb'
theorem mem_rSet {k : Int} {ps : List Part} {x : Int × List Part} : x ∈ rSet R k ps ↔ (x.1 ≠ k ∧ x ∈ R) ∨ (x = (k, ps) ∧ ∃ q, (k, q) ∈ R) := by
  unfold rSet
  rw [List.mem_map]
  constructor
  · rintro ⟨y, hy, e⟩
    by_cases h : y.1 = k
    · rw [if_pos h] at e; exact .inr ⟨e.symm, y.2, by rw [← h]; exact hy⟩
    · rw [if_neg h] at e; exact .inl ⟨e ▸ h, e ▸ hy⟩
  · rintro (⟨h, hx⟩ | ⟨rfl, q, hq⟩)
    · exact ⟨x, hx, if_neg h⟩
    · exact ⟨(k, q), hq, if_pos rfl⟩
theorem mem_rDel {k : Int} {x : Int × List Part} : x ∈ rDel R k ↔ x.1 ≠ k ∧ x ∈ R := by
  unfold rDel
  rw [List.mem_filter]
  exact ⟨fun h => ⟨of_decide_eq_true h.2, h.1⟩, fun h => ⟨h.2, decide_eq_true h.1⟩⟩
theorem asc_rSet {k : Int} {ps : List Part} (h : R.Pairwise fun x y => x.1 < y.1) : (rSet R k ps).Pairwise fun x y => x.1 < y.1 := by
  have key : ∀ x : Int × List Part, (if x.1 = k then (k, ps) else x).1 = x.1 := fun x => by split <;> simp_all
  unfold rSet
  rw [List.pairwise_map]
  exact h.imp fun {a b} q => by rw [key, key]; exact q
/-- two rides share no cell -/
theorem Inv.apart (I : Inv seats stops coming R g) {k j : Int} {a b : List Part} (ha : (k, a) ∈ R) (hb : (j, b) ∈ R) {s l : Int} (h1 : Covs a s l) (h2 : Covs b s l) : k = j := by
  obtain ⟨b0, e0, h0, he, G⟩ := I.goes _ ha
  obtain ⟨q1, q2, q3, q4⟩ := G.cov h1
  have x := (I.cov s l k q1 q2 (by (first | lia | omega)) (by (first | lia | omega))).mpr ⟨a, ha, h1⟩
  have y := (I.cov s l j q1 q2 (by (first | lia | omega)) (by (first | lia | omega))).mpr ⟨b, hb, h2⟩
  rw [x] at y; cases y; rfl

theorem inv_sell (I : Inv seats stops coming R g) (hc : 0 ≤ coming) {b e : Int} {ps : List Part} (G : Goes seats b ps e) (h0 : 0 ≤ b) (he : e ≤ stops - 1) (hf : ∀ s l, Covs ps s l → g s l = none) :
    Inv seats stops (coming + 1) (R ++ [(coming, ps)]) (marks g ps (some coming)) := by
  refine ⟨?_, fun x hx => ?_, fun x hx => ?_, fun s l k s0 s1 l0 l1 => ?_⟩
  · rw [List.pairwise_append]
    exact ⟨I.asc, List.pairwise_singleton _ _, fun a ha b hb => by rw [List.mem_singleton] at hb; subst hb; exact (I.rng a ha).2⟩
  · rcases List.mem_append.mp hx with hx | hx
    · have := I.rng x hx; (first | lia | omega)
    · rw [List.mem_singleton] at hx; subst hx; dsimp only; (first | lia | omega)
  · rcases List.mem_append.mp hx with hx | hx
    · exact I.goes x hx
    · rw [List.mem_singleton] at hx; subst hx; exact ⟨b, e, h0, he, G⟩
  · by_cases h : Covs ps s l
    · rw [marks_in h]
      constructor
      · intro q; cases q; exact ⟨ps, by simp, h⟩
      · rintro ⟨qs, hm, hq⟩
        rcases List.mem_append.mp hm with hm | hm
        · have := (I.cov s l k s0 s1 l0 l1).mpr ⟨qs, hm, hq⟩
          rw [hf s l h] at this; cases this
        · rw [List.mem_singleton] at hm; cases hm; rfl
    · rw [marks_out h, I.cov s l k s0 s1 l0 l1]
      constructor
      · rintro ⟨qs, hm, hq⟩; exact ⟨qs, List.mem_append_left _ hm, hq⟩
      · rintro ⟨qs, hm, hq⟩
        rcases List.mem_append.mp hm with hm | hm
        · exact ⟨qs, hm, hq⟩
        · rw [List.mem_singleton] at hm; cases hm; exact absurd hq h

theorem inv_back (I : Inv seats stops coming R g) {k : Int} {ps : List Part} (hk : (k, ps) ∈ R) : Inv seats stops coming (rDel R k) (marks g ps none) := by
  refine ⟨I.asc.filter _, fun x hx => I.rng x (mem_rDel.mp hx).2, fun x hx => I.goes x (mem_rDel.mp hx).2, fun s l j s0 s1 l0 l1 => ?_⟩
  by_cases h : Covs ps s l
  · rw [marks_in h]
    refine ⟨fun q => (by cases q), fun ⟨qs, hm, hq⟩ => ?_⟩
    obtain ⟨h1, h2⟩ := mem_rDel.mp hm
    exact absurd (I.apart h2 hk hq h) h1
  · rw [marks_out h, I.cov s l j s0 s1 l0 l1]
    constructor
    · rintro ⟨qs, hm, hq⟩
      refine ⟨qs, mem_rDel.mpr ⟨fun z => ?_, hm⟩, hq⟩
      dsimp only at z
      subst z
      rw [asc_unique I.asc hm hk] at hq
      exact h hq
    · rintro ⟨qs, hm, hq⟩; exact ⟨qs, (mem_rDel.mp hm).2, hq⟩

/-- one ride's parts exchanged for others: what is let go is cleared, what is new was free -/
theorem inv_set (I : Inv seats stops coming R g) {k b e : Int} {ps qs : List Part} {g' : Grid} (hk : (k, ps) ∈ R) (G : Goes seats b qs e) (h0 : 0 ≤ b) (he : e ≤ stops - 1)
    (h1 : ∀ s l, Covs qs s l → g' s l = some k) (h2 : ∀ s l, Covs ps s l → ¬ Covs qs s l → g' s l = none) (h3 : ∀ s l, ¬ Covs ps s l → ¬ Covs qs s l → g' s l = g s l) (h4 : ∀ s l, Covs qs s l → ¬ Covs ps s l → g s l = none) : Inv seats stops coming (rSet R k qs) g' := by
  refine ⟨asc_rSet I.asc, fun x hx => ?_, fun x hx => ?_, fun s l j s0 s1 l0 l1 => ?_⟩
  · rcases mem_rSet.mp hx with ⟨_, hx⟩ | ⟨rfl, q, hq⟩
    · exact I.rng x hx
    · exact I.rng (k, q) hq
  · rcases mem_rSet.mp hx with ⟨_, hx⟩ | ⟨rfl, q, hq⟩
    · exact I.goes x hx
    · exact ⟨b, e, h0, he, G⟩
  · constructor
    · intro hg
      by_cases hq : Covs qs s l
      · rw [h1 s l hq] at hg; cases hg
        exact ⟨qs, mem_rSet.mpr (.inr ⟨rfl, ps, hk⟩), hq⟩
      · by_cases hp : Covs ps s l
        · rw [h2 s l hp hq] at hg; cases hg
        · rw [h3 s l hp hq] at hg
          obtain ⟨rs, hm, hr⟩ := (I.cov s l j s0 s1 l0 l1).mp hg
          refine ⟨rs, mem_rSet.mpr (.inl ⟨fun z => ?_, hm⟩), hr⟩
          dsimp only at z
          subst z
          rw [asc_unique I.asc hm hk] at hr
          exact hp hr
    · rintro ⟨rs, hm, hr⟩
      rcases mem_rSet.mp hm with ⟨hj, hm⟩ | ⟨q, _⟩
      · have hp : ¬ Covs ps s l := fun hp => hj (I.apart hm hk hr hp)
        have hg := (I.cov s l j s0 s1 l0 l1).mpr ⟨rs, hm, hr⟩
        have hq : ¬ Covs qs s l := fun hq => by rw [h4 s l hq hp] at hg; cases hg
        rw [h3 s l hp hq]; exact hg
      · cases q; exact h1 s l hr

/-! leaving: what is kept, what is let go -/
noncomputable def goneL (ps : List Part) (stop : Int) : List Part := (ps.filter fun p => decide (stop < p.2.2)).map fun p => (p.1, (if p.2.1 < stop then stop else p.2.1), p.2.2)
noncomputable def keepL (ps : List Part) (stop : Int) : List Part := (ps.filter fun p => decide (p.2.1 < stop)).map fun p => (p.1, p.2.1, (if stop < p.2.2 then stop else p.2.2))
theorem covs_gone {ps : List Part} {stop s l : Int} : Covs (goneL ps stop) s l ↔ Covs ps s l ∧ stop ≤ l := by
  unfold goneL Covs Cov
  constructor
  · rintro ⟨p, hp, h1, h2, h3⟩
    obtain ⟨q, hq, rfl⟩ := List.mem_map.mp hp
    obtain ⟨hq, _⟩ := List.mem_filter.mp hq
    dsimp only at h1 h2 h3
    split at h2
    · exact ⟨⟨q, hq, h1, by (first | lia | omega), h3⟩, h2⟩
    · exact ⟨⟨q, hq, h1, h2, h3⟩, by (first | lia | omega)⟩
  · rintro ⟨⟨q, hq, h1, h2, h3⟩, h4⟩
    refine ⟨_, List.mem_map.mpr ⟨q, List.mem_filter.mpr ⟨hq, decide_eq_true (by (first | lia | omega))⟩, rfl⟩, h1, ?_, h3⟩
    dsimp only; split <;> (first | lia | omega)
theorem covs_keep {ps : List Part} {stop s l : Int} : Covs (keepL ps stop) s l ↔ Covs ps s l ∧ l < stop := by
  unfold keepL Covs Cov
  constructor
  · rintro ⟨p, hp, h1, h2, h3⟩
    obtain ⟨q, hq, rfl⟩ := List.mem_map.mp hp
    obtain ⟨hq, _⟩ := List.mem_filter.mp hq
    dsimp only at h1 h2 h3
    split at h3
    · exact ⟨⟨q, hq, h1, h2, by (first | lia | omega)⟩, h3⟩
    · exact ⟨⟨q, hq, h1, h2, h3⟩, by (first | lia | omega)⟩
  · rintro ⟨⟨q, hq, h1, h2, h3⟩, h4⟩
    refine ⟨_, List.mem_map.mpr ⟨q, List.mem_filter.mpr ⟨hq, decide_eq_true (by (first | lia | omega))⟩, rfl⟩, h1, h2, ?_⟩
    dsimp only; split <;> (first | lia | omega)
theorem keep_nil {b e stop : Int} {ps : List Part} (G : Goes seats b ps e) (h : stop ≤ b) : keepL ps stop = [] := by
  unfold keepL
  rw [List.filter_eq_nil_iff.mpr fun p hp => by have := (G.mem p hp).2.2.1; simp; (first | lia | omega)]
  rfl
theorem goes_keep {b e stop : Int} {ps : List Part} (G : Goes seats b ps e) (h1 : b < stop) (h2 : stop ≤ e) : Goes seats b (keepL ps stop) stop := by
  induction G with
  | @one s b e q0 q1 q2 =>
    have : keepL [(s, b, e)] stop = [(s, b, stop)] := by
      unfold keepL
      rw [List.filter_cons_of_pos (by simpa using h1)]
      simp only [List.filter_nil, List.map_cons, List.map_nil]
      congr 3
      split <;> (first | lia | omega)
    rw [this]; exact .one q0 q1 h1
  | @cons s b m e p ps q0 q1 q2 hs t ih =>
    have e1 : keepL ((s, b, m) :: p :: ps) stop = (s, b, if stop < m then stop else m) :: keepL (p :: ps) stop := by
      unfold keepL
      rw [List.filter_cons_of_pos (by simpa using h1), List.map_cons]
    rw [e1]
    by_cases hm : m < stop
    · rw [if_neg (by (first | lia | omega))]
      have ih := ih hm h2
      have hp : p.2.1 = m := by cases t <;> rfl
      have e2 : keepL (p :: ps) stop = (p.1, p.2.1, if stop < p.2.2 then stop else p.2.2) :: keepL ps stop := by
        unfold keepL
        rw [List.filter_cons_of_pos (by simp; (first | lia | omega)), List.map_cons]
      rw [e2] at ih ⊢
      exact .cons q0 q1 q2 hs ih
    · rw [keep_nil t (by (first | lia | omega))]
      have : (if stop < m then stop else m) = stop := by split <;> (first | lia | omega)
      rw [this]
      exact .one q0 q1 h1

theorem inv_leave (I : Inv seats stops coming R g) {k b e stop : Int} {ps : List Part} (hk : (k, ps) ∈ R) (G : Goes seats b ps e) (h1 : b < stop) (h2 : stop < e) :
    Inv seats stops coming (rSet R k (keepL ps stop)) (marks g (goneL ps stop) none) := by
  obtain ⟨b', e', h0, he, G'⟩ := I.goes _ hk
  have hb : b = b' := by cases G <;> cases G' <;> rfl
  subst hb
  refine inv_set I hk (goes_keep G h1 (by (first | lia | omega))) h0 (?_ : stop ≤ stops - 1) (fun s l hq => ?_) (fun s l hp hq => ?_) (fun s l hp hq => ?_) fun s l hq hp => ?_
  · -- the stretch's end lies before the last stop
    have : ∃ s, Covs ps s stop := by
      clear hk G' h0
      induction G with
      | @one s b e _ _ _ => exact ⟨s, _, .head _, rfl, by dsimp only; (first | lia | omega), h2⟩
      | @cons s b m e p ps _ _ q2 _ t ih =>
        by_cases hm : stop < m
        · exact ⟨s, _, .head _, rfl, by dsimp only; (first | lia | omega), hm⟩
        · by_cases hm' : m = stop
          · subst hm'
            have hp : p.2.1 = m := by cases t <;> rfl
            exact ⟨p.1, p, .tail _ (.head _), rfl, by (first | lia | omega), by have := (t.mem p (.head _)).2.2.2.1; (first | lia | omega)⟩
          · obtain ⟨x, y, hy, hc⟩ := ih (by (first | lia | omega)) h2
            exact ⟨x, y, .tail _ hy, hc⟩
    obtain ⟨s, hs⟩ := this
    have := (G'.cov hs).2.2.2
    (first | lia | omega)
  · obtain ⟨hp, hl⟩ := covs_keep.mp hq
    rw [marks_out fun z => by have := (covs_gone.mp z).2; (first | lia | omega)]
    obtain ⟨q1, q2, q3, q4⟩ := G'.cov hp
    exact (I.cov s l k q1 q2 (by (first | lia | omega)) (by (first | lia | omega))).mpr ⟨ps, hk, hp⟩
  · exact marks_in (covs_gone.mpr ⟨hp, by have : ¬ l < stop := fun z => hq (covs_keep.mpr ⟨hp, z⟩); (first | lia | omega)⟩)
  · exact marks_out fun z => hp (covs_gone.mp z).1
  · exact absurd (covs_keep.mp hq).1 hp

theorem inv_reseat (I : Inv seats stops coming R g) (hs : 1 ≤ seats) {k b e : Int} {ps : List Part} (hk : (k, ps) ∈ R) (G : Goes seats b ps e) (h0 : 0 ≤ b) (he : e ≤ stops - 1) {qs : List Part} (hq : qs = foundF (marks g ps none) seats stops e (e - b).toNat b) :
    Goes seats b qs e ∧ Inv seats stops coming (rSet R k qs) (marks (marks g ps none) qs (some k)) := by
  have hfree : ∀ l, b ≤ l → l < e → ∃ s, 0 ≤ s ∧ s < seats ∧ marks g ps none s l = none := by
    intro l q1 q2
    have : ∃ s, Covs ps s l := by
      clear hk hq I he h0
      induction G with
      | @one s b e _ _ _ => exact ⟨s, _, .head _, rfl, q1, q2⟩
      | @cons s b m e p ps _ _ _ _ t ih =>
        by_cases hm : l < m
        · exact ⟨s, _, .head _, rfl, q1, hm⟩
        · obtain ⟨x, y, hy, hc⟩ := ih (by (first | lia | omega)) q2
          exact ⟨x, y, .tail _ hy, hc⟩
    obtain ⟨s, hc⟩ := this
    obtain ⟨c1, c2, _, _⟩ := G.cov hc
    exact ⟨s, c1, c2, marks_in hc⟩
  obtain ⟨G', hfr⟩ := found_goes (g := marks g ps none) hs (show e < stops by (first | lia | omega)) (e - b).toNat b h0 G.lt (Nat.le_refl _) hfree
  rw [← hq] at G' hfr
  refine ⟨G', inv_set I hk G' h0 he (fun s l h => marks_in h) (fun s l hp hn => ?_) (fun s l hp hn => ?_) fun s l h hp => ?_⟩
  · rw [marks_out hn]; exact marks_in hp
  · rw [marks_out hn]; exact marks_out hp
  · have := hfr s l h
    rw [marks_out hp] at this; exact this
end
end Mine
end
section
set_option autoImplicit false
namespace Mine
end Mine
end
section
set_option autoImplicit false
set_option linter.unusedVariables false
namespace Mine
open PySem
theorem MH.set_selfE (H : MH) (a : Addr) (k : MObj) : H.set a k a = some k := if_pos rfl
theorem MH.set_neE (H : MH) {a b : Addr} (k : MObj) (h : b ≠ a) : H.set a k b = H b := if_neg h
theorem Sto.gets (ρ : Sto) (x : String) (v : MV) : Sto.set ρ x v x = some v := if_pos rfl
theorem Sto.gn {ρ : Sto} {x : String} {v : MV} {y : String} {w : MV} (h : decide (y = x) = false) (k : ρ y = some w) : Sto.set ρ x v y = some w := (if_neg (of_decide_eq_false h)).trans k
/-! ## ranges -/
theorem rangeL_nil {a b c : Int} (hc : 0 < c) (h : b ≤ a) : rangeL a b c = [] := by
  have h0 : Builtin.Range.rangeSize a b c = 0 := by
    simp only [Builtin.Range.rangeSize]
    rw [if_pos hc, if_neg (by (first | lia | omega))]
  simp [rangeL, h0]
theorem rangeL_cons {a b c : Int} (hc : 0 < c) (h : a < b) : rangeL a b c = a :: rangeL (a + c) b c := by
  have h1 : (Builtin.Range.rangeSize a b c).toNat = (Builtin.Range.rangeSize (a + c) b c).toNat + 1 := by
    simp only [Builtin.Range.rangeSize]
    rw [if_pos hc, if_pos h, if_pos hc]
    split
    · rename_i q
      have e : (b - a - 1) = (b - (a + c) - 1) + c * 1 := by (first | lia | omega)
      rw [e, Int.add_mul_ediv_left _ _ (by (first | lia | omega))]
      have : 0 ≤ (b - (a + c) - 1) / c := Int.ediv_nonneg (by (first | lia | omega)) (by (first | lia | omega))
      (first | lia | omega)
    · have : (b - a - 1) / c = 0 := Int.ediv_eq_zero_of_lt (by (first | lia | omega)) (by (first | lia | omega))
      rw [this]; rfl
  simp only [rangeL, h1, List.range_succ_eq_map, List.map_cons, List.map_map]
  congr 1
  · simp
  · apply List.map_congr_left
    intro k _
    simp only [Function.comp]
    rw [Int.natCast_succ, Int.mul_add, Int.mul_one]
    (first | lia | omega)
theorem rangeL_mem {a b c x : Int} (hc : 0 < c) (h : x ∈ rangeL a b c) : a ≤ x ∧ x < b := by
  generalize hn : (b - a).toNat = n
  induction n using Nat.strongRecOn generalizing a with
  | ind n ih =>
    by_cases q : a < b
    · rw [rangeL_cons hc q] at h
      cases h with
      | head => (first | lia | omega)
      | tail _ h =>
        have := ih (b - (a + c)).toNat (by (first | lia | omega)) h rfl
        (first | lia | omega)
    · rw [rangeL_nil hc (by (first | lia | omega))] at h; cases h
theorem rangeL_len1 {a b : Int} : (rangeL a b 1).length = (b - a).toNat := by
  generalize hn : (b - a).toNat = n
  induction n generalizing a with
  | zero => rw [rangeL_nil (by omega) (by omega)]; rfl
  | succ n ih => rw [rangeL_cons (by omega) (by omega), List.length_cons, ih (a := a + 1) (by omega)]

/-! ## expressions that leave the heap as it is -/
noncomputable def Ev (Δ : CallT) (hd : Bool) (e : ME) (ρ : Sto) (H : MH) (v : MV) : Prop := ∀ (Q : MV → MH → Prop) (X : String → MH → Prop), Q v H → wE Δ hd e ρ H Q X
noncomputable def Evs (Δ : CallT) (hd : Bool) (e : MEs) (ρ : Sto) (H : MH) (v : List MV) : Prop := ∀ (Q : List MV → MH → Prop) (X : String → MH → Prop), Q v H → wEs Δ hd e ρ H Q X
noncomputable def EvA (Δ : CallT) (hd : Bool) (e : MEs) (ρ : Sto) (H : MH) (b : Bool) : Prop := ∀ (Q : MV → MH → Prop) (X : String → MH → Prop), Q (.bool b) H → wAnd Δ hd e ρ H Q X
noncomputable def EvO (Δ : CallT) (hd : Bool) (e : MEs) (ρ : Sto) (H : MH) (b : Bool) : Prop := ∀ (Q : MV → MH → Prop) (X : String → MH → Prop), Q (.bool b) H → wOr Δ hd e ρ H Q X
noncomputable def EvC (Δ : CallT) (hd : Bool) (e : MCs) (a : MV) (ρ : Sto) (H : MH) (b : Bool) : Prop := ∀ (Q : MV → MH → Prop) (X : String → MH → Prop), Q (.bool b) H → wC Δ hd e a ρ H Q X
section
variable {Δ : CallT} {hd : Bool} {ρ : Sto} {H : MH}
theorem Ev.var {x : String} {v : MV} (h : ρ x = some v) : Ev Δ hd (.var x) ρ H v := fun Q X q => ⟨v, h, q⟩
theorem Ev.none : Ev Δ hd .none ρ H .none := fun Q X q => q
theorem Ev.int {i : Int} : Ev Δ hd (.int i) ρ H (.int i) := fun Q X q => q
theorem Ev.bool {i : Bool} : Ev Δ hd (.bool i) ρ H (.bool i) := fun Q X q => q
theorem Ev.str {i : String} : Ev Δ hd (.str i) ρ H (.str (Str.ofString i)) := fun Q X q => q
theorem Ev.gconst {x : String} {v : MV} : Ev Δ hd (.gconst x v) ρ H v := fun Q X q => q
theorem Ev.add {l r : ME} {a b : Int} (hl : Ev Δ hd l ρ H (.int a)) (hr : Ev Δ hd r ρ H (.int b)) : Ev Δ hd (.bin .add l r) ρ H (.int (a + b)) := fun Q X q => hl _ X (hr _ X (.add q))
theorem Ev.sub {l r : ME} {a b : Int} (hl : Ev Δ hd l ρ H (.int a)) (hr : Ev Δ hd r ρ H (.int b)) : Ev Δ hd (.bin .sub l r) ρ H (.int (a - b)) := fun Q X q => hl _ X (hr _ X (.sub q))
theorem Ev.mul {l r : ME} {a b : Int} (hl : Ev Δ hd l ρ H (.int a)) (hr : Ev Δ hd r ρ H (.int b)) (h : mulOk a b) : Ev Δ hd (.bin .mul l r) ρ H (.int (a * b)) := fun Q X q => hl _ X (hr _ X (.mul h q))
theorem Ev.fdiv {l r : ME} {a b : Int} (hl : Ev Δ hd l ρ H (.int a)) (hr : Ev Δ hd r ρ H (.int b)) (h : b ≠ 0) (h2 : b.natAbs < 1073741824) : Ev Δ hd (.bin .fdiv l r) ρ H (.int (a.fdiv b)) := fun Q X q => hl _ X (hr _ X (.fdiv h h2 q))
theorem Ev.mod {l r : ME} {a b : Int} (hl : Ev Δ hd l ρ H (.int a)) (hr : Ev Δ hd r ρ H (.int b)) (h : b ≠ 0) : Ev Δ hd (.bin .mod l r) ρ H (.int (a.fmod b)) := fun Q X q => hl _ X (hr _ X (.mod h q))
theorem Ev.neg {e : ME} {a : Int} (he : Ev Δ hd e ρ H (.int a)) : Ev Δ hd (.neg e) ρ H (.int (-a)) := fun Q X q => he _ X ⟨a, rfl, q⟩
theorem Ev.not {e : ME} {b : Bool} (he : Ev Δ hd e ρ H (.bool b)) : Ev Δ hd (.not e) ρ H (.bool (!b)) := fun Q X q => he _ X q
theorem Ev.attr {e : ME} {f : String} {a : Addr} {fs : List (String × MV)} {x : MV} (he : Ev Δ hd e ρ H (.ref a)) (ha : H a = some (.inst fs)) (hf : fsGet fs f = some x) : Ev Δ hd (.attr e f) ρ H x := fun Q X q => he _ X ⟨x, .mk ha hf, q⟩
theorem Ev.item {e i : ME} {a : Addr} {k : Int} {vs : List MV} {x : MV} (he : Ev Δ hd e ρ H (.ref a)) (hi : Ev Δ hd i ρ H (.int k)) (ha : H a = some (.lst vs)) (hx : atIdx vs k = some x) : Ev Δ hd (.sub e i) ρ H x := fun Q X q => he _ X (hi _ X ⟨x, .lst (.inl ha) hx, q⟩)
theorem Ev.itemR {e i : ME} {a : Addr} {k : Int} {vs : List MV} {x : MV} (he : Ev Δ hd e ρ H (.ref a)) (hi : Ev Δ hd i ρ H (.int k)) (ha : H a = some (.ro vs)) (hx : atIdx vs k = some x) : Ev Δ hd (.sub e i) ρ H x := fun Q X q => he _ X (hi _ X ⟨x, .lst (.inr ha) hx, q⟩)
theorem Ev.itemT {e i : ME} {k : Int} {vs : List MV} {x : MV} (he : Ev Δ hd e ρ H (.tup vs)) (hi : Ev Δ hd i ρ H (.int k)) (hx : atIdx vs k = some x) : Ev Δ hd (.sub e i) ρ H x := fun Q X q => he _ X (hi _ X ⟨x, .tup hx, q⟩)
theorem Ev.itemD {e i : ME} {a : Addr} {k : Int} {es : List (Int × MV)} {x : MV} (he : Ev Δ hd e ρ H (.ref a)) (hi : Ev Δ hd i ρ H (.int k)) (ha : H a = some (.dct es)) (hx : dGet es k = some x) : Ev Δ hd (.sub e i) ρ H x := fun Q X q => he _ X (hi _ X ⟨x, .dct ha hx, q⟩)
theorem Ev.tup {es : MEs} {vs : List MV} (h : Evs Δ hd es ρ H vs) : Ev Δ hd (.tup es) ρ H (.tup vs) := fun Q X q => h _ X q
theorem Ev.isi {e : ME} {t : String} {v : MV} {b : Bool} (he : Ev Δ hd e ρ H v) (h : IsiR H v t b) : Ev Δ hd (.isinst e t) ρ H (.bool b) := fun Q X q => he _ X ⟨b, h, q⟩
theorem Ev.lenL {e : ME} {a : Addr} {vs : List MV} (he : Ev Δ hd e ρ H (.ref a)) (ha : H a = some (.lst vs)) : Ev Δ hd (.bi "len" (.cons e .nil)) ρ H (.int vs.length) := fun Q X q => he _ X (.lenL (.inl ha) q)
theorem Ev.lenR {e : ME} {a : Addr} {vs : List MV} (he : Ev Δ hd e ρ H (.ref a)) (ha : H a = some (.ro vs)) : Ev Δ hd (.bi "len" (.cons e .nil)) ρ H (.int vs.length) := fun Q X q => he _ X (.lenL (.inr ha) q)
theorem Ev.lenT {e : ME} {vs : List MV} (he : Ev Δ hd e ρ H (.tup vs)) : Ev Δ hd (.bi "len" (.cons e .nil)) ρ H (.int vs.length) := fun Q X q => he _ X (.lenT q)
theorem Ev.min {e f : ME} {a b : Int} (he : Ev Δ false e ρ H (.int a)) (hf : Ev Δ false f ρ H (.int b)) : Ev Δ false (.bi "min" (.cons e (.cons f .nil))) ρ H (.int (minI a b)) := fun Q X q => he _ X (hf _ X (.min2 rfl q))
theorem Ev.max {e f : ME} {a b : Int} (he : Ev Δ false e ρ H (.int a)) (hf : Ev Δ false f ρ H (.int b)) : Ev Δ false (.bi "max" (.cons e (.cons f .nil))) ρ H (.int (maxI a b)) := fun Q X q => he _ X (hf _ X (.max2 rfl q))
theorem Ev.range1 {e : ME} {b : Int} (he : Ev Δ hd e ρ H (.int b)) (h : smallI b) : Ev Δ hd (.bi "range" (.cons e .nil)) ρ H (.rng 0 b 1) := fun Q X q => he _ X (.range1 h q)
theorem Ev.range2 {e f : ME} {a b : Int} (he : Ev Δ hd e ρ H (.int a)) (hf : Ev Δ hd f ρ H (.int b)) (h0 : smallI a) (h : smallI b) : Ev Δ hd (.bi "range" (.cons e (.cons f .nil))) ρ H (.rng a b 1) := fun Q X q => he _ X (hf _ X (.range2 h0 h q))
theorem Evs.nil : Evs Δ hd .nil ρ H [] := fun Q X q => q
theorem Evs.cons {e : ME} {es : MEs} {v : MV} {vs : List MV} (he : Ev Δ hd e ρ H v) (hes : Evs Δ hd es ρ H vs) : Evs Δ hd (.cons e es) ρ H (v :: vs) := fun Q X q => he _ X (hes _ X q)
/-! rows of truths -/
theorem Ev.and {es : MEs} {b : Bool} (h : EvA Δ hd es ρ H b) : Ev Δ hd (.and es) ρ H (.bool b) := fun Q X q => h _ X q
theorem Ev.or {es : MEs} {b : Bool} (h : EvO Δ hd es ρ H b) : Ev Δ hd (.or es) ρ H (.bool b) := fun Q X q => h _ X q
theorem EvA.one {e : ME} {b : Bool} (h : Ev Δ hd e ρ H (.bool b)) : EvA Δ hd (.cons e .nil) ρ H b := fun Q X q => h _ X q
theorem EvO.one {e : ME} {b : Bool} (h : Ev Δ hd e ρ H (.bool b)) : EvO Δ hd (.cons e .nil) ρ H b := fun Q X q => h _ X q
theorem EvA.f {e f : ME} {es : MEs} (h : Ev Δ hd e ρ H (.bool false)) : EvA Δ hd (.cons e (.cons f es)) ρ H false := fun Q X q => h _ X q
theorem EvA.t {e f : ME} {es : MEs} {b : Bool} (h : Ev Δ hd e ρ H (.bool true)) (hs : EvA Δ hd (.cons f es) ρ H b) : EvA Δ hd (.cons e (.cons f es)) ρ H b := fun Q X q => h _ X (hs _ X q)
theorem EvO.t {e f : ME} {es : MEs} (h : Ev Δ hd e ρ H (.bool true)) : EvO Δ hd (.cons e (.cons f es)) ρ H true := fun Q X q => h _ X q
theorem EvO.f {e f : ME} {es : MEs} {b : Bool} (h : Ev Δ hd e ρ H (.bool false)) (hs : EvO Δ hd (.cons f es) ρ H b) : EvO Δ hd (.cons e (.cons f es)) ρ H b := fun Q X q => h _ X (hs _ X q)
theorem EvA.any {e f : ME} {es : MEs} {a b : Bool} (h : Ev Δ hd e ρ H (.bool a)) (hs : EvA Δ hd (.cons f es) ρ H b) : EvA Δ hd (.cons e (.cons f es)) ρ H (a && b) := by cases a with | true => exact .t h hs | false => exact .f h
theorem EvO.any {e f : ME} {es : MEs} {a b : Bool} (h : Ev Δ hd e ρ H (.bool a)) (hs : EvO Δ hd (.cons f es) ρ H b) : EvO Δ hd (.cons e (.cons f es)) ρ H (a || b) := by cases a with | false => exact .f h hs | true => exact .t h
/-! comparisons -/
theorem Ev.chain {l : ME} {c : MCs} {a : MV} {b : Bool} (hl : Ev Δ hd l ρ H a) (hc : EvC Δ hd c a ρ H b) : Ev Δ hd (.cmp l c) ρ H (.bool b) := fun Q X q => hl _ X (hc _ X q)
theorem EvC.one {e : ME} {op : COp} {a b : MV} {c : Bool} (he : Ev Δ hd e ρ H b) (h : CmpR H op a b c) : EvC Δ hd (.cons op e .nil) a ρ H c := fun Q X q => he _ X ⟨c, h, q⟩
theorem EvC.t {e e' : ME} {op op' : COp} {a b : MV} {c : MCs} {r : Bool} (he : Ev Δ hd e ρ H b) (h : CmpR H op a b true) (hc : EvC Δ hd (.cons op' e' c) b ρ H r) : EvC Δ hd (.cons op e (.cons op' e' c)) a ρ H r := fun Q X q => he _ X ⟨true, h, hc _ X q⟩
theorem EvC.f {e e' : ME} {op op' : COp} {a b : MV} {c : MCs} (he : Ev Δ hd e ρ H b) (h : CmpR H op a b false) : EvC Δ hd (.cons op e (.cons op' e' c)) a ρ H false := fun Q X q => he _ X ⟨false, h, q⟩
theorem EvC.any {e e' : ME} {op op' : COp} {a b : MV} {c : MCs} {r r' : Bool} (he : Ev Δ hd e ρ H b) (h : CmpR H op a b r') (hc : EvC Δ hd (.cons op' e' c) b ρ H r) : EvC Δ hd (.cons op e (.cons op' e' c)) a ρ H (r' && r) := by cases r' with | true => exact .t he h hc | false => exact .f he h
theorem Ev.cmp {l r : ME} {op : COp} {a b : MV} {c : Bool} (hl : Ev Δ hd l ρ H a) (hr : Ev Δ hd r ρ H b) (h : CmpR H op a b c) : Ev Δ hd (.cmp l (.cons op r .nil)) ρ H (.bool c) := .chain hl (.one hr h)

/-! ## steps -/
variable {Q : MV → MH → Prop} {QL : List MV → MH → Prop} {Y : String → MH → Prop}
theorem w_ev {e : ME} {v : MV} (he : Ev Δ hd e ρ H v) (h : Q v H) : wE Δ hd e ρ H Q Y := he _ _ h
theorem w_call {f : String} {es : MEs} {vs : List MV} (he : Evs Δ hd es ρ H vs) (h : Δ hd f vs H Q Y) : wE Δ hd (.call f es) ρ H Q Y := he _ _ h
theorem w_meth {e : ME} {m : String} {es : MEs} {a : Addr} {fs : List (String × MV)} {vs : List MV} (he : Ev Δ hd e ρ H (.ref a)) (ha : H a = some (.inst fs)) (hm : fsGet fs m = none) (hes : Evs Δ hd es ρ H vs) (h : Δ hd m (.ref a :: vs) H Q Y) : wE Δ hd (.meth e m es) ρ H Q Y :=
  he _ _ ⟨a, fs, rfl, ha, hm, hes _ _ h⟩
theorem w_list {es : MEs} {vs : List MV} (he : Evs Δ hd es ρ H vs) (h : New H Q vs) : wE Δ hd (.list es) ρ H Q Y := he _ _ h
theorem w_append {e x : ME} {a : Addr} {l : List MV} {v : MV} (he : Ev Δ hd e ρ H (.ref a)) (ha : H a = some (.lst l)) (hx : Ev Δ hd x ρ H v) (hl : l.length < bigList) (h : Q .none (H.set a (.lst (l ++ [v])))) : wE Δ hd (.bm e "append" (.cons x .nil)) ρ H Q Y :=
  he _ _ ⟨1, .lst ha rfl, hx _ _ ⟨.lst ha rfl, .append ha hl h⟩⟩
theorem w_bi1 {b : String} {e : ME} (h : wE Δ hd e ρ H (fun v H₁ => BiR hd H₁ Q b [v]) Y) : wE Δ hd (.bi b (.cons e .nil)) ρ H Q Y := h
theorem w_sub {e i : ME} (h : wE Δ hd e ρ H (fun v H₁ => wE Δ hd i ρ H₁ (fun k H₂ => ∃ x, SubR H₂ v k x ∧ Q x H₂) Y) Y) : wE Δ hd (.sub e i) ρ H Q Y := h
theorem w_tup {es : MEs} (h : wEs Δ hd es ρ H (fun vs H₁ => Q (.tup vs) H₁) Y) : wE Δ hd (.tup es) ρ H Q Y := h
theorem w_cons {e : ME} {es : MEs} (h : wE Δ hd e ρ H (fun v H₁ => wEs Δ hd es ρ H₁ (fun vs H₂ => QL (v :: vs) H₂) Y) Y) : wEs Δ hd (.cons e es) ρ H QL Y := h
theorem w_evs {es : MEs} {vs : List MV} (he : Evs Δ hd es ρ H vs) (h : QL vs H) : wEs Δ hd es ρ H QL Y := he _ _ h
theorem w_bin {op : BOp} {l r : ME} (h : wE Δ hd l ρ H (fun a H₁ => wE Δ hd r ρ H₁ (fun b H₂ => BinR H₂ Q op a b) Y) Y) : wE Δ hd (.bin op l r) ρ H Q Y := h
theorem w_not {e : ME} (h : wE Δ hd e ρ H (asTruth fun b H₁ => Q (.bool (!b)) H₁) Y) : wE Δ hd (.not e) ρ H Q Y := h
theorem w_callw {f : String} {es : MEs} (h : wEs Δ hd es ρ H (fun vs H₁ => Δ hd f vs H₁ Q Y) Y) : wE Δ hd (.call f es) ρ H Q Y := h
theorem w_slice {e lo hi : ME} {a : Addr} {l h' : MV} {ol oh : Option Int} {vs : List MV} (he : Ev Δ hd e ρ H (.ref a)) (ha : LstAt H a vs) (h1 : Ev Δ hd lo ρ H l) (h2 : Ev Δ hd hi ρ H h') (o1 : OptI l ol) (o2 : OptI h' oh) (h : New H Q (cut vs ol oh)) : wE Δ hd (.slice e lo hi) ρ H Q Y :=
  he _ _ (h1 _ _ (h2 _ _ (.lst ha o1 o2 h)))
/-! strings -/
theorem Ev.cat {l r : ME} {x y : Str} (hl : Ev Δ hd l ρ H (.str x)) (hr : Ev Δ hd r ρ H (.str y)) (h : x.length + y.length ≤ bigList) : Ev Δ hd (.bin .add l r) ρ H (.str (x ++ y)) := fun Q X q => hl _ X (hr _ X (.cat h q))
theorem Ev.sign {e i : ME} {x : Str} {k : Int} (he : Ev Δ hd e ρ H (.str x)) (hi : Ev Δ hd i ρ H (.int k)) (hs : smallI k) (hx : (Txt.charAt x k).isSome = true) : Ev Δ hd (.sub e i) ρ H (.str (Txt.item x k)) := fun Q X q => he _ X (hi _ X ⟨_, .str hs hx, q⟩)
theorem Ev.part {e lo hi : ME} {x : Str} {l h' : MV} {ol oh : Option Int} (he : Ev Δ hd e ρ H (.str x)) (hx : x.length ≤ bigList) (h1 : Ev Δ hd lo ρ H l) (h2 : Ev Δ hd hi ρ H h') (o1 : OptI l ol) (o2 : OptI h' oh) : Ev Δ hd (.slice e lo hi) ρ H (.str (Txt.slice x ol oh)) := fun Q X q => he _ X (h1 _ X (h2 _ X (.str hx o1 o2 q)))
theorem Ev.lenS {e : ME} {x : Str} (he : Ev Δ hd e ρ H (.str x)) (hx : x.length ≤ bigList) : Ev Δ hd (.bi "len" (.cons e .nil)) ρ H (.int x.length) := fun Q X q => he _ X (.lenS hx q)
theorem Ev.strI {e : ME} {i : Int} (he : Ev Δ hd e ρ H (.int i)) (h : i.natAbs < 2 ^ 64) : Ev Δ hd (.bi "str" (.cons e .nil)) ρ H (.str (Str.ofString (toString i))) := fun Q X q => he _ X (.strI h q)
theorem Ev.intS {e : ME} {x : Str} {n : Int} (he : Ev Δ hd e ρ H (.str x)) (hx : x.length ≤ 640) (hn : intText? x = some n) : Ev Δ hd (.bi "int" (.cons e .nil)) ρ H (.int n) := fun Q X q => he _ X (.intS hx hn q)
theorem Ev.range3 {e f g : ME} {a b c : Int} (he : Ev Δ hd e ρ H (.int a)) (hf : Ev Δ hd f ρ H (.int b)) (hg : Ev Δ hd g ρ H (.int c)) (h0 : smallI a) (h1 : smallI b) (h2 : smallI c) (hc : 0 < c) : Ev Δ hd (.bi "range" (.cons e (.cons f (.cons g .nil)))) ρ H (.rng a b c) := fun Q X q => he _ X (hf _ X (hg _ X (.range3 h0 h1 h2 hc q)))
theorem w_split {e s : ME} {x y : Str} (he : Ev Δ hd e ρ H (.str x)) (hs : Ev Δ hd s ρ H (.str y)) (hy : (y.length == 0) = false) (hx : x.length < bigList) (h : New H Q ((Txt.split x y).map .str)) : wE Δ hd (.bm e "split" (.cons s .nil)) ρ H Q Y :=
  he _ _ ⟨2, .str rfl, hs _ _ ⟨.str rfl, .split hy hx h⟩⟩
theorem Ev.join {e s : ME} {x : Str} {a : Addr} {ts : List Str} (he : Ev Δ hd e ρ H (.str x)) (hs : Ev Δ hd s ρ H (.ref a)) (h : LstAt H a (ts.map .str)) (hok : JoinOk x ts = true) : Ev Δ hd (.bm e "join" (.cons s .nil)) ρ H (.str (Txt.join x ts)) := fun Q X q =>
  he _ X ⟨2, .str rfl, hs _ X ⟨.str rfl, .join h hok q⟩⟩
theorem w_bi2 {b : String} {e f : ME} (h : wE Δ hd e ρ H (fun v H₁ => wE Δ hd f ρ H₁ (fun u H₂ => BiR hd H₂ Q b [v, u]) Y) Y) : wE Δ hd (.bi b (.cons e (.cons f .nil))) ρ H Q Y := h
variable {N : Sto → MH → Prop} {R : MV → MH → Prop} {X : String → Sto → MH → Prop} {ss : MSs}
theorem s_done (h : N ρ H) : wSs Δ hd .nil ρ H N R X := h
theorem s_let {x : String} {e : ME} (h : wE Δ hd e ρ H (fun v H₁ => wSs Δ hd ss (ρ.set x v) H₁ N R X) (fun c H₁ => X c ρ H₁)) : wSs Δ hd (.cons (.assign x e) ss) ρ H N R X := h
theorem s_assign {x : String} {e : ME} {v : MV} (he : Ev Δ hd e ρ H v) (h : wSs Δ hd ss (ρ.set x v) H N R X) : wSs Δ hd (.cons (.assign x e) ss) ρ H N R X := he _ _ h
theorem s_expr {e : ME} (h : wE Δ hd e ρ H (fun _ H₁ => wSs Δ hd ss ρ H₁ N R X) (fun c H₁ => X c ρ H₁)) : wSs Δ hd (.cons (.expr e) ss) ρ H N R X := h
theorem s_retw {e : ME} (h : wE Δ hd e ρ H R (fun c H₁ => X c ρ H₁)) : wSs Δ hd (.cons (.ret e) ss) ρ H N R X := h
theorem s_ret {e : ME} {v : MV} (he : Ev Δ hd e ρ H v) (h : R v H) : wSs Δ hd (.cons (.ret e) ss) ρ H N R X := he _ _ h
theorem s_ite {t : ME} {a b : MSs} {c : Bool} (ht : Ev Δ hd t ρ H (.bool c)) (h1 : c = true → wSs Δ hd a ρ H (fun ρ' H' => wSs Δ hd ss ρ' H' N R X) R X) (h2 : c = false → wSs Δ hd b ρ H (fun ρ' H' => wSs Δ hd ss ρ' H' N R X) R X) : wSs Δ hd (.cons (.ite t a b) ss) ρ H N R X :=
  ht _ _ (by cases c with | true => exact h1 rfl | false => exact h2 rfl)
theorem s_iteT {t : ME} {a b : MSs} (ht : Ev Δ hd t ρ H (.bool true)) (h1 : wSs Δ hd a ρ H (fun ρ' H' => wSs Δ hd ss ρ' H' N R X) R X) : wSs Δ hd (.cons (.ite t a b) ss) ρ H N R X := ht _ _ h1
theorem s_skip {t : ME} {a : MSs} (ht : Ev Δ hd t ρ H (.bool false)) (h1 : wSs Δ hd ss ρ H N R X) : wSs Δ hd (.cons (.ite t a .nil) ss) ρ H N R X := ht _ _ h1
theorem s_itew {t : ME} {a b : MSs} (h : wE Δ hd t ρ H (asTruth fun c H₁ => if c = true then wSs Δ hd a ρ H₁ (fun ρ' H' => wSs Δ hd ss ρ' H' N R X) R X else wSs Δ hd b ρ H₁ (fun ρ' H' => wSs Δ hd ss ρ' H' N R X) R X) (fun c H₁ => X c ρ H₁)) : wSs Δ hd (.cons (.ite t a b) ss) ρ H N R X := h
theorem it_t {A B : MH → Prop} {b : Bool} (h : b = true) (z : A H) : asTruth (fun c H₁ => if c = true then A H₁ else B H₁) (.bool b) H := by subst h; exact z
theorem it_f {A B : MH → Prop} {b : Bool} (h : b = false) (z : B H) : asTruth (fun c H₁ => if c = true then A H₁ else B H₁) (.bool b) H := by subst h; exact z
theorem s_raise {c m : String} (h : X c ρ H) : wSs Δ false (.cons (.raise c m) ss) ρ H N R X := ⟨rfl, h⟩
theorem s_setIdx {e i v : ME} {a : Addr} {l : List MV} {k : Int} {x : MV} (hv : Ev Δ hd v ρ H x) (he : Ev Δ hd e ρ H (.ref a)) (hi : Ev Δ hd i ρ H (.int k)) (ha : H a = some (.lst l)) (h0 : 0 ≤ k) (h1 : k < l.length) (h : wSs Δ hd ss ρ (H.set a (.lst (l.set k.toNat x))) N R X) : wSs Δ hd (.cons (.setIdx e i v) ss) ρ H N R X :=
  hv _ _ (he _ _ (hi _ _ (.lst ha h0 h1 h)))
theorem s_setIdxD {e i v : ME} {a : Addr} {l : List (Int × MV)} {k : Int} {x : MV} (hv : Ev Δ hd v ρ H x) (he : Ev Δ hd e ρ H (.ref a)) (hi : Ev Δ hd i ρ H (.int k)) (ha : H a = some (.dct l)) (h1 : l.length < bigList) (h : wSs Δ hd ss ρ (H.set a (.dct (dSet l k x))) N R X) : wSs Δ hd (.cons (.setIdx e i v) ss) ρ H N R X :=
  hv _ _ (he _ _ (hi _ _ (.dct ha h1 h)))
theorem s_setIdxw {e i v : ME} (h : wE Δ hd v ρ H (fun x H₁ => wE Δ hd e ρ H₁ (fun o H₂ => wE Δ hd i ρ H₂ (fun k H₃ => SetIdxR H₃ (fun H' => wSs Δ hd ss ρ H' N R X) o k x) (fun c H₁ => X c ρ H₁)) (fun c H₁ => X c ρ H₁)) (fun c H₁ => X c ρ H₁)) : wSs Δ hd (.cons (.setIdx e i v) ss) ρ H N R X := h
theorem s_setAttrw {e v : ME} {f : String} (h : wE Δ hd v ρ H (fun x H₁ => wE Δ hd e ρ H₁ (fun o H₂ => SetAttrR H₂ (fun H' => wSs Δ hd ss ρ H' N R X) o f x) (fun c H₁ => X c ρ H₁)) (fun c H₁ => X c ρ H₁)) : wSs Δ hd (.cons (.setAttr e f v) ss) ρ H N R X := h
theorem s_setAttr {e v : ME} {f : String} {a : Addr} {fs : List (String × MV)} {x : MV} (hv : Ev Δ hd v ρ H x) (he : Ev Δ hd e ρ H (.ref a)) (ha : H a = some (.inst fs)) (hl : fs.length < 100) (h : wSs Δ hd ss ρ (H.set a (.inst (fsSet fs f x))) N R X) : wSs Δ hd (.cons (.setAttr e f v) ss) ρ H N R X :=
  hv _ _ (he _ _ (.mk ha hl h))
theorem s_try {b h : MSs} {x : String} (hb : wSs Δ false b ρ H (fun ρ' H' => wSs Δ false ss ρ' H' N R X) R (fun c ρ' H' => wSs Δ true h (ρ'.set x (.exc c)) H' (fun ρ'' H'' => wSs Δ false ss (ρ''.del x) H'' N R X) R (fun _ _ _ => False))) : wSs Δ false (.cons (.try_ b x h) ss) ρ H N R X := ⟨rfl, hb⟩
end
/-! ## loops -/
section
variable {Δ : CallT} {hd : Bool} {N : Sto → MH → Prop} {R : MV → MH → Prop} {X : String → Sto → MH → Prop} {ss : MSs}
theorem while_step {test : Sto → MH → (Bool → MH → Prop) → Prop} {body : Sto → MH → (Sto → MH → Prop) → Prop} {Q : Sto → MH → Prop} (I : Nat → Sto → MH → Prop)
    (step : ∀ n ρ H, I n ρ H → ∃ b, (∀ k, k b H → test ρ H k) ∧ (b = true → ∀ k, (∀ m ρ' H', m < n → I m ρ' H' → k ρ' H') → body ρ H k) ∧ (b = false → Q ρ H)) : ∀ n N ρ H, n < N → I n ρ H → whileW test body Q N ρ H := by
  intro n
  induction n using Nat.strongRecOn with
  | ind n ih =>
    intro N ρ H hN i
    cases N with
    | zero => exact absurd hN (Nat.not_lt_zero _)
    | succ N =>
      obtain ⟨b, ht, h1, h2⟩ := step n ρ H i
      refine ht _ ?_
      cases b with
      | false => exact h2 rfl
      | true => exact h1 rfl _ fun m ρ' H' hm i' => ih m hm N ρ' H' (Nat.lt_of_lt_of_le hm (Nat.le_of_lt_succ hN)) i'
theorem s_while {t : ME} {b : MSs} (I : Nat → Sto → MH → Prop)
    (step : ∀ n ρ H, I n ρ H → ∃ c, Ev Δ hd t ρ H (.bool c) ∧ (c = true → ∀ k, (∀ m ρ' H', m < n → I m ρ' H' → k ρ' H') → wSs Δ hd b ρ H k R X) ∧ (c = false → wSs Δ hd ss ρ H N R X)) {n : Nat} {ρ : Sto} {H : MH} (h : I n ρ H) :
    wSs Δ hd (.cons (.whil t b) ss) ρ H N R X :=
  ⟨n + 1, while_step I (fun n ρ H i => (step n ρ H i).imp fun c z => ⟨fun k hk => z.1 _ _ hk, z.2⟩) n _ _ _ (Nat.lt_succ_self n) h⟩
theorem for_inv {src : MV} {vs₀ : List MV} {body : MV → Sto → MH → (Sto → MH → Prop) → Prop} {Q : Sto → MH → Prop} {vs : List MV} {ρ : Sto} {H : MH} (I : List MV → Sto → MH → Prop)
    (hel : ∀ vs ρ H, I vs ρ H → Elems H src vs₀) (step : ∀ v vs ρ H k, I (v :: vs) ρ H → (∀ ρ' H', I vs ρ' H' → k ρ' H') → body v ρ H k) (fin : ∀ ρ H, I [] ρ H → Q ρ H) (h : I vs ρ H) : forW src vs₀ body Q vs ρ H := by
  induction vs generalizing ρ H with
  | nil => exact fin _ _ h
  | cons v vs ih => exact step v vs ρ H _ h fun ρ' H' i => ⟨hel _ _ _ i, ih i⟩
theorem s_forT {xs : List String} {it : ME} {b : MSs} {a : Addr} {vs : List MV} {ρ : Sto} {H : MH} (I : List MV → Sto → MH → Prop) (hit : Ev Δ false it ρ H (.ref a)) (hel : ∀ vs' ρ H, I vs' ρ H → H a = some (.lst vs)) (h : I vs ρ H)
    (step : ∀ v vs ρ H k, I (v :: vs) ρ H → (∀ ρ' H', I vs ρ' H' → k ρ' H') → ∃ us ρ', v = .tup us ∧ BindR xs us ρ ρ' ∧ wSs Δ false b ρ' H k R X) (fin : ∀ ρ H, I [] ρ H → wSs Δ false ss ρ H N R X) : wSs Δ false (.cons (.forT xs it b) ss) ρ H N R X :=
  ⟨rfl, hit _ _ ⟨vs, .lst (.inl (hel _ _ _ h)), for_inv I (fun vs ρ H i => .lst (.inl (hel _ _ _ i))) step fin h⟩⟩
theorem range_go {a b : Int} {body : MV → Sto → MH → (Sto → MH → Prop) → Prop} {Q : Sto → MH → Prop} {vs₀ : List MV} {src : MV} (hel : ∀ H, Elems H src vs₀) (I : Int → Sto → MH → Prop)
    (step : ∀ i ρ H k, a ≤ i → i < b → I i ρ H → (∀ ρ' H', I (i + 1) ρ' H' → k ρ' H') → body (.int i) ρ H k) (fin : ∀ i ρ H, b ≤ i → I i ρ H → Q ρ H) : ∀ (n : Nat) (x : Int) (ρ : Sto) (H : MH), (b - x).toNat = n → a ≤ x → I x ρ H → forW src vs₀ body Q ((rangeL x b 1).map .int) ρ H := by
  intro n
  induction n with
  | zero => intro x ρ H hn hx i; rw [rangeL_nil (by decide) (by (first | lia | omega))]; exact fin _ _ _ (by (first | lia | omega)) i
  | succ n ih => intro x ρ H hn hx i; rw [rangeL_cons (by decide) (by (first | lia | omega))]; exact step x ρ H _ hx (by (first | lia | omega)) i fun ρ' H' i' => ⟨hel _, ih _ _ _ (by (first | lia | omega)) (by (first | lia | omega)) i'⟩
/-- a loop over a range -/
theorem s_range {x : String} {it : ME} {bd : MSs} {a b : Int} {ρ : Sto} {H : MH} (I : Int → Sto → MH → Prop) (hit : Ev Δ false it ρ H (.rng a b 1)) (h : I a ρ H)
    (step : ∀ i ρ H k, a ≤ i → i < b → I i ρ H → (∀ ρ' H', I (i + 1) ρ' H' → k ρ' H') → wSs Δ false bd (ρ.set x (.int i)) H k R X) (fin : ∀ i ρ H, b ≤ i → I i ρ H → wSs Δ false ss ρ H N R X) : wSs Δ false (.cons (.for_ x it bd) ss) ρ H N R X :=
  ⟨rfl, hit _ _ ⟨_, .rng, range_go (fun _ => .rng) I step fin _ _ _ _ rfl (Int.le_refl _) h⟩⟩
/-! comprehensions -/
theorem comp_pure {src : MV} {vs₀ : List MV} {cond : MV → MH → (Bool → MH → Prop) → Prop} {elt : MV → MH → (MV → MH → Prop) → Prop} {Q : MV → MH → Prop} {H : MH} (p : MV → Bool) (f : MV → MV) (he : Elems H src vs₀)
    : ∀ (vs acc : List MV), (∀ v ∈ vs, ∀ k, k (p v) H → cond v H k) → (∀ v ∈ vs, p v = true → ∀ k, k (f v) H → elt v H k) → acc.length + vs.length ≤ bigList → New H Q (acc ++ (vs.filter p).map f) → compW src vs₀ cond elt Q vs acc H := by
  intro vs
  induction vs with
  | nil => intro acc _ _ _ q c hc; have := q c hc; rwa [List.filter_nil, List.map_nil, List.append_nil] at this
  | cons v vs ih =>
    intro acc hc hf hl q
    rw [List.length_cons] at hl
    refine ⟨Nat.lt_of_lt_of_le (Nat.lt_add_of_pos_right (Nat.succ_pos _)) hl, hc v (.head _) _ ?_⟩
    cases hp : p v with
    | true =>
      rw [List.filter_cons_of_pos hp, List.map_cons] at q
      exact hf v (.head _) hp _ ⟨he, ih _ (fun w hw => hc w (.tail _ hw)) (fun w hw => hf w (.tail _ hw)) (by rw [List.length_append]; simp only [List.length_cons, List.length_nil]; (first | lia | omega)) (by rw [List.append_assoc]; exact q)⟩
    | false =>
      rw [List.filter_cons_of_neg (by rw [hp]; exact Bool.noConfusion)] at q
      exact ⟨he, ih _ (fun w hw => hc w (.tail _ hw)) (fun w hw => hf w (.tail _ hw)) (by (first | lia | omega)) q⟩
/-- a comprehension by an invariant -/
theorem comp_inv {src : MV} {vs₀ : List MV} {cond : MV → MH → (Bool → MH → Prop) → Prop} {elt : MV → MH → (MV → MH → Prop) → Prop} {Q : MV → MH → Prop} (I : List MV → List MV → MH → Prop)
    (he : ∀ vs acc H, I vs acc H → Elems H src vs₀) (hc : ∀ v H k, k true H → cond v H k) (step : ∀ v vs acc H k, I (v :: vs) acc H → (∀ r H', I vs (acc ++ [r]) H' → k r H') → elt v H k) (fin : ∀ acc H c, I [] acc H → H c = none → Q (.ref c) (H.set c (.lst acc)))
    : ∀ (vs acc : List MV) (H : MH), acc.length + vs.length ≤ bigList → I vs acc H → compW src vs₀ cond elt Q vs acc H := by
  intro vs
  induction vs with
  | nil => intro acc H _ h c hc; exact fin _ _ _ h hc
  | cons v vs ih =>
    intro acc H hl h
    rw [List.length_cons] at hl
    exact ⟨Nat.lt_of_lt_of_le (Nat.lt_add_of_pos_right (Nat.succ_pos _)) hl, hc v _ _ (step v vs acc H _ h fun r H' i => ⟨he _ _ _ i, ih _ _ (by rw [List.length_append]; simp only [List.length_cons, List.length_nil]; (first | lia | omega)) i⟩)⟩
/-- a comprehension over a range, each item by itself -/
theorem w_compR {elt it cond : ME} {x : String} {b : Int} {ρ : Sto} {H : MH} {Q : MV → MH → Prop} {Y : String → MH → Prop} (p : Int → Bool) (f : Int → MV) (hit : Ev Δ false it ρ H (.rng 0 b 1)) (hb : b ≤ 100000) (hc : ∀ i, 0 ≤ i → i < b → Ev Δ false cond (ρ.set x (.int i)) H (.bool (p i)))
    (hf : ∀ i, 0 ≤ i → i < b → p i = true → Ev Δ false elt (ρ.set x (.int i)) H (f i)) (q : New H Q (((rangeL 0 b 1).filter p).map f)) : wE Δ false (.comp elt x it cond) ρ H Q Y := by
  refine ⟨rfl, hit _ _ ⟨_, .rng, comp_pure (fun v => match v with | .int i => p i | _ => false) (fun v => match v with | .int i => f i | _ => .none) .rng _ _ (fun v hv k hk => ?_) (fun v hv hp k hk => ?_) ?_ ?_⟩⟩
  · obtain ⟨i, hi, rfl⟩ := List.mem_map.mp hv
    have := rangeL_mem (by decide) hi
    exact hc i this.1 this.2 _ _ hk
  · obtain ⟨i, hi, rfl⟩ := List.mem_map.mp hv
    have := rangeL_mem (by decide) hi
    exact hf i this.1 this.2 hp _ _ hk
  · rw [List.length_nil, List.length_map, rangeL_len1, Nat.zero_add]; unfold bigList; (first | lia | omega)
  · rw [List.nil_append, List.filter_map, List.map_map]; exact q
/-- a comprehension over a list -/
theorem w_compL {elt it cond : ME} {x : String} {a : Addr} {vs : List MV} {ρ : Sto} {H : MH} {Q : MV → MH → Prop} {Y : String → MH → Prop} (p : MV → Bool) (f : MV → MV) (hit : Ev Δ false it ρ H (.ref a)) (ha : H a = some (.lst vs)) (hl : vs.length ≤ bigList) (hc : ∀ v ∈ vs, Ev Δ false cond (ρ.set x v) H (.bool (p v)))
    (hf : ∀ v ∈ vs, p v = true → Ev Δ false elt (ρ.set x v) H (f v)) (q : New H Q ((vs.filter p).map f)) : wE Δ false (.comp elt x it cond) ρ H Q Y :=
  ⟨rfl, hit _ _ ⟨_, .lst (.inl ha), comp_pure p f (.lst (.inl ha)) _ _ (fun v hv k hk => hc v hv _ _ hk) (fun v hv hp k hk => hf v hv hp _ _ hk) (by rw [List.length_nil, Nat.zero_add]; exact hl) q⟩⟩
theorem call_of {P : MProg} {n : Nat} {f : String} {d : MFn} {vs : List MV} {H : MH} {Q : MV → MH → Prop} {Y : String → MH → Prop} (h : P.fn f = some d) (hl : d.params.length = vs.length)
    (hw : wSs (callW P n) hd d.body (Sto.ofArgs d.params vs) H (fun _ H' => Q .none H') Q (fun c _ H' => Y c H')) : callW P (n + 1) hd f vs H Q Y := ⟨d, h, hl, hw⟩
theorem atIdx_nn {vs : List MV} {i : Int} {x : MV} (h : 0 ≤ i) (e : vs[i.toNat]? = some x) : atIdx vs i = some x := (if_pos h).trans e
theorem smallOf {i : Int} (h : 0 ≤ i) (h2 : i ≤ 1000000) : smallI i := ⟨Int.le_trans (by decide) h, Int.le_trans h2 (by decide)⟩
end
end Mine
end
-- macros begin
local macro_rules | `(tactic| sizeOf_list_dec) => `(tactic| first | assumption | rfl | exact Mine.Sto.gets _ _ _ | (apply Mine.Sto.gn; rfl; sizeOf_list_dec))
local macro_rules | `(tactic| array_get_dec) => `(tactic| first
  | exact Mine.Ev.int | exact Mine.Ev.str | exact Mine.Ev.none | exact Mine.Ev.bool | exact Mine.Ev.gconst
  | (apply Mine.Ev.var; sizeOf_list_dec)
  | (apply Mine.Ev.add <;> array_get_dec)
  | (apply Mine.Ev.sub <;> array_get_dec)
  | (apply Mine.Ev.attr; array_get_dec; assumption; rfl)
  | (apply Mine.Ev.item; array_get_dec; array_get_dec; assumption; assumption)
  | (apply Mine.Ev.itemT; array_get_dec; array_get_dec; rfl)
  | (apply Mine.Ev.not; array_get_dec)
  | exact Mine.Evs.nil
  | (apply Mine.Evs.cons <;> array_get_dec)
  | (apply Mine.Ev.tup; array_get_dec)
  | (apply Mine.Ev.neg; array_get_dec)
  | (apply Mine.Ev.cmp; array_get_dec; array_get_dec; constructor))
-- macros end

section
set_option autoImplicit false
set_option linter.unusedVariables false
namespace Mine
open PySem

noncomputable def Ext (H H' : MH) : Prop := ∀ a o, H a = some o → H' a = some o
theorem Ext.refl (H : MH) : Ext H H := fun _ _ h => h
theorem Ext.trans {H H' H'' : MH} (x : Ext H H') (y : Ext H' H'') : Ext H H'' := fun a o h => y a o (x a o h)
theorem mne {H : MH} {a c : Addr} {o : MObj} (h : H c = none) (e : H a = some o) : a ≠ c := fun q => by rw [q, h] at e; cases e
theorem Ext.newer {H H' : MH} {c : Addr} (o : MObj) (x : Ext H H') (h : H c = none) : Ext H (H'.set c o) := fun a y e => (MH.set_neE _ _ (mne h e)).trans (x a y e)
theorem Ext.new {H : MH} {c : Addr} (o : MObj) (h : H c = none) : Ext H (H.set c o) := Ext.newer o (.refl H) h
/-! ## the train's state -/
noncomputable def mvo : Option Int → MV
  | none => .none
  | some i => .int i
noncomputable def rowOf (g : Grid) (i : Int) (m : Nat) : List MV := (List.range m).map fun (j : Nat) => mvo (g i (j : Int))
noncomputable def refsOf (ra : Int → Addr) (n : Nat) : List MV := (List.range n).map fun (i : Nat) => .ref (ra (i : Int))
noncomputable def upd (g : Grid) (s l : Int) (v : Option Int) : Grid := fun s' l' => if s' = s ∧ l' = l then v else g s' l'
theorem tab_at {f : Int → MV} {j : Int} {m : Int} (h0 : 0 ≤ j) (h1 : j < m) : ((List.range m.toNat).map fun (i : Nat) => f (i : Int))[j.toNat]? = some (f j) := by
  have h2 : j.toNat < m.toNat := (Int.toNat_lt_toNat (Int.lt_of_le_of_lt h0 h1)).mpr h1
  rw [List.getElem?_map, List.getElem?_range h2]
  exact congrArg some (congrArg f (Int.toNat_of_nonneg h0))
theorem rowOf_at {g : Grid} {i j m : Int} (h0 : 0 ≤ j) (h1 : j < m) : atIdx (rowOf g i m.toNat) j = some (mvo (g i j)) := atIdx_nn h0 (tab_at (f := fun j => mvo (g i j)) h0 h1)
theorem refsOf_at {ra : Int → Addr} {i n : Int} (h0 : 0 ≤ i) (h1 : i < n) : atIdx (refsOf ra n.toNat) i = some (.ref (ra i)) := atIdx_nn h0 (tab_at (f := fun i => .ref (ra i)) h0 h1)
theorem rowOf_length {g : Grid} {i : Int} {m : Nat} : (rowOf g i m).length = m := by rw [rowOf, List.length_map, List.length_range]
theorem row_lt {g : Grid} {i k m : Int} (h : k < m) (h0 : 0 ≤ k) : k < ((rowOf g i m.toNat).length : Int) := by rw [rowOf_length, Int.toNat_of_nonneg (Int.le_of_lt (Int.lt_of_le_of_lt h0 h))]; exact h
theorem rowOf_set {g : Grid} {i j : Int} {m : Nat} {v : Option Int} (h0 : 0 ≤ j) : (rowOf g i m).set j.toNat (mvo v) = rowOf (upd g i j v) i m := by
  apply List.ext_getElem?
  intro k
  rw [List.getElem?_set, rowOf_length]
  unfold rowOf upd
  rw [List.getElem?_map, List.getElem?_map]
  by_cases q : j.toNat = k
  · subst q
    rw [if_pos rfl]
    by_cases h : j.toNat < m
    · rw [if_pos h, List.getElem?_range h, Option.map_some, Int.toNat_of_nonneg h0, if_pos ⟨rfl, rfl⟩]
    · rw [if_neg h, List.getElem?_eq_none (by rw [List.length_range]; exact Nat.le_of_not_lt h)]; rfl
  · rw [if_neg q]
    refine Option.map_congr fun x hx => ?_
    have : x = k := by
      rw [List.getElem?_eq_some_iff] at hx; obtain ⟨_, hx⟩ := hx; rw [List.getElem_range] at hx; exact hx.symm
    subst this
    rw [if_neg fun z => q (by rw [← z.2]; rfl)]
theorem rowOf_upd_ne {g : Grid} {i i' j : Int} {m : Nat} {v : Option Int} (h : i' ≠ i) : rowOf (upd g i j v) i' m = rowOf g i' m := List.map_congr_left fun k _ => congrArg mvo (if_neg fun z => h z.1)

noncomputable def trFs (seats stops coming : Int) (rd hl : Addr) : List (String × MV) := [("seats", .int seats), ("stops", .int stops), ("coming", .int coming), ("rides", .ref rd), ("held", .ref hl)]
/-- a grid of cells in the heap -/
structure Gd (H : MH) (hl : Addr) (ra : Int → Addr) (seats stops : Int) (g : Grid) : Prop where
  hseats : 1 ≤ seats ∧ seats ≤ 60
  hstops : 2 ≤ stops ∧ stops ≤ 60
  hl_ : H hl = some (.lst (refsOf ra seats.toNat))
  row : ∀ i, 0 ≤ i → i < seats → H (ra i) = some (.lst (rowOf g i (stops - 1).toNat))
  inj : ∀ i j, 0 ≤ i → i < seats → 0 ≤ j → j < seats → ra i = ra j → i = j
  nhl : ∀ i, 0 ≤ i → i < seats → ra i ≠ hl
/-- the cells of a grid -/
noncomputable def Cel (ra : Int → Addr) (seats : Int) (a : Addr) : Prop := ∃ i, 0 ≤ i ∧ i < seats ∧ a = ra i
structure Tr (H : MH) (t rd hl : Addr) (ra : Int → Addr) (seats stops coming : Int) (rides : List (Int × MV)) (g : Grid) : Prop where
  gd : Gd H hl ra seats stops g
  at_ : H t = some (.inst (trFs seats stops coming rd hl))
  rd_ : H rd = some (.dct rides)
noncomputable def Own (t rd hl : Addr) (ra : Int → Addr) (seats : Int) (a : Addr) : Prop := a = t ∨ a = rd ∨ a = hl ∨ Cel ra seats a
/-- all but the train stands -/
noncomputable def Frm (own : Addr → Prop) (H H' : MH) : Prop := ∀ a o, ¬ own a → H a = some o → H' a = some o
theorem Ext.frm {H H' : MH} {own : Addr → Prop} (e : Ext H H') : Frm own H H' := fun a o _ h => e a o h
theorem Frm.trans {H H' : MH} {own : Addr → Prop} {H'' : MH} (x : Frm own H H') (y : Frm own H' H'') : Frm own H H'' := fun a o n h => y a o n (x a o n h)

section
variable {n : Nat} {hd : Bool} {H H' : MH} {Q : MV → MH → Prop} {X : String → MH → Prop} {t rd hl : Addr} {ra : Int → Addr} {seats stops coming : Int} {rides : List (Int × MV)} {g : Grid}
theorem Tr.hseats (T : Tr H t rd hl ra seats stops coming rides g) : 1 ≤ seats ∧ seats ≤ 60 := T.gd.hseats
theorem Tr.hstops (T : Tr H t rd hl ra seats stops coming rides g) : 2 ≤ stops ∧ stops ≤ 60 := T.gd.hstops
theorem Tr.hl_ (T : Tr H t rd hl ra seats stops coming rides g) : H hl = some (.lst (refsOf ra seats.toNat)) := T.gd.hl_
theorem Tr.row (T : Tr H t rd hl ra seats stops coming rides g) : ∀ i, 0 ≤ i → i < seats → H (ra i) = some (.lst (rowOf g i (stops - 1).toNat)) := T.gd.row
theorem Gd.keep (G : Gd H hl ra seats stops g) (k : ∀ a o, (a = hl ∨ Cel ra seats a) → H a = some o → H' a = some o) : Gd H' hl ra seats stops g :=
  ⟨G.hseats, G.hstops, k _ _ (.inl rfl) G.hl_, fun i h0 h1 => k _ _ (.inr ⟨i, h0, h1, rfl⟩) (G.row i h0 h1), G.inj, G.nhl⟩
theorem Tr.keep (T : Tr H t rd hl ra seats stops coming rides g) (k : ∀ a o, Own t rd hl ra seats a → H a = some o → H' a = some o) : Tr H' t rd hl ra seats stops coming rides g :=
  ⟨T.gd.keep fun a o z => k a o (.inr (.inr z)), k _ _ (.inl rfl) T.at_, k _ _ (.inr (.inl rfl)) T.rd_⟩
theorem Tr.ext (T : Tr H t rd hl ra seats stops coming rides g) (e : Ext H H') : Tr H' t rd hl ra seats stops coming rides g := T.keep fun a o _ => e a o
theorem Gd.setCell (G : Gd H hl ra seats stops g) {s l : Int} {v : Option Int} (h0 : 0 ≤ s) (h1 : s < seats) (h2 : 0 ≤ l) : Gd (H.set (ra s) (.lst ((rowOf g s (stops - 1).toNat).set l.toNat (mvo v)))) hl ra seats stops (upd g s l v) := by
  refine ⟨G.hseats, G.hstops, (MH.set_neE _ _ (G.nhl s h0 h1).symm).trans G.hl_, fun i hi0 hi1 => ?_, G.inj, G.nhl⟩
  by_cases q : i = s
  · subst q; rw [MH.set_selfE, rowOf_set h2]
  · rw [MH.set_neE _ _ fun z => q (G.inj i s hi0 hi1 h0 h1 z), rowOf_upd_ne q]; exact G.row i hi0 hi1
theorem s_need_stretch (T : Tr H t rd hl ra seats stops coming rides g) {b e : Int} (hok : 0 ≤ b → b < e → e < stops → Q .none H) (hbad : ¬ (0 ≤ b ∧ b < e ∧ e < stops) → X "NoStretch" H) : callW theP (n + 1) false "need_stretch" [.ref t, .int b, .int e] H Q X := by
  refine call_of (d := f_Train_need_stretch) rfl rfl ?_
  have a1 := T.at_
  refine s_ite (Ev.not (Ev.chain Ev.int (EvC.any (by array_get_dec) .le (EvC.any (by array_get_dec) .lt (EvC.one (by array_get_dec) .lt))))) (fun c => s_raise (hbad fun z => ?_)) (fun c => s_done (s_done ?_))
  · rw [decide_eq_true z.1, decide_eq_true z.2.1, decide_eq_true z.2.2] at c; exact Bool.noConfusion c
  · obtain ⟨c1, c⟩ := Bool.and_eq_true_iff.mp ((Bool.not_eq_false' _) ▸ c)
    obtain ⟨c2, c3⟩ := Bool.and_eq_true_iff.mp c
    exact hok (of_decide_eq_true c1) (of_decide_eq_true c2) (of_decide_eq_true c3)
theorem isNil_mvo {o : Option Int} : isNil (mvo o) = o.isNone := by cases o <;> rfl
theorem tn {a b : Int} (h : b < a) : (a - b).toNat = (a - (b + 1)).toNat + 1 := by (first | lia | omega)
theorem tn_lt {a b c : Int} (h : b < c) (h2 : b < a) : (a - c).toNat < (a - b).toNat := by omega
theorem lead_go {g : Grid} {stops seat stop : Int} (h : stop < stops - 1) : lead g stops seat stop = if (g seat stop).isNone then lead g stops seat (stop + 1) else stop := by
  unfold lead
  rw [tn h]
  rfl
theorem lead_end {g : Grid} {stops seat stop : Int} (h : ¬ stop < stops - 1) : lead g stops seat stop = stop := by
  unfold lead
  rw [Int.toNat_eq_zero.mpr (Int.sub_nonpos_of_le (Int.not_lt.mp h))]
  rfl
theorem s_leads (T : Tr H t rd hl ra seats stops coming rides g) {seat stop : Int} (h0 : 0 ≤ seat) (h1 : seat < seats) (h2 : 0 ≤ stop) (h3 : stop < stops) (h : Q (.int (lead g stops seat stop)) H) : callW theP (n + 1) hd "leads" [.ref t, .int seat, .int stop] H Q X := by
  refine call_of (d := f_Train_leads) rfl rfl ?_
  have a1 := T.at_
  have a2 := T.hl_
  have a3 := T.row _ h0 h1
  have a4 := refsOf_at (ra := ra) h0 h1
  refine s_while (fun k ρ H' => ∃ stop, H' = H ∧ ρ "self" = some (.ref t) ∧ ρ "seat" = some (.int seat) ∧ ρ "stop" = some (.int stop) ∧ 0 ≤ stop ∧ k = (stops - 1 - stop).toNat ∧ Q (.int (lead g stops seat stop)) H) ?_ (n := (stops - 1 - stop).toNat) ⟨stop, rfl, rfl, rfl, rfl, h2, rfl, h⟩
  rintro k ρ H' ⟨stop, rfl, g1, g2, g3, h2, rfl, h⟩
  by_cases q : stop < stops - 1
  · have a5 := rowOf_at (g := g) (i := seat) h2 q
    rw [lead_go q] at h
    refine ⟨(g seat stop).isNone, Ev.and (EvA.t (by rw [← decide_eq_true q]; array_get_dec) (EvA.one (by rw [← isNil_mvo]; array_get_dec))), fun c kk hkk => ?_, fun c => ?_⟩
    · rw [if_pos c] at h
      exact s_assign (by array_get_dec) (s_done (hkk _ _ _ (tn_lt (Int.lt_succ stop) q) ⟨stop + 1, rfl, Sto.gn rfl g1, Sto.gn rfl g2, Sto.gets _ _ _, Int.le_add_one h2, rfl, h⟩))
    · rw [if_neg (by rw [c]; exact Bool.noConfusion)] at h
      exact s_ret (by array_get_dec) h
  · rw [lead_end q] at h
    exact ⟨false, Ev.and (EvA.f (by rw [← decide_eq_false q]; array_get_dec)), fun c => Bool.noConfusion c, fun c => s_ret (by array_get_dec) h⟩
end
end Mine
end
section
set_option autoImplicit false
set_option linter.unusedVariables false
namespace Mine
open PySem
section
variable {n : Nat} {hd : Bool} {H H' : MH} {Q : MV → MH → Prop} {X : String → MH → Prop} {t rd hl : Addr} {ra : Int → Addr} {seats stops coming : Int} {rides : List (Int × MV)} {g : Grid}
/-! blocked legs -/
noncomputable def full (g : Grid) (seats leg : Int) : Bool := (rangeL 0 seats 1).all fun i => (g i leg).isSome
noncomputable def blockF (g : Grid) (seats : Int) : Nat → Int → Option Int
  | 0, _ => none
  | k + 1, leg => if full g seats leg then some leg else blockF g seats k (leg + 1)
theorem not_nil_mvo {o : Option Int} : (!isNil (mvo o)) = o.isSome := by cases o <;> rfl
theorem filter_true {α : Type} (l : List α) : l.filter (fun _ => true) = l := List.filter_eq_self.mpr fun _ _ => rfl
/-- all of a row of truths -/
theorem b_all {l : List Int} {f : Int → Bool} {c : Addr} (q : Q (.bool (l.all f)) (H.set c (.lst (l.map fun i => .bool (f i))))) : BiR false (H.set c (.lst (l.map fun i => MV.bool (f i)))) Q "all" [.ref c] :=
  .allL (bs := l.map f) rfl (.inl ((MH.set_selfE _ _ _).trans (by rw [List.map_map]; rfl))) (by rw [List.all_map]; exact q)
theorem block_end {b e : Int} (h : e ≤ b) : blockF g seats (e - b).toNat b = none := by rw [Int.toNat_eq_zero.mpr (Int.sub_nonpos_of_le h)]; rfl
theorem block_go {b e : Int} (h : b < e) : blockF g seats (e - b).toNat b = if full g seats b then some b else blockF g seats (e - (b + 1)).toNat (b + 1) := by rw [tn h]; rfl
theorem s_blocking (T : Tr H t rd hl ra seats stops coming rides g) {b e : Int} (h0 : 0 ≤ b) (h1 : b < e) (h2 : e < stops) (h : ∀ H', Ext H H' → Q (mvo (blockF g seats (e - b).toNat b)) H') : callW theP (n + 1) false "blocking" [.ref t, .int b, .int e] H Q X := by
  refine call_of (d := f_Train_blocking) rfl rfl ?_
  have p2 := T.hstops
  have p1 := T.hseats
  have ub : e ≤ 60 := Int.le_of_lt (Int.lt_of_lt_of_le h2 p2.2)
  refine s_range (fun i ρ H' => ρ "self" = some (.ref t) ∧ Ext H H' ∧ blockF g seats (e - b).toNat b = blockF g seats (e - i).toNat i) (Ev.range2 (by array_get_dec) (by array_get_dec) (smallOf h0 (by (first | lia | omega))) (smallOf (by (first | lia | omega)) (by (first | lia | omega)))) ⟨rfl, .refl _, rfl⟩ ?_ ?_
  · rintro i ρ H' k hi1 hi2 ⟨g1, E, hb⟩ hk
    have T := T.ext E
    have a1 := T.at_
    have a2 := T.hl_
    have h2' : 0 ≤ i := Int.le_trans h0 hi1
    refine s_itew (w_bi1 (w_compR (fun _ => true) (fun j => .bool (g j i).isSome) (Ev.range1 (by array_get_dec) (smallOf (by (first | lia | omega)) (by (first | lia | omega)))) (by (first | lia | omega)) (fun _ _ _ => Ev.bool) (fun j hj0 hj1 _ => ?_) fun x hx => ?_))
    · have a3 := T.row _ hj0 hj1
      have a4 := refsOf_at (ra := ra) hj0 hj1
      have a5 := rowOf_at (g := g) (i := j) (m := stops - 1) h2' (by (first | lia | omega))
      rw [← not_nil_mvo]
      array_get_dec
    · rw [filter_true]
      refine b_all ?_
      rw [block_go hi2] at hb
      show if full g seats i = true then _ else _
      have E2 := E.trans (Ext.new (.lst ((rangeL 0 seats 1).map fun j => MV.bool (g j i).isSome)) hx)
      by_cases c : full g seats i = true
      · rw [if_pos c] at hb ⊢
        have := h _ E2
        rw [hb] at this
        exact s_ret (by array_get_dec) this
      · rw [if_neg c] at hb ⊢
        exact s_done (s_done (hk _ _ ⟨Sto.gn rfl g1, E2, hb⟩))
  · rintro i ρ H' hi ⟨_, E, hb⟩
    have := h _ E
    rw [hb, block_end hi] at this
    exact s_ret Ev.none this
/-! the row found -/
noncomputable def partMV (p : Int × Int × Int) : MV := .tup [.int p.1, .int p.2.1, .int p.2.2]
/-- how the parts found go on -/
theorem found_go {e at_ : Int} {N : Nat} (h : at_ < e) : foundF g seats stops e (N + 1) at_ = ((bestN g stops e at_ (seats - 1).toNat).1, at_, (bestN g stops e at_ (seats - 1).toNat).2) :: foundF g seats stops e N (bestN g stops e at_ (seats - 1).toNat).2 := if_pos h
theorem found_end {e : Int} {N : Nat} : foundF g seats stops e N e = [] := by
  cases N with
  | zero => rfl
  | succ N => exact if_neg (Int.lt_irrefl e)
theorem best_go {e at_ i : Int} (h : 1 ≤ i) : bestN g stops e at_ (i + 1 - 1).toNat = if (bestN g stops e at_ (i - 1).toNat).2 < minI (lead g stops i at_) e then (i, minI (lead g stops i at_) e) else bestN g stops e at_ (i - 1).toNat := by
  have e1 : (i + 1 - 1).toNat = (i - 1).toNat + 1 := by (first | lia | omega)
  have e2 : (((i - 1).toNat : Nat) : Int) + 1 = i := by (first | lia | omega)
  have e3 : ∀ k : Nat, bestN g stops e at_ (k + 1) = if (bestN g stops e at_ k).2 < minI (lead g stops ((k : Int) + 1) at_) e then ((k : Int) + 1, minI (lead g stops ((k : Int) + 1) at_) e) else bestN g stops e at_ k := fun _ => rfl
  rw [e1, e3, e2]
theorem s_found (T : Tr H t rd hl ra seats stops coming rides g) {b e : Int} (h0 : 0 ≤ b) (h1 : b < e) (h2 : e < stops) (hfree : ∀ leg, b ≤ leg → leg < e → ∃ seat, 0 ≤ seat ∧ seat < seats ∧ g seat leg = none)
    (h : ∀ c H', H c = none → Ext H H' → H' c = some (.lst ((foundF g seats stops e (e - b).toNat b).map partMV)) → Q (.ref c) H') : callW theP (n + 2) false "found" [.ref t, .int b, .int e] H Q X := by
  refine call_of (d := f_Train_found) rfl rfl ?_
  have p2 := T.hstops
  have p1 := T.hseats
  refine s_let (w_list Evs.nil fun c hc => s_assign (by array_get_dec) ?_)
  refine s_while (fun k ρ H' => ∃ at_ acc N, ρ "self" = some (.ref t) ∧ ρ "end" = some (.int e) ∧ ρ "told" = some (.ref c) ∧ ρ "at" = some (.int at_) ∧ b ≤ at_ ∧ at_ ≤ e ∧ k = (e - at_).toNat ∧ Ext H H' ∧ H' c = some (.lst (acc.map partMV)) ∧ (acc.length : Int) ≤ at_ - b ∧ (e - at_).toNat ≤ N ∧ foundF g seats stops e (e - b).toNat b = acc ++ foundF g seats stops e N at_)
    ?_ (n := (e - b).toNat) ⟨b, [], _, rfl, rfl, rfl, rfl, Int.le_refl _, Int.le_of_lt h1, rfl, Ext.new _ hc, MH.set_selfE _ _ _, Int.le_of_eq (Int.sub_self b).symm, Nat.le_refl _, rfl⟩
  rintro k ρ H' ⟨at_, acc, N, g1, g2, g3, g4, i1, i2, rfl, E, hcc, i4, i5, i6⟩
  refine ⟨decide (at_ < e), by array_get_dec, fun hlt k hk => ?_, fun hge => ?_⟩
  · replace hlt := of_decide_eq_true hlt
    have T := T.ext E
    have a1 := T.at_
    obtain ⟨seat, hs0, hs1, hsg⟩ := hfree at_ i1 hlt
    have q0 : 0 ≤ at_ := Int.le_trans h0 i1
    have q1 : at_ < stops := Int.lt_trans hlt h2
    refine s_assign (by array_get_dec) (s_let (w_bi2 (w_meth (by array_get_dec) a1 rfl (by array_get_dec) (s_leads T (Int.le_refl _) (by (first | lia | omega)) q0 q1 (w_ev (by array_get_dec) (.min2 rfl ?_))))))
    refine s_range (fun i ρ H2 => H2 = H' ∧ ρ "self" = some (.ref t) ∧ ρ "end" = some (.int e) ∧ ρ "told" = some (.ref c) ∧ ρ "at" = some (.int at_) ∧ 1 ≤ i ∧ ρ "best" = some (.int (bestN g stops e at_ (i - 1).toNat).1) ∧ ρ "to" = some (.int (bestN g stops e at_ (i - 1).toNat).2) ∧ i ≤ seats)
      (Ev.range2 (by array_get_dec) (by array_get_dec) (smallOf (by decide) (by decide)) (smallOf (by (first | lia | omega)) (by (first | lia | omega)))) ⟨rfl, by sizeOf_list_dec, by sizeOf_list_dec, by sizeOf_list_dec, by sizeOf_list_dec, Int.le_refl _, by sizeOf_list_dec, by sizeOf_list_dec, p1.1⟩ ?_ ?_
    · rintro i ρ H2 k hi1 hi2 ⟨rfl, f1, f2, f3, f4, _, f5, f6, _⟩ hk
      refine s_let (w_bi2 (w_meth (by array_get_dec) a1 rfl (by array_get_dec) (s_leads T (by (first | lia | omega)) hi2 q0 q1 (w_ev (by array_get_dec) (.min2 rfl ?_)))))
      refine s_ite (by array_get_dec) (fun q => ?_) (fun q => ?_)
      · have bg := best_go (g := g) (stops := stops) (e := e) (at_ := at_) hi1
        rw [if_pos (of_decide_eq_true q)] at bg
        refine s_assign (by array_get_dec) (s_assign (by array_get_dec) (s_done (s_done (hk _ _ ⟨rfl, by sizeOf_list_dec, by sizeOf_list_dec, by sizeOf_list_dec, by sizeOf_list_dec, Int.le_add_one hi1, ?_, ?_, hi2⟩))))
        · rw [bg]; sizeOf_list_dec
        · rw [bg]; sizeOf_list_dec
      · have bg := best_go (g := g) (stops := stops) (e := e) (at_ := at_) hi1
        rw [if_neg (of_decide_eq_false q)] at bg
        refine s_done (s_done (hk _ _ ⟨rfl, by sizeOf_list_dec, by sizeOf_list_dec, by sizeOf_list_dec, by sizeOf_list_dec, Int.le_add_one hi1, ?_, ?_, hi2⟩))
        · rw [bg]; sizeOf_list_dec
        · rw [bg]; sizeOf_list_dec
    · rintro i ρ H2 hi ⟨rfl, f1, f2, f3, f4, _, f5, f6, fi⟩
      obtain rfl : i = seats := Int.le_antisymm fi hi
      have bf := (bestN_facts (g := g) hlt h2 (i - 1).toNat).1
      have bg := best_gt (k := (i - 1).toNat) hlt h2 hs0 (by (first | lia | omega)) hsg
      cases N with
      | zero => exact absurd i5 (by (first | lia | omega))
      | succ N =>
        rw [found_go hlt] at i6
        refine s_expr (w_append (by array_get_dec) hcc (by array_get_dec) (by rw [List.length_map]; unfold bigList; (first | lia | omega)) (s_assign (by array_get_dec) (s_done (hk _ _ _ (tn_lt bg hlt) ⟨_, acc ++ [((bestN g stops e at_ (i - 1).toNat).1, at_, (bestN g stops e at_ (i - 1).toNat).2)], N, by sizeOf_list_dec, by sizeOf_list_dec, by sizeOf_list_dec, Sto.gets _ _ _, by (first | lia | omega), bf.2.1, rfl, E.newer _ hc, ?_, ?_, by (first | lia | omega), ?_⟩))))
        · rw [MH.set_selfE, List.map_append]; rfl
        · rw [List.length_append]; simp only [List.length_cons, List.length_nil]; (first | lia | omega)
        · rw [i6, List.append_assoc]; rfl
  · obtain rfl : at_ = e := by have := of_decide_eq_false hge; (first | lia | omega)
    refine s_ret (by array_get_dec) (h c _ hc E ?_)
    rw [hcc, i6, found_end, List.append_nil]
end
end Mine
end
section
set_option autoImplicit false
set_option linter.unusedVariables false
namespace Mine
open PySem
/-! marks in a grid -/
theorem markP_step {g : Grid} {s b i : Int} {k : Option Int} (h : b ≤ i) : upd (markP g (s, b, i) k) s i k = markP g (s, b, i + 1) k := by
  funext s' l'
  unfold upd markP
  by_cases q : s' = s ∧ l' = i
  · rw [if_pos q, if_pos ⟨q.1, q.2 ▸ h, q.2 ▸ Int.lt_succ i⟩]
  · rw [if_neg q]
    by_cases q2 : s' = s ∧ b ≤ l' ∧ l' < i
    · rw [if_pos q2, if_pos ⟨q2.1, q2.2.1, Int.lt_trans q2.2.2 (Int.lt_succ i)⟩]
    · rw [if_neg q2, if_neg]
      rintro ⟨h1, h2, h3⟩
      rcases Int.lt_or_eq_of_le (Int.le_of_lt_add_one h3) with z | z
      · exact q2 ⟨h1, h2, z⟩
      · exact q ⟨h1, z⟩
theorem markP_nil {g : Grid} {s b : Int} {k : Option Int} : markP g (s, b, b) k = g := by
  funext s' l'
  exact if_neg fun z => Int.lt_irrefl _ (Int.lt_of_le_of_lt z.2.1 z.2.2)
theorem marks_snoc {g : Grid} {ps : List Part} {p : Part} {k : Option Int} : marks g (ps ++ [p]) k = markP (marks g ps k) p k := List.foldl_append
noncomputable def PartsIn (seats stops : Int) (ps : List (Int × Int × Int)) : Prop := ∀ p ∈ ps, 0 ≤ p.1 ∧ p.1 < seats ∧ 0 ≤ p.2.1 ∧ p.2.1 ≤ p.2.2 ∧ p.2.2 ≤ stops - 1
section
variable {n : Nat} {hd : Bool} {H H' : MH} {Q : MV → MH → Prop} {X : String → MH → Prop} {t rd hl : Addr} {ra : Int → Addr} {seats stops coming : Int} {rides : List (Int × MV)} {g : Grid}
theorem Cel.frm {s : Int} {o : MObj} (h0 : 0 ≤ s) (h1 : s < seats) : Frm (Cel ra seats) H (H.set (ra s) o) := fun a x hn h => (MH.set_neE _ _ fun q => hn ⟨s, h0, h1, q⟩).trans h
theorem inst_ne {a b : Addr} {fs : List (String × MV)} {o : MObj} (h : H a = some (.inst fs)) (e : H b = some o) (n : ∀ fs, o ≠ .inst fs) : a ≠ b := fun q => n fs (Option.some.inj (e.symm.trans (q ▸ h)))
theorem dct_ne {a b : Addr} {es : List (Int × MV)} {l : List MV} (h : H a = some (.dct es)) (e : H b = some (.lst l)) : a ≠ b := fun q => MObj.noConfusion (Option.some.inj (e.symm.trans (q ▸ h)))
/-- what the train holds besides its cells lies apart from them -/
theorem Tr.notCel (T : Tr H t rd hl ra seats stops coming rides g) : ¬ Cel ra seats t ∧ ¬ Cel ra seats rd :=
  ⟨fun ⟨i, h0, h1, q⟩ => inst_ne T.at_ (T.row i h0 h1) (fun _ => MObj.noConfusion) q, fun ⟨i, h0, h1, q⟩ => dct_ne T.rd_ (T.row i h0 h1) q⟩
theorem Tr.regrid (T : Tr H t rd hl ra seats stops coming rides g) {g' : Grid} (G : Gd H' hl ra seats stops g') (f : Frm (Cel ra seats) H H') : Tr H' t rd hl ra seats stops coming rides g' := ⟨G, f _ _ T.notCel.1 T.at_, f _ _ T.notCel.2 T.rd_⟩
/-- cells of a part are set, one by one -/
theorem s_cells_set {Δ : CallT} {ρ : Sto} {N : Sto → MH → Prop} {R : MV → MH → Prop} {Y : String → Sto → MH → Prop} {ss : MSs} {x : String} {it v e i : ME} {s b e' : Int} {kv : Option Int} (K : Sto → Prop) (G : Gd H hl ra seats stops g) (h0 : 0 ≤ s) (h1 : s < seats) (h2 : 0 ≤ b) (h3 : b ≤ e') (h4 : e' ≤ stops - 1) (hK : K ρ)
    (hit : Ev Δ false it ρ H (.rng b e' 1)) (hKs : ∀ ρ j, K ρ → K (ρ.set x (.int j))) (hv : ∀ ρ H', K ρ → Ev Δ false v ρ H' (mvo kv)) (hi : ∀ ρ H' j, K ρ → Ev Δ false i (ρ.set x (.int j)) H' (.int j))
    (he : ∀ ρ H' g', K ρ → Gd H' hl ra seats stops g' → Frm (Cel ra seats) H H' → Ev Δ false e ρ H' (.ref (ra s)))
    (fin : ∀ ρ H', K ρ → Gd H' hl ra seats stops (markP g (s, b, e') kv) → Frm (Cel ra seats) H H' → wSs Δ false ss ρ H' N R Y) : wSs Δ false (.cons (.for_ x it (.cons (.setIdx e i v) .nil)) ss) ρ H N R Y := by
  refine s_range (fun j ρ H' => K ρ ∧ j ≤ e' ∧ Gd H' hl ra seats stops (markP g (s, b, j) kv) ∧ Frm (Cel ra seats) H H') hit ⟨hK, h3, markP_nil ▸ G, fun _ _ _ q => q⟩ ?_ ?_
  · rintro j ρ H' k hj1 hj2 ⟨k1, _, G', f⟩ hk
    have j0 : 0 ≤ j := Int.le_trans h2 hj1
    exact s_setIdx (hv _ _ (hKs _ _ k1)) (he _ _ _ (hKs _ _ k1) G' f) (hi _ _ _ k1) (G'.row s h0 h1) j0 (row_lt (Int.lt_of_lt_of_le hj2 h4) j0) (s_done (hk _ _ ⟨hKs _ _ k1, hj2, markP_step hj1 ▸ G'.setCell h0 h1 j0, f.trans (Cel.frm h0 h1)⟩))
  · rintro j ρ H' hj ⟨k1, hj2, G', f⟩
    obtain rfl := Int.le_antisymm hj2 hj
    exact fin _ _ k1 G' f
theorem s_mark (T : Tr H t rd hl ra seats stops coming rides g) {c : Addr} {ps : List (Int × Int × Int)} {kv : Option Int} (hc : H c = some (.lst (ps.map partMV))) (hn : ¬ Own t rd hl ra seats c) (hp : PartsIn seats stops ps)
    (h : ∀ H', Tr H' t rd hl ra seats stops coming rides (marks g ps kv) → Frm (Cel ra seats) H H' → Q .none H') : callW theP (n + 1) false "mark" [.ref t, .ref c, mvo kv] H Q X := by
  refine call_of (d := f_Train_mark) rfl rfl ?_
  have nc : ¬ Cel ra seats c := fun z => hn (.inr (.inr (.inr z)))
  refine s_forT (fun vs ρ H' => ρ "self" = some (.ref t) ∧ ρ "ticket" = some (mvo kv) ∧ Frm (Cel ra seats) H H' ∧ ∃ done rest, ps = done ++ rest ∧ vs = rest.map partMV ∧ Gd H' hl ra seats stops (marks g done kv)) (by array_get_dec) (fun vs ρ H' z => z.2.2.1 _ _ nc hc) ⟨rfl, rfl, fun _ _ _ q => q, [], ps, rfl, rfl, T.gd⟩ ?_ ?_
  · rintro v vs ρ H' k ⟨g1, g2, f, done, rest, e1, e2, G⟩ hk
    cases rest with
    | nil => cases e2
    | cons p rest =>
      obtain ⟨rfl, rfl⟩ := List.cons.inj e2
      obtain ⟨q0, q1, q2, q3, q4⟩ := hp p (e1 ▸ List.mem_append_right _ (.head _))
      refine ⟨_, _, rfl, .cons (.cons (.cons .nil)), ?_⟩
      have p2 := G.hstops
      refine s_cells_set (fun ρ => ρ "self" = some (.ref t) ∧ ρ "ticket" = some (mvo kv) ∧ ρ "seat" = some (.int p.1)) G q0 q1 q2 q3 q4 ⟨by sizeOf_list_dec, by sizeOf_list_dec, by sizeOf_list_dec⟩ (Ev.range2 (by array_get_dec) (by array_get_dec) (smallOf q2 (by (first | lia | omega))) (smallOf (by (first | lia | omega)) (by (first | lia | omega))))
        (fun ρ j z => ⟨Sto.gn rfl z.1, Sto.gn rfl z.2.1, Sto.gn rfl z.2.2⟩) (fun ρ H' z => Ev.var z.2.1) (fun ρ H' j z => Ev.var (Sto.gets _ _ _)) (fun ρ H'' g' z G' f' => ?_) (fun ρ H'' z G' f' => s_done (hk _ _ ⟨z.1, z.2.1, f.trans f', done ++ [p], rest, by rw [e1, List.append_assoc]; rfl, rfl, marks_snoc ▸ G'⟩))
      exact Ev.item (Ev.attr (Ev.var z.1) ((f.trans f') _ _ T.notCel.1 T.at_) rfl) (Ev.var z.2.2) G'.hl_ (refsOf_at q0 q1)
  · rintro ρ H' ⟨_, _, f, done, rest, e1, e2, G⟩
    cases rest with
    | nil => rw [List.append_nil] at e1; subst e1; exact s_done (h _ (T.regrid G f) f)
    | cons p rest => cases e2

/-! facts of the parts found -/
theorem foundF_in {g : Grid} {seats stops e : Int} (hs : 1 ≤ seats) (h2 : e < stops) : ∀ (N : Nat) (at_ : Int), 0 ≤ at_ → PartsIn seats stops (foundF g seats stops e N at_) := by
  intro N
  induction N with
  | zero => intro at_ _ p hp; cases hp
  | succ N ih =>
    intro at_ h0 p hp
    by_cases q : at_ < e
    · rw [found_go q] at hp
      have bf := (bestN_facts (g := g) q h2 (seats - 1).toNat).1
      rcases List.mem_cons.mp hp with rfl | hp
      · dsimp only; omega
      · exact ih _ (by omega) p hp
    · rw [foundF, if_neg q] at hp; cases hp
theorem full_free {g : Grid} {seats leg : Int} (h : full g seats leg = false) : ∃ seat, 0 ≤ seat ∧ seat < seats ∧ g seat leg = none := by
  obtain ⟨i, hi, hg⟩ := List.all_eq_false.mp h
  have := rangeL_mem (by decide) hi
  exact ⟨i, this.1, this.2, Option.not_isSome_iff_eq_none.mp hg⟩
theorem block_none {g : Grid} {seats e : Int} : ∀ (k : Nat) (leg : Int), (e - leg).toNat = k → blockF g seats (e - leg).toNat leg = none → ∀ l, leg ≤ l → l < e → full g seats l = false := by
  intro k
  induction k with
  | zero => intro leg hk _ l h1 h2; (first | lia | omega)
  | succ k ih =>
    intro leg hk h l h1 h2
    have hlt : leg < e := by (first | lia | omega)
    rw [block_go hlt] at h
    by_cases c : full g seats leg = true
    · rw [if_pos c] at h; cases h
    · rw [if_neg c] at h
      rcases Int.lt_or_eq_of_le h1 with z | z
      · exact ih (leg + 1) (by rw [tn hlt] at hk; exact Nat.succ.inj hk) h l z h2
      · rw [← z]; exact Bool.not_eq_true _ ▸ c
theorem none_of_ext (E : Ext H H') {c : Addr} (h : H' c = none) : H c = none := by
  cases q : H c with
  | none => rfl
  | some o => exact absurd (E _ _ q) (by rw [h]; exact fun z => by cases z)
noncomputable def offer (g : Grid) (seats stops b e : Int) : List Part := foundF g seats stops e (e - b).toNat b
theorem s_row (T : Tr H t rd hl ra seats stops coming rides g) {b e : Int} (hok : 0 ≤ b → b < e → e < stops → blockF g seats (e - b).toNat b = none → ∀ c H', H c = none → Ext H H' → H' c = some (.lst ((offer g seats stops b e).map partMV)) → Q (.ref c) H')
    (hfull : ∀ x H', 0 ≤ b → b < e → e < stops → blockF g seats (e - b).toNat b = some x → Ext H H' → X "Full" H') (hbad : ¬ (0 ≤ b ∧ b < e ∧ e < stops) → X "NoStretch" H) : callW theP (n + 3) false "row" [.ref t, .int b, .int e] H Q X := by
  refine call_of (d := f_Train_row) rfl rfl ?_
  have a1 := T.at_
  refine s_expr (w_meth (by array_get_dec) a1 rfl (by array_get_dec) (s_need_stretch T (fun h0 h1 h2 => ?_) hbad))
  refine s_itew (w_meth (by array_get_dec) a1 rfl (by array_get_dec) (s_blocking T h0 h1 h2 fun H1 E1 => ?_))
  refine ⟨_, .isnotN, ?_⟩
  cases hb : blockF g seats (e - b).toNat b with
  | some x => exact it_t rfl (s_raise (hfull x _ h0 h1 h2 hb E1))
  | none =>
    have T1 := T.ext E1
    exact it_f rfl (s_done (s_retw (w_meth (by array_get_dec) T1.at_ rfl (by array_get_dec) (s_found T1 h0 h1 h2 (fun leg q1 q2 => full_free (block_none _ _ rfl hb leg q1 q2)) fun c H2 c1 E2 hc => hok h0 h1 h2 hb c H2 (none_of_ext E1 c1) (E1.trans E2) hc))))
theorem Tr.setT (T : Tr H t rd hl ra seats stops coming rides g) (k : Int) : Tr (H.set t (.inst (trFs seats stops k rd hl))) t rd hl ra seats stops k rides g := by
  have ne : ∀ a, (a = hl ∨ Cel ra seats a) → a ≠ t := fun a z q => z.elim (fun z => inst_ne T.at_ T.hl_ (fun _ => MObj.noConfusion) (q ▸ z)) (fun z => T.notCel.1 (q ▸ z))
  exact ⟨T.gd.keep fun a o z h => (MH.set_neE _ _ (ne a z)).trans h, MH.set_selfE _ _ _, (MH.set_neE _ _ (inst_ne T.at_ T.rd_ fun _ => MObj.noConfusion).symm).trans T.rd_⟩
theorem Tr.setRides (T : Tr H t rd hl ra seats stops coming rides g) (rides' : List (Int × MV)) : Tr (H.set rd (.dct rides')) t rd hl ra seats stops coming rides' g := by
  have ne : ∀ a, (a = hl ∨ Cel ra seats a) → a ≠ rd := fun a z q => z.elim (fun z => dct_ne T.rd_ T.hl_ (q ▸ z)) (fun z => T.notCel.2 (q ▸ z))
  exact ⟨T.gd.keep fun a o z h => (MH.set_neE _ _ (ne a z)).trans h, (MH.set_neE _ _ (inst_ne T.at_ T.rd_ fun _ => MObj.noConfusion)).trans T.at_, MH.set_selfE _ _ _⟩
theorem frm_set {own : Addr → Prop} {c : Addr} {o : MObj} (h : own c) : Frm own H (H.set c o) := fun a x hn e => (MH.set_neE _ _ fun (q : a = c) => hn (q.symm ▸ h)).trans e
theorem Frm.cel (f : Frm (Cel ra seats) H H') : Frm (Own t rd hl ra seats) H H' := fun a o n => f a o fun z => n (.inr (.inr (.inr z)))
theorem Tr.not_own (T : Tr H t rd hl ra seats stops coming rides g) {c : Addr} (h : H c = none) : ¬ Own t rd hl ra seats c := by
  rintro (rfl | rfl | rfl | ⟨i, h0, h1, rfl⟩)
  · exact mne h T.at_ rfl
  · exact mne h T.rd_ rfl
  · exact mne h T.hl_ rfl
  · exact mne h (T.row i h0 h1) rfl
theorem s_sell (T : Tr H t rd hl ra seats stops coming rides g) (hr : rides.length < 900000) {b e : Int} (hok : 0 ≤ b → b < e → e < stops → blockF g seats (e - b).toNat b = none → ∀ c H', H c = none → Frm (Own t rd hl ra seats) H H' → H' c = some (.lst ((offer g seats stops b e).map partMV)) →
      Tr H' t rd hl ra seats stops (coming + 1) (dSet rides coming (.ref c)) (marks g (offer g seats stops b e) (some coming)) → Q (.int coming) H')
    (hfull : ∀ x H', 0 ≤ b → b < e → e < stops → blockF g seats (e - b).toNat b = some x → Ext H H' → X "Full" H') (hbad : ¬ (0 ≤ b ∧ b < e ∧ e < stops) → X "NoStretch" H) : callW theP (n + 4) false "sell" [.ref t, .int b, .int e] H Q X := by
  refine call_of (d := f_Train_sell) rfl rfl ?_
  have a1 := T.at_
  refine s_let (w_meth (by array_get_dec) a1 rfl (by array_get_dec) (s_row T (fun h0 h1 h2 hb c H1 hc E1 h1c => ?_) hfull hbad))
  have T1 := T.ext E1
  have hno := T.not_own hc
  have a2 := T1.at_
  have T2 := T1.setT (coming + 1)
  have a3 := T2.at_
  have T3 := T2.setRides (dSet rides coming (.ref c))
  have cf : Frm (Own t rd hl ra seats) H1 ((H1.set t (.inst (trFs seats stops (coming + 1) rd hl))).set rd (.dct (dSet rides coming (.ref c)))) := (frm_set (.inl rfl)).trans (frm_set (.inr (.inl rfl)))
  refine s_assign (by array_get_dec) (s_setAttr (by array_get_dec) (by array_get_dec) a2 (by show 5 < 100; decide) (s_setIdxD (by array_get_dec) (Ev.attr (by array_get_dec) a3 rfl) (by array_get_dec) T2.rd_ (by unfold bigList; (first | lia | omega)) ?_))
  refine s_expr (w_meth (by array_get_dec) T3.at_ rfl (vs := [.ref c, mvo (some coming)]) (Evs.cons (by array_get_dec) (Evs.cons (Ev.var (by sizeOf_list_dec)) Evs.nil)) (s_mark T3 (cf _ _ hno h1c) hno (foundF_in T.hseats.1 h2 _ _ h0) fun H4 T4 f4 => ?_))
  exact s_ret (by array_get_dec) (hok h0 h1 h2 hb c H4 hc ((E1.frm.trans cf).trans f4.cel) (f4.cel _ _ hno (cf _ _ hno h1c)) T4)
end
end Mine
end
section
set_option autoImplicit false
set_option linter.unusedVariables false
namespace Mine
open PySem
/-- the rides, as the dict holds them -/
inductive RidesAt (H : MH) (own : Addr → Prop) : List (Int × MV) → Rides → Prop
  | nil : RidesAt H own [] []
  | cons {k : Int} {c : Addr} {ps : List Part} {rs : List (Int × MV)} {R : Rides} (h : H c = some (.lst (ps.map partMV))) (n : ¬ own c) (t : RidesAt H own rs R) : RidesAt H own ((k, .ref c) :: rs) ((k, ps) :: R)
section
variable {H H' : MH} {own own' : Addr → Prop} {rs : List (Int × MV)} {R : Rides}
theorem RidesAt.keep (x : RidesAt H own rs R) (f : ∀ a o, ¬ own a → H a = some o → H' a = some o) : RidesAt H' own rs R := by
  induction x with
  | nil => exact .nil
  | cons h n _ ih => exact .cons (f _ _ n h) n ih
theorem RidesAt.len (x : RidesAt H own rs R) : rs.length = R.length := by
  induction x with
  | nil => rfl
  | cons _ _ _ ih => exact congrArg Nat.succ ih
theorem RidesAt.get (x : RidesAt H own rs R) (a : R.Pairwise fun x y => x.1 < y.1) {k : Int} {ps : List Part} (h : (k, ps) ∈ R) : ∃ c, dGet rs k = some (.ref c) ∧ H c = some (.lst (ps.map partMV)) ∧ ¬ own c := by
  induction x with
  | nil => cases h
  | @cons k' c ps' rs R hc n t ih =>
    obtain ⟨a1, a2⟩ := List.pairwise_cons.mp a
    rcases List.mem_cons.mp h with e | h'
    · obtain ⟨rfl, rfl⟩ := Prod.mk.inj e; exact ⟨c, if_pos rfl, hc, n⟩
    · have e : dGet ((k', .ref c) :: rs) k = dGet rs k := if_neg (Int.ne_of_gt (a1 _ h'))
      rw [e]; exact ih a2 h'
theorem RidesAt.miss (x : RidesAt H own rs R) {k : Int} (h : ∀ ps, (k, ps) ∉ R) : dGet rs k = none := by
  induction x with
  | nil => rfl
  | @cons k' c ps' rs R hc n t ih => exact (if_neg fun (z : k = k') => h ps' (z ▸ .head _)).trans (ih fun ps hp => h ps (.tail _ hp))
theorem RidesAt.key (x : RidesAt H own rs R) {e : Int × MV} (h : e ∈ rs) : ∃ ps, (e.1, ps) ∈ R := by
  induction x with
  | nil => cases h
  | @cons k' c ps' rs R hc n t ih =>
    rcases List.mem_cons.mp h with rfl | h
    · exact ⟨ps', .head _⟩
    · exact (ih h).imp fun ps z => .tail _ z
theorem RidesAt.app (x : RidesAt H own rs R) {k : Int} {c : Addr} {ps : List Part} (hc : H c = some (.lst (ps.map partMV))) (n : ¬ own c) : RidesAt H own (rs ++ [(k, .ref c)]) (R ++ [(k, ps)]) := by
  induction x with
  | nil => exact .cons hc n .nil
  | cons h n' _ ih => exact .cons h n' ih
theorem RidesAt.new (x : RidesAt H own rs R) {k : Int} {ps : List Part} {c : Addr} (h : ∀ x ∈ R, x.1 < k) (hc : H c = some (.lst (ps.map partMV))) (n : ¬ own c) : RidesAt H own (dSet rs k (.ref c)) (R ++ [(k, ps)]) := by
  unfold dSet
  rw [if_neg fun z => ?_]
  · exact x.app hc n
  · obtain ⟨e, he, hk⟩ := List.any_eq_true.mp z
    obtain ⟨ps', hp⟩ := x.key he
    exact Int.ne_of_lt (h _ hp) (of_decide_eq_true hk)
theorem RidesAt.set (x : RidesAt H own rs R) {k : Int} {ps qs : List Part} {c : Addr} (h : (k, ps) ∈ R) (hc : H c = some (.lst (qs.map partMV))) (n : ¬ own c) : RidesAt H own (dSet rs k (.ref c)) (rSet R k qs) := by
  have hany : rs.any (fun e => decide (e.1 = k)) = true := by
    induction x with
    | nil => cases h
    | @cons k' c ps' rs R hc n t ih =>
      rw [List.any_cons]
      rcases List.mem_cons.mp h with e | h
      · obtain ⟨rfl, rfl⟩ := Prod.mk.inj e; rw [decide_eq_true (rfl : k = k)]; rfl
      · rw [ih h, Bool.or_true]
  unfold dSet
  rw [if_pos hany]
  clear hany h
  induction x with
  | nil => exact .nil
  | @cons k' c' ps' rs R hc' n' t ih =>
    unfold rSet
    rw [List.map_cons, List.map_cons]
    by_cases q : k' = k
    · rw [if_pos q, if_pos q]; subst q; exact .cons hc n ih
    · rw [if_neg q, if_neg q]; exact .cons hc' n' ih
theorem RidesAt.del (x : RidesAt H own rs R) (k : Int) : RidesAt H own (dDel rs k) (rDel R k) := by
  induction x with
  | nil => exact .nil
  | @cons k' c' ps' rs R hc' n' t ih =>
    unfold dDel rDel
    rw [List.filter_cons, List.filter_cons]
    by_cases q : k' ≠ k
    · rw [if_pos (decide_eq_true q), if_pos (decide_eq_true q)]; exact .cons hc' n' ih
    · rw [if_neg (by rw [decide_eq_false q]; exact Bool.noConfusion), if_neg (by rw [decide_eq_false q]; exact Bool.noConfusion)]; exact ih
end

/-- the train and its books; Z: what the law turns itself -/
structure Trn (H : MH) (Z : Addr → Prop) (t rd hl : Addr) (ra : Int → Addr) (seats stops coming : Int) (R : Rides) (g : Grid) : Prop where
  tr : ∃ rides, Tr H t rd hl ra seats stops coming rides g ∧ RidesAt H (fun a => Own t rd hl ra seats a ∨ Z a) rides R
  inv : Inv seats stops coming R g
  co : 0 ≤ coming
  len : R.length ≤ 900000
  apart : ∀ a, Z a → ¬ Own t rd hl ra seats a
  there : ∀ a, Z a → H a ≠ none

section
variable {n : Nat} {hd : Bool} {H H' : MH} {Z : Addr → Prop} {Q : MV → MH → Prop} {X : String → MH → Prop} {t rd hl : Addr} {ra : Int → Addr} {seats stops coming : Int} {R : Rides} {g : Grid}
theorem some_kept {a : Addr} (h : H a ≠ none) (k : ∀ o, H a = some o → H' a = some o) : H' a ≠ none := by
  cases q : H a with
  | none => exact absurd q h
  | some o => rw [k o q]; exact fun z => by cases z
theorem Trn.ext (T : Trn H Z t rd hl ra seats stops coming R g) (e : Ext H H') : Trn H' Z t rd hl ra seats stops coming R g :=
  ⟨T.tr.imp fun rides z => ⟨z.1.ext e, z.2.keep fun a o _ => e a o⟩, T.inv, T.co, T.len, T.apart, fun a z => some_kept (T.there a z) (e a)⟩
/-- the law turns what is its own -/
theorem Trn.turn (T : Trn H Z t rd hl ra seats stops coming R g) (f : Frm Z H H') (th : ∀ a, Z a → H' a ≠ none) : Trn H' Z t rd hl ra seats stops coming R g :=
  ⟨T.tr.imp fun rides z => ⟨z.1.keep fun a o h => f a o fun q => T.apart a q h, z.2.keep fun a o h => f a o fun q => h (.inr q)⟩, T.inv, T.co, T.len, T.apart, th⟩
theorem Trn.hseats (T : Trn H Z t rd hl ra seats stops coming R g) : 1 ≤ seats ∧ seats ≤ 60 := T.tr.elim fun _ z => z.1.hseats
theorem Trn.hstops (T : Trn H Z t rd hl ra seats stops coming R g) : 2 ≤ stops ∧ stops ≤ 60 := T.tr.elim fun _ z => z.1.hstops
theorem Trn.at_ (T : Trn H Z t rd hl ra seats stops coming R g) : H t = some (.inst (trFs seats stops coming rd hl)) := T.tr.elim fun _ z => z.1.at_
theorem Trn.not_own (T : Trn H Z t rd hl ra seats stops coming R g) {c : Addr} (h : H c = none) : ¬ Own t rd hl ra seats c := T.tr.elim fun _ z => z.1.not_own h
theorem Trn.not_z (T : Trn H Z t rd hl ra seats stops coming R g) {c : Addr} (h : H c = none) : ¬ (Own t rd hl ra seats c ∨ Z c) := fun q => q.elim (T.not_own h) fun z => T.there c z h
theorem fresh_frm {rides : List (Int × MV)} (T : Tr H' t rd hl ra seats stops coming rides g) (f : Frm (Own t rd hl ra seats) H H') {c : Addr} (h : H' c = none) : H c = none := by
  cases q : H c with
  | none => rfl
  | some o => exact absurd (f c o (T.not_own h) q) (by rw [h]; exact fun z => by cases z)
theorem Trn.kept (T : Trn H Z t rd hl ra seats stops coming R g) (f : Frm (Own t rd hl ra seats) H H') : ∀ a, Z a → H' a ≠ none := fun a z => some_kept (T.there a z) fun o => f a o (T.apart a z)
theorem rides_frm {rs : List (Int × MV)} (x : RidesAt H (fun a => Own t rd hl ra seats a ∨ Z a) rs R) (f : Frm (Own t rd hl ra seats) H H') : RidesAt H' (fun a => Own t rd hl ra seats a ∨ Z a) rs R := x.keep fun a o n => f a o fun q => n (.inl q)

theorem RidesAt.mono' {own own' : Addr → Prop} {rs : List (Int × MV)} (x : RidesAt H own rs R) (h : ∀ a o, H a = some o → ¬ own a → ¬ own' a) : RidesAt H own' rs R := by
  induction x with
  | nil => exact .nil
  | cons e n _ ih => exact .cons e (h _ _ e n) ih
theorem rides_more {rs : List (Int × MV)} {c : Addr} (x : RidesAt H (fun a => Own t rd hl ra seats a ∨ Z a) rs R) (hc : H c = none) : RidesAt H (fun a => Own t rd hl ra seats a ∨ (Z a ∨ a = c)) rs R :=
  x.mono' fun a o e n z => z.elim (fun z => n (.inl z)) fun z => z.elim (fun z => n (.inr z)) fun q => mne hc e q
/-- a new object is the law's own -/
theorem Trn.adds (T : Trn H Z t rd hl ra seats stops coming R g) {c : Addr} {o : MObj} (hc : H c = none) : Trn (H.set c o) (fun a => Z a ∨ a = c) t rd hl ra seats stops coming R g :=
  ⟨T.tr.imp fun rides z => ⟨z.1.ext (Ext.new o hc), (rides_more z.2 hc).keep fun a x _ => Ext.new o hc a x⟩, T.inv, T.co, T.len, fun a z => z.elim (T.apart a) fun z => z ▸ T.not_own hc, fun a z => z.elim (fun z => some_kept (T.there a z) (Ext.new o hc a)) fun z => by rw [z, MH.set_selfE]; exact fun z => (by cases z)⟩
theorem Trn.less {Z' : Addr → Prop} (T : Trn H Z' t rd hl ra seats stops coming R g) (h : ∀ a, Z a → Z' a) : Trn H Z t rd hl ra seats stops coming R g :=
  ⟨T.tr.imp fun _ z => ⟨z.1, z.2.mono' fun a _ _ n q => n (q.imp id (h a))⟩, T.inv, T.co, T.len, fun a z => T.apart a (h a z), fun a z => T.there a (h a z)⟩
theorem s_need_ticket (T : Trn H Z t rd hl ra seats stops coming R g) {k : Int} (hok : ∀ ps, (k, ps) ∈ R → Q .none H) (hbad : (∀ ps, (k, ps) ∉ R) → X "NoTicket" H) : callW theP (n + 1) false "need_ticket" [.ref t, .int k] H Q X := by
  refine call_of (d := f_Train_need_ticket) rfl rfl ?_
  obtain ⟨rides, T1, T2⟩ := T.tr
  have a1 := T1.at_
  by_cases h : ∃ ps, (k, ps) ∈ R
  · obtain ⟨ps, h⟩ := h
    obtain ⟨c, h1, _⟩ := T2.get T.inv.asc h
    refine s_skip (Ev.cmp (by array_get_dec) (Ev.attr (by array_get_dec) a1 rfl) ?_) (s_done (hok ps h))
    have := CmpR.notind (x := k) T1.rd_
    rw [h1] at this; exact this
  · have h' : ∀ ps, (k, ps) ∉ R := fun ps q => h ⟨ps, q⟩
    refine s_iteT (Ev.cmp (by array_get_dec) (Ev.attr (by array_get_dec) a1 rfl) ?_) (s_raise (hbad h'))
    have := CmpR.notind (x := k) T1.rd_
    rw [T2.miss h'] at this; exact this
theorem Inv.partsIn (I : Inv seats stops coming R g) {k : Int} {ps : List Part} (h : (k, ps) ∈ R) : PartsIn seats stops ps := by
  obtain ⟨b, e, h0, he, G⟩ := I.goes _ h
  intro p hp
  obtain ⟨a1, a2, a3, a4, a5⟩ := G.mem p hp
  exact ⟨a1, a2, Int.le_trans h0 a3, Int.le_of_lt a4, Int.le_trans a5 he⟩
theorem goes_len {b e : Int} {ps : List Part} (G : Goes seats b ps e) : (ps.length : Int) ≤ e - b := by
  induction G with
  | one _ _ h => simp; (first | lia | omega)
  | cons _ _ h _ _ ih => simp at ih ⊢; (first | lia | omega)
/-- a list is copied -/
theorem w_copy {Δ : CallT} {ρ : Sto} {e : ME} {a : Addr} {l : List MV} {Y : String → MH → Prop} (he : Ev Δ false e ρ H (.ref a)) (ha : H a = some (.lst l)) (h : New H Q l) : wE Δ false (.bi "list" (.cons e .nil)) ρ H Q Y := he _ _ (.listL rfl (.inl ha) h)
theorem s_parts (T : Trn H Z t rd hl ra seats stops coming R g) {k : Int} {ps : List Part} (hk : (k, ps) ∈ R) (h : ∀ c' H', H c' = none → Ext H H' → H' c' = some (.lst (ps.map partMV)) → Q (.ref c') H') : callW theP (n + 2) false "parts" [.ref t, .int k] H Q X := by
  refine call_of (d := f_Train_parts) rfl rfl ?_
  have a1 := T.at_
  refine s_expr (w_meth (by array_get_dec) a1 rfl (by array_get_dec) (s_need_ticket T (fun _ _ => ?_) fun q => absurd hk (q ps)))
  obtain ⟨rides, T1, T2⟩ := T.tr
  obtain ⟨c, h1, h2, _⟩ := T2.get T.inv.asc hk
  exact s_retw (w_copy (Ev.itemD (Ev.attr (by array_get_dec) a1 rfl) (by array_get_dec) T1.rd_ h1) h2 fun c1 hc1 => h _ _ hc1 (Ext.new _ hc1) (MH.set_selfE _ _ _))
theorem w_dpop {Δ : CallT} {ρ : Sto} {e x : ME} {a : Addr} {es : List (Int × MV)} {k : Int} {v : MV} {Y : String → MH → Prop} (he : Ev Δ hd e ρ H (.ref a)) (hx : Ev Δ hd x ρ H (.int k)) (ha : H a = some (.dct es)) (hl : es.length ≤ bigList) (hv : dGet es k = some v) (h : Q v (H.set a (.dct (dDel es k)))) : wE Δ hd (.bm e "pop" (.cons x .nil)) ρ H Q Y :=
  he _ _ ⟨0, .dct ha rfl, hx _ _ ⟨.dct ha rfl, .dpop ha hl hv h⟩⟩
theorem s_back (T : Trn H Z t rd hl ra seats stops coming R g) {k : Int} (hok : ∀ ps c H', (k, ps) ∈ R → Trn H' (fun a => Z a ∨ a = c) t rd hl ra seats stops coming (rDel R k) (marks g ps none) → Frm (Own t rd hl ra seats) H H' → H c = none → H' c = some (.lst (ps.map partMV)) → Q (.ref c) H')
    (hbad : (∀ ps, (k, ps) ∉ R) → X "NoTicket" H) : callW theP (n + 2) false "back" [.ref t, .int k] H Q X := by
  refine call_of (d := f_Train_back) rfl rfl ?_
  have a1 := T.at_
  refine s_expr (w_meth (by array_get_dec) a1 rfl (by array_get_dec) (s_need_ticket T (fun ps hk => ?_) hbad))
  obtain ⟨rides, T1, T2⟩ := T.tr
  obtain ⟨c, h1, h2, hn⟩ := T2.get T.inv.asc hk
  have hn' : ¬ Own t rd hl ra seats c := fun q => hn (.inl q)
  have T3 := T1.setRides (dDel rides k)
  have fr : Frm (Own t rd hl ra seats) H (H.set rd (.dct (dDel rides k))) := frm_set (.inr (.inl rfl))
  have hb := T.len
  refine s_let (w_dpop (Ev.attr (by array_get_dec) a1 rfl) (by array_get_dec) T1.rd_ (by rw [T2.len]; exact Nat.le_trans hb (by decide)) h1 ?_)
  refine s_expr (w_meth (by array_get_dec) T3.at_ rfl (vs := [.ref c, mvo none]) (Evs.cons (by array_get_dec) (Evs.cons Ev.none Evs.nil)) (s_mark T3 (fr _ _ hn' h2) hn' (T.inv.partsIn hk) fun H4 T4 f4 => ?_))
  have fr4 := fr.trans f4.cel
  refine s_retw (w_copy (by array_get_dec) (fr4 _ _ hn' h2) fun c5 hc5 => ?_)
  have E5 := Ext.new (.lst (ps.map partMV)) hc5
  exact hok ps c5 _ hk (Trn.adds ⟨⟨_, T4, (rides_frm T2 fr4).del k⟩, inv_back T.inv hk, T.co, Nat.le_trans (List.length_filter_le _ _) T.len, T.apart, T.kept fr4⟩ hc5) (fr4.trans E5.frm) (fresh_frm T4 fr4 hc5) (MH.set_selfE _ _ _)
end
end Mine
end
section
set_option autoImplicit false
set_option linter.unusedVariables false
namespace Mine
open PySem
section
variable {n : Nat} {hd : Bool} {H H' : MH} {Z : Addr → Prop} {Q : MV → MH → Prop} {X : String → MH → Prop} {t rd hl : Addr} {ra : Int → Addr} {seats stops coming : Int} {R : Rides} {g : Grid}
theorem goes_first {b e : Int} {ps : List Part} (G : Goes seats b ps e) : ∃ p, ps[0]? = some p ∧ p.2.1 = b := by cases G <;> exact ⟨_, rfl, rfl⟩
theorem goes_last {b e : Int} {ps : List Part} (G : Goes seats b ps e) : ∃ p, ps[ps.length - 1]? = some p ∧ p.2.2 = e := by
  induction G with
  | one _ _ _ => exact ⟨_, rfl, rfl⟩
  | @cons s b m e p ps _ _ _ _ t ih => exact ih
/-- told[0][1], told[-1][2] -/
theorem ev_first {Δ : CallT} {ρ : Sto} {x : ME} {c : Addr} {ps : List Part} {b e : Int} (G : Goes seats b ps e) (hx : Ev Δ hd x ρ H (.ref c)) (hc : H c = some (.lst (ps.map partMV))) : Ev Δ hd (.sub (.sub x (.int 0)) (.int 1)) ρ H (.int b) := by
  obtain ⟨p, h1, h2⟩ := goes_first G
  exact Ev.itemT (vs := [.int p.1, .int p.2.1, .int p.2.2]) (Ev.item hx Ev.int hc (atIdx_nn (by decide) (by rw [List.getElem?_map]; exact congrArg _ h1))) Ev.int (h2 ▸ rfl)
theorem ev_last {Δ : CallT} {ρ : Sto} {x : ME} {c : Addr} {ps : List Part} {b e : Int} (G : Goes seats b ps e) (hx : Ev Δ hd x ρ H (.ref c)) (hc : H c = some (.lst (ps.map partMV))) : Ev Δ hd (.sub (.sub x (.neg (.int 1))) (.int 2)) ρ H (.int e) := by
  obtain ⟨p, h1, h2⟩ := goes_last G
  have hne : 0 < ps.length := List.length_pos_iff.mpr G.ne
  have e2 : atIdx (ps.map partMV) (-1) = some (partMV p) := by
    unfold atIdx
    rw [if_neg (by decide), List.length_map, if_pos (by (first | lia | omega)), show (-1 + (ps.length : Int)).toNat = ps.length - 1 by (first | lia | omega), List.getElem?_map, h1]; rfl
  exact Ev.itemT (vs := [.int p.1, .int p.2.1, .int p.2.2]) (Ev.item hx (Ev.neg Ev.int) hc e2) Ev.int (h2 ▸ rfl)
theorem goes_leg {b e l : Int} {ps : List Part} (G : Goes seats b ps e) (q1 : b ≤ l) (q2 : l < e) : ∃ s, Covs ps s l := by
  induction G with
  | @one s b e _ _ _ => exact ⟨s, _, .head _, rfl, q1, q2⟩
  | @cons s b m e p ps _ _ _ _ t ih =>
    by_cases hm : l < m
    · exact ⟨s, _, .head _, rfl, q1, hm⟩
    · obtain ⟨x, y, hy, hc⟩ := ih (Int.not_lt.mp hm) q2
      exact ⟨x, y, .tail _ hy, hc⟩
/-- the parts of a ticket that is seated anew -/
noncomputable def anew (g : Grid) (seats stops : Int) (ps : List Part) (b e : Int) : List Part := offer (marks g ps none) seats stops b e
theorem s_reseat (T : Trn H Z t rd hl ra seats stops coming R g) {k : Int} (hok : ∀ ps b e c H', (k, ps) ∈ R → Goes seats b ps e → 0 ≤ b → e ≤ stops - 1 → Trn H' Z t rd hl ra seats stops coming (rSet R k (anew g seats stops ps b e)) (marks (marks g ps none) (anew g seats stops ps b e) (some k)) →
      Frm (Own t rd hl ra seats) H H' → H c = none → H' c = some (.lst ((anew g seats stops ps b e).map partMV)) → Q (.ref c) H')
    (hbad : (∀ ps, (k, ps) ∉ R) → X "NoTicket" H) : callW theP (n + 3) false "reseat" [.ref t, .int k] H Q X := by
  refine call_of (d := f_Train_reseat) rfl rfl ?_
  have a1 := T.at_
  refine s_expr (w_meth (by array_get_dec) a1 rfl (by array_get_dec) (s_need_ticket T (fun ps hk => ?_) hbad))
  obtain ⟨rides, T1, T2⟩ := T.tr
  obtain ⟨c, h1, h2, hn⟩ := T2.get T.inv.asc hk
  have hn' : ¬ Own t rd hl ra seats c := fun q => hn (.inl q)
  obtain ⟨b, e, h0, he, G⟩ := T.inv.goes _ hk
  have p1 := T1.hseats
  have p2 := T1.hstops
  have es : e < stops := Int.lt_of_le_of_lt he (Int.sub_lt_self _ (by decide))
  refine s_assign (Ev.itemD (Ev.attr (by array_get_dec) a1 rfl) (by array_get_dec) T1.rd_ h1) ?_
  refine s_expr (w_meth (by array_get_dec) a1 rfl (vs := [.ref c, mvo none]) (Evs.cons (by array_get_dec) (Evs.cons Ev.none Evs.nil)) (s_mark T1 h2 hn' (T.inv.partsIn hk) fun H2 T3 f2 => ?_))
  have h2' := f2.cel _ _ hn' h2
  have hfree : ∀ leg, b ≤ leg → leg < e → ∃ seat, 0 ≤ seat ∧ seat < seats ∧ marks g ps none seat leg = none := fun l q1 q2 => by
    obtain ⟨s, hc⟩ := goes_leg G q1 q2
    obtain ⟨c1, c2, _, _⟩ := G.cov hc
    exact ⟨s, c1, c2, marks_in hc⟩
  refine s_let (w_meth (by array_get_dec) T3.at_ rfl (Evs.cons (ev_first G (by array_get_dec) h2') (Evs.cons (ev_last G (by array_get_dec) h2') Evs.nil)) (s_found T3 h0 G.lt es hfree fun c2 H3 hc2 E3 h3 => ?_))
  have T4 := T3.ext E3
  have hno2 := T3.not_own hc2
  have T5 := T4.setRides (dSet rides k (.ref c2))
  have fr3 : Frm (Own t rd hl ra seats) H H3 := f2.cel.trans E3.frm
  have fr5 : Frm (Own t rd hl ra seats) H3 (H3.set rd (.dct (dSet rides k (.ref c2)))) := frm_set (.inr (.inl rfl))
  have hb := T.len
  refine s_setIdxD (by array_get_dec) (Ev.attr (by array_get_dec) T4.at_ rfl) (by array_get_dec) T4.rd_ (by rw [T2.len]; exact Nat.lt_of_le_of_lt hb (by decide)) ?_
  refine s_expr (w_meth (by array_get_dec) T5.at_ rfl (vs := [.ref c2, mvo (some k)]) (Evs.cons (by array_get_dec) (Evs.cons (Ev.var (by sizeOf_list_dec)) Evs.nil)) (s_mark T5 (fr5 _ _ hno2 h3) hno2 (foundF_in p1.1 es _ _ h0) fun H6 T6 f6 => ?_))
  have h6 := f6.cel _ _ hno2 (fr5 _ _ hno2 h3)
  refine s_retw (w_copy (by array_get_dec) h6 fun c7 hc7 => ?_)
  have fr : Frm (Own t rd hl ra seats) H H6 := (fr3.trans fr5).trans f6.cel
  have E7 := Ext.new (.lst ((anew g seats stops ps b e).map partMV)) hc7
  have nz : ¬ (Own t rd hl ra seats c2 ∨ Z c2) := fun q => q.elim hno2 fun z => T.kept f2.cel c2 z hc2
  exact hok ps b e c7 _ hk G h0 he (Trn.ext ⟨⟨_, T6, (rides_frm T2 fr).set hk h6 nz⟩, (inv_reseat T.inv p1.1 hk G h0 he rfl).2, T.co, by unfold rSet; rw [List.length_map]; exact hb, T.apart, T.kept fr⟩ E7) (fr.trans E7.frm) (fresh_frm T6 fr hc7) (MH.set_selfE _ _ _)

theorem gone_eq {ps : List Part} {stop : Int} (f : MV → MV) (p : MV → Bool) (hf : ∀ x, f (partMV x) = partMV (x.1, maxI x.2.1 stop, x.2.2)) (hp : ∀ x, p (partMV x) = decide (stop < x.2.2)) : ((ps.map partMV).filter p).map f = (goneL ps stop).map partMV := by
  unfold goneL
  rw [List.filter_map, List.map_map, List.map_map]
  rw [show (p ∘ partMV) = fun x => decide (stop < x.2.2) from funext hp, show (f ∘ partMV) = _ from funext hf]
  rfl
theorem keep_eq {ps : List Part} {stop : Int} (f : MV → MV) (p : MV → Bool) (hf : ∀ x, f (partMV x) = partMV (x.1, x.2.1, minI x.2.2 stop)) (hp : ∀ x, p (partMV x) = decide (x.2.1 < stop)) : ((ps.map partMV).filter p).map f = (keepL ps stop).map partMV := by
  unfold keepL
  rw [List.filter_map, List.map_map, List.map_map]
  rw [show (p ∘ partMV) = fun x => decide (x.2.1 < stop) from funext hp, show (f ∘ partMV) = _ from funext hf]
  rfl
/-- a part's three figures -/
noncomputable def pt1 : MV → Int | .tup [.int a, _, _] => a | _ => 0
noncomputable def pt2 : MV → Int | .tup [_, .int a, _] => a | _ => 0
noncomputable def pt3 : MV → Int | .tup [_, _, .int a] => a | _ => 0
theorem gone_in {ps : List Part} {stop : Int} (h : PartsIn seats stops ps) (h0 : 0 ≤ stop) : PartsIn seats stops (goneL ps stop) := fun x hx => by
  obtain ⟨p, hp, rfl⟩ := List.mem_map.mp hx
  obtain ⟨hp, hs⟩ := List.mem_filter.mp hp
  have hs := of_decide_eq_true hs
  obtain ⟨a1, a2, a3, a4, a5⟩ := h p hp
  refine ⟨a1, a2, ?_, ?_, a5⟩ <;> (dsimp only; split <;> omega)
theorem s_leave (T : Trn H Z t rd hl ra seats stops coming R g) {k stop : Int} (hok : ∀ ps b e c H', (k, ps) ∈ R → Goes seats b ps e → b < stop → stop < e → Trn H' (fun a => Z a ∨ a = c) t rd hl ra seats stops coming (rSet R k (keepL ps stop)) (marks g (goneL ps stop) none) → Frm (Own t rd hl ra seats) H H' → H c = none → H' c = some (.lst ((goneL ps stop).map partMV)) → Q (.ref c) H')
    (hstop : ∀ ps b e, (k, ps) ∈ R → Goes seats b ps e → ¬ (b < stop ∧ stop < e) → X "NoStop" H) (hbad : (∀ ps, (k, ps) ∉ R) → X "NoTicket" H) : callW theP (n + 2) false "leave" [.ref t, .int k, .int stop] H Q X := by
  refine call_of (d := f_Train_leave) rfl rfl ?_
  have a1 := T.at_
  refine s_expr (w_meth (by array_get_dec) a1 rfl (by array_get_dec) (s_need_ticket T (fun ps hk => ?_) hbad))
  obtain ⟨rides, T1, T2⟩ := T.tr
  obtain ⟨c, h1, h2, hn⟩ := T2.get T.inv.asc hk
  have hn' : ¬ Own t rd hl ra seats c := fun q => hn (.inl q)
  obtain ⟨b, e, h0, he, G⟩ := T.inv.goes _ hk
  have p2 := T1.hstops
  have hb := T.len
  have hgl := goes_len G
  have plen : (ps.map partMV).length ≤ bigList := by rw [List.length_map]; unfold bigList; dsimp only at hgl; (first | lia | omega)
  refine s_assign (Ev.itemD (Ev.attr (by array_get_dec) a1 rfl) (by array_get_dec) T1.rd_ h1) ?_
  refine s_ite (Ev.not (Ev.chain (ev_first G (by array_get_dec) h2) (EvC.any (by array_get_dec) .lt (EvC.one (ev_last G (by array_get_dec) h2) .lt)))) (fun z => s_raise (hstop ps b e hk G fun w => ?_)) (fun z => s_done ?_)
  · rw [decide_eq_true w.1, decide_eq_true w.2] at z; exact Bool.noConfusion z
  obtain ⟨z1, z2⟩ := Bool.and_eq_true_iff.mp ((Bool.not_eq_false' _) ▸ z)
  have q1 := of_decide_eq_true z1
  have q2 := of_decide_eq_true z2
  refine s_let (w_compL (fun v => decide (stop < pt3 v)) (fun v => .tup [.int (pt1 v), .int (maxI (pt2 v) stop), .int (pt3 v)]) (by array_get_dec) h2 plen (fun v hv => ?_) (fun v hv _ => ?_) ?_)
  · obtain ⟨p, hp, rfl⟩ := List.mem_map.mp hv; array_get_dec
  · obtain ⟨p, hp, rfl⟩ := List.mem_map.mp hv
    exact Ev.tup (Evs.cons (by array_get_dec) (Evs.cons (Ev.max (by array_get_dec) (by array_get_dec)) (Evs.cons (by array_get_dec) Evs.nil)))
  rw [gone_eq (stop := stop) _ _ (fun _ => rfl) (fun _ => rfl)]
  intro c2 hc2
  have E1 := Ext.new (.lst ((goneL ps stop).map partMV)) hc2
  have T3 := T1.ext E1
  have hno2 := T1.not_own hc2
  refine s_expr (w_meth (by array_get_dec) T3.at_ rfl (vs := [.ref c2, mvo none]) (Evs.cons (by array_get_dec) (Evs.cons Ev.none Evs.nil)) (s_mark T3 (MH.set_selfE _ _ _) hno2 (gone_in (T.inv.partsIn hk) (by (first | lia | omega))) fun H4 T4 f4 => ?_))
  have h4 : H4 c = some (.lst (ps.map partMV)) := f4.cel _ _ hn' (E1 _ _ h2)
  have h42 : H4 c2 = some (.lst ((goneL ps stop).map partMV)) := f4.cel _ _ hno2 (MH.set_selfE _ _ _)
  refine s_setIdxw (w_compL (fun v => decide (pt2 v < stop)) (fun v => .tup [.int (pt1 v), .int (pt2 v), .int (minI (pt3 v) stop)]) (by array_get_dec) h4 plen (fun v hv => ?_) (fun v hv _ => ?_) ?_)
  · obtain ⟨p, hp, rfl⟩ := List.mem_map.mp hv; array_get_dec
  · obtain ⟨p, hp, rfl⟩ := List.mem_map.mp hv
    exact Ev.tup (Evs.cons (by array_get_dec) (Evs.cons (by array_get_dec) (Evs.cons (Ev.min (by array_get_dec) (by array_get_dec)) Evs.nil)))
  rw [keep_eq (stop := stop) _ _ (fun _ => rfl) (fun _ => rfl)]
  intro c5 hc5
  have E5 := Ext.new (.lst ((keepL ps stop).map partMV)) hc5
  have T5 := T4.ext E5
  have hno5 := T4.not_own hc5
  have T6 := T5.setRides (dSet rides k (.ref c5))
  have fr4 : Frm (Own t rd hl ra seats) H H4 := E1.frm.trans f4.cel
  have fr6 : Frm (Own t rd hl ra seats) (H4.set c5 (.lst ((keepL ps stop).map partMV))) ((H4.set c5 (.lst ((keepL ps stop).map partMV))).set rd (.dct (dSet rides k (.ref c5)))) := frm_set (.inr (.inl rfl))
  have fr := (fr4.trans E5.frm).trans fr6
  have nz : ¬ (Own t rd hl ra seats c5 ∨ (Z c5 ∨ c5 = c2)) := fun q => q.elim hno5 fun z => z.elim (fun z => T.kept fr4 c5 z hc5) fun q => mne hc5 h42 q.symm
  refine Ev.attr (x := .ref rd) (by array_get_dec) T5.at_ rfl _ _ (Ev.var (v := .int k) (by sizeOf_list_dec) _ _ (SetIdxR.dct T5.rd_ (by rw [T2.len]; exact Nat.lt_of_le_of_lt hb (by decide)) ?_))
  have hfin := fr6 _ _ hno2 (E5 _ _ h42)
  exact s_ret (by array_get_dec) (hok ps b e c2 _ hk G q1 q2 ⟨⟨_, T6, (rides_frm (rides_more T2 hc2) fr).set hk (fr6 _ _ hno5 (MH.set_selfE _ _ _)) nz⟩, inv_leave T.inv hk G q1 q2, T.co, by unfold rSet; rw [List.length_map]; exact hb, fun a z => z.elim (T.apart a) fun z => z ▸ hno2, fun a z => z.elim (T.kept fr a) fun z => by rw [z, hfin]; exact fun z => (by cases z)⟩ fr hc2 hfin)
theorem offer_goes {b e : Int} (p1 : 1 ≤ seats) (h0 : 0 ≤ b) (h1 : b < e) (h2 : e < stops) (hb : blockF g seats (e - b).toNat b = none) : Goes seats b (offer g seats stops b e) e ∧ ∀ s l, Covs (offer g seats stops b e) s l → g s l = none :=
  found_goes p1 h2 _ b h0 h1 (Nat.le_refl _) fun l q1 q2 => full_free (block_none _ _ rfl hb l q1 q2)
theorem t_sell (T : Trn H Z t rd hl ra seats stops coming R g) (hl5 : R.length < 900000) {b e : Int} (hok : 0 ≤ b → b < e → e < stops → blockF g seats (e - b).toNat b = none → ∀ H', Frm (Own t rd hl ra seats) H H' →
      Trn H' Z t rd hl ra seats stops (coming + 1) (R ++ [(coming, offer g seats stops b e)]) (marks g (offer g seats stops b e) (some coming)) → Q (.int coming) H')
    (hfull : ∀ x H', 0 ≤ b → b < e → e < stops → blockF g seats (e - b).toNat b = some x → Ext H H' → X "Full" H') (hbad : ¬ (0 ≤ b ∧ b < e ∧ e < stops) → X "NoStretch" H) : callW theP (n + 4) false "sell" [.ref t, .int b, .int e] H Q X := by
  obtain ⟨rides, T1, T2⟩ := T.tr
  refine s_sell T1 (by rw [T2.len]; omega) (fun h0 h1 h2 hb c H' hc f h' T' => ?_) hfull hbad
  obtain ⟨G, hf⟩ := offer_goes (stops := stops) T1.hseats.1 h0 h1 h2 hb
  exact hok h0 h1 h2 hb H' f ⟨⟨_, T', (rides_frm T2 f).new (fun x hx => (T.inv.rng x hx).2) h' (T.not_z hc)⟩, inv_sell T.inv T.co G h0 (Int.le_sub_one_of_lt h2) hf, Int.le_add_one T.co, by rw [List.length_append]; exact hl5, T.apart, T.kept f⟩
end
end Mine
end
section
set_option autoImplicit false
set_option linter.unusedVariables false
namespace Mine
open PySem
section
variable {n : Nat} {hd : Bool} {H H' : MH} {Z : Addr → Prop} {Q : MV → MH → Prop} {X : String → MH → Prop} {t rd hl : Addr} {ra : Int → Addr} {seats stops coming : Int} {R : Rides} {g : Grid}
theorem ext_ne {c1 : Addr} {o1 o : MObj} {a c : Addr} (h1 : H c1 = none) (hc : H.set c1 o1 c = none) (h : H a = some o) : a ≠ c := mne hc (Ext.new o1 h1 _ _ h)
theorem rows_at {rows : List Addr} {i : Int} (h0 : 0 ≤ i) (h1 : i < rows.length) : ∃ h : i.toNat < rows.length, rows.getD i.toNat 0 = rows[i.toNat] := by
  have hh : i.toNat < rows.length := (Int.toNat_lt h0).mpr h1
  exact ⟨hh, by rw [List.getD_eq_getElem?_getD, List.getElem?_eq_getElem hh]; rfl⟩
theorem rows_refs {rows : List Addr} {m : Nat} (h : rows.length = m) : rows.map MV.ref = refsOf (fun i => rows.getD i.toNat 0) m := by
  apply List.ext_getElem?
  intro k
  unfold refsOf
  rw [List.getElem?_map, List.getElem?_map]
  by_cases hk : k < m
  · rw [List.getElem?_range hk, List.getElem?_eq_getElem (h ▸ hk), Option.map_some, Option.map_some]; show _ = some (MV.ref (rows.getD k 0)); rw [List.getD_eq_getElem?_getD, List.getElem?_eq_getElem (h ▸ hk)]; rfl
  · rw [List.getElem?_eq_none (Nat.le_of_not_lt (h ▸ hk)), List.getElem?_eq_none (by rw [List.length_range]; exact Nat.le_of_not_lt hk)]; rfl
theorem row_none {i : Int} {m : Nat} : List.replicate m MV.none = rowOf (fun _ _ => none) i m := by
  unfold rowOf; rw [List.map_const', List.length_range]; rfl
/-- a new grid of cells -/
theorem w_grid {Δ : CallT} {ρ : Sto} {x : String} {it m : ME} {Y : String → MH → Prop} (hit : Ev Δ false it ρ H (.rng 0 seats 1)) (p1 : 1 ≤ seats ∧ seats ≤ 60) (p2 : 2 ≤ stops ∧ stops ≤ 60) (hm : ∀ v H', Ext H H' → Ev Δ false m (ρ.set x v) H' (.int (stops - 1)))
    (h : ∀ c rb H', Ext H H' → Gd H' c rb seats stops (fun _ _ => none) → H c = none → (∀ i, 0 ≤ i → i < seats → H (rb i) = none) → Q (.ref c) H') : wE Δ false (.comp (.bin .mul (.list (.cons .none .nil)) m) x it (.bool true)) ρ H Q Y := by
  refine ⟨rfl, hit _ _ ⟨_, .rng, comp_inv (fun vs acc H' => ∃ rows : List Addr, acc = rows.map .ref ∧ rows.length + vs.length = seats.toNat ∧ rows.Nodup ∧ (∀ x ∈ rows, H x = none ∧ H' x = some (.lst (List.replicate (stops - 1).toNat .none))) ∧ Ext H H') (fun _ _ _ _ => .rng) (fun _ _ _ h => h) ?_ ?_ _ _ _ ?_ ⟨[], rfl, ?_, .nil, ⟨fun _ h => (by cases h), Ext.refl _⟩⟩⟩⟩
  · rintro v vs acc H' k ⟨rows, e1, e2, e0, e3, E⟩ hk c1 hc1
    refine hm _ _ (E.trans (Ext.new _ hc1)) _ _ (BinR.rep (MH.set_selfE _ _ _) (by (first | lia | omega)) (by unfold bigList; (first | lia | omega)) fun c2 hc2 => ?_)
    have hE : Ext H' ((H'.set c1 (.lst [MV.none])).set c2 (.lst (List.replicate (stops - 1).toNat .none))) := (Ext.new _ hc1).trans (Ext.new _ hc2)
    have c0 : H c2 = none := none_of_ext (E.trans (Ext.new _ hc1)) hc2
    refine hk _ _ ⟨rows ++ [c2], by rw [e1, List.map_append]; rfl, by rw [List.length_cons] at e2; rw [List.length_append, List.length_singleton]; (first | lia | omega), ?_, fun y hy => ?_, E.trans hE⟩
    · rw [List.nodup_append]
      exact ⟨e0, List.pairwise_singleton _ _, fun y hy z hz => List.mem_singleton.mp hz ▸ ext_ne hc1 hc2 (e3 y hy).2⟩
    · rcases List.mem_append.mp hy with hy | hy
      · exact ⟨(e3 y hy).1, hE _ _ (e3 y hy).2⟩
      · obtain rfl := List.mem_singleton.mp hy; exact ⟨c0, MH.set_selfE _ _ _⟩
  · rintro acc H' c ⟨rows, e1, e2, e0, e3, E⟩ hc
    have e2 : rows.length = seats.toNat := e2
    have el : (rows.length : Int) = seats := by rw [e2]; exact Int.toNat_of_nonneg (by (first | lia | omega))
    have E2 := Ext.new (.lst acc) hc
    have mem : ∀ i, 0 ≤ i → i < seats → rows.getD i.toNat 0 ∈ rows := fun i h0 h1 => by obtain ⟨q, e⟩ := rows_at (rows := rows) h0 (el ▸ h1); rw [e]; exact List.getElem_mem q
    refine h c (fun i => rows.getD i.toNat 0) _ (E.trans E2) ⟨p1, p2, (MH.set_selfE _ _ _).trans (by rw [e1, rows_refs e2]), fun i h0 h1 => (E2 _ _ (e3 _ (mem i h0 h1)).2).trans (by rw [row_none]), fun i j h0 h1 h2 h3 q => ?_, fun i h0 h1 => mne hc (e3 _ (mem i h0 h1)).2⟩ (none_of_ext E hc) fun i h0 h1 => (e3 _ (mem i h0 h1)).1
    obtain ⟨i2, i3⟩ := rows_at (rows := rows) h0 (el ▸ h1)
    obtain ⟨j2, j3⟩ := rows_at (rows := rows) h2 (el ▸ h3)
    have q' : rows[i.toNat] = rows[j.toNat] := i3.symm.trans (q.trans j3)
    have := (List.getElem_inj e0).mp q'
    (first | lia | omega)
  · rw [List.length_map, rangeL_len1, List.length_nil, Nat.zero_add]; unfold bigList; (first | lia | omega)
  · rw [List.length_map, rangeL_len1, List.length_nil, Nat.zero_add, Int.sub_zero]
theorem t_init {a : Addr} {seats stops : Int} (ha : H a = some (.inst [])) (p1 : 1 ≤ seats ∧ seats ≤ 60) (p2 : 2 ≤ stops ∧ stops ≤ 60)
    (hok : ∀ H' rd hl ra, Trn H' (fun _ => False) a rd hl ra seats stops 0 [] (fun _ _ => none) → (∀ b, Own a rd hl ra seats b → b = a ∨ H b = none) → (∀ b o, b ≠ a → H b = some o → H' b = some o) → Q .none H') : callW theP (n + 1) false "__init__" [.ref a, .int seats, .int stops] H Q X := by
  refine call_of (d := f_Train_init) rfl rfl ?_
  have o1 : ∀ {lo v : Int} {e : ME} {ρ : Sto}, lo ≤ v → v ≤ 60 → Ev (callW theP n) false e ρ H (.int v) → Ev (callW theP n) false (.not (.cmp (.int lo) (.cons .le e (.cons .le (.gconst "MOST" (.int 60)) .nil)))) ρ H (.bool false) := fun h1 h2 he =>
    Ev.not (b := true) (Ev.chain Ev.int (EvC.t he (decide_eq_true h1 ▸ .le) (EvC.one Ev.gconst (decide_eq_true h2 ▸ .le))))
  refine s_skip (Ev.or (EvO.f (o1 p1.1 p1.2 (by array_get_dec)) (EvO.one (o1 p2.1 p2.2 (by array_get_dec))))) ?_
  have sa : ∀ {H1 : MH} {fs : List (String × MV)} {e : ME} {f : String} {v : MV} {ρ : Sto} {ss : MSs} {N : Sto → MH → Prop} {R : MV → MH → Prop} {Y : String → Sto → MH → Prop}, ρ "self" = some (.ref a) → fs.length < 100 → Ev (callW theP n) false e ρ (H1.set a (.inst fs)) v → wSs (callW theP n) false ss ρ ((H1.set a (.inst fs)).set a (.inst (fsSet fs f v))) N R Y → wSs (callW theP n) false (.cons (.setAttr (.var "self") f e) ss) ρ (H1.set a (.inst fs)) N R Y :=
    fun hs hl he h => s_setAttr he (Ev.var hs) (MH.set_selfE _ _ _) hl h
  refine s_setAttr (by array_get_dec) (by array_get_dec) ha (by decide) (sa rfl (by show 1 < 100; decide) (by array_get_dec) (sa rfl (by show 2 < 100; decide) (by array_get_dec) ?_))
  refine s_setAttrw fun r hr => ?_
  have nr : ∀ {b : Addr} {o : MObj}, H b = some o → b ≠ a → b ≠ r := fun h n => mne hr ((MH.set_neE _ _ n).trans ((MH.set_neE _ _ n).trans ((MH.set_neE _ _ n).trans h)))
  have ra : a ≠ r := mne hr (MH.set_selfE _ _ _)
  have r0 : H r = none := by
    cases q : H r with
    | none => rfl
    | some o => exact absurd rfl (nr q ra.symm)
  refine Ev.var (v := .ref a) rfl _ _ (SetAttrR.mk ((MH.set_neE _ _ ra).trans (MH.set_selfE _ _ _)) (by show 3 < 100; decide) ?_)
  refine s_setAttrw (w_grid (seats := seats) (stops := stops) (Ev.range1 (by array_get_dec) (smallOf (by (first | lia | omega)) (by (first | lia | omega)))) p1 p2 (fun v H' _ => by array_get_dec) fun c rb H4 E4 G hc hrb => ?_)
  have a4 := E4 _ _ (MH.set_selfE _ _ _)
  have r4 : H4 r = some (.dct []) := E4 _ _ ((MH.set_neE _ _ ra.symm).trans (MH.set_selfE _ _ _))
  have keep : ∀ {b : Addr} {o : MObj}, b ≠ a → H b = some o → H4 b = some o := fun n h => E4 _ _ ((MH.set_neE _ _ n).trans ((MH.set_neE _ _ (nr h n)).trans ((MH.set_neE _ _ n).trans ((MH.set_neE _ _ n).trans ((MH.set_neE _ _ n).trans h)))))
  refine Ev.var (v := .ref a) rfl _ _ (SetAttrR.mk a4 (by show 4 < 100; decide) ?_)
  have ca : c ≠ a := fun q => mne hc (MH.set_selfE _ _ _) q.symm
  have cela : ∀ i, 0 ≤ i → i < seats → rb i ≠ a := fun i h0 h1 q => mne (hrb i h0 h1) (MH.set_selfE _ _ _) q.symm
  have old : ∀ {b : Addr} {o1 o2 o3 o4 : MObj}, b ≠ a → (((((H.set a o1).set a o2).set a o3).set r (.dct [])).set a o4) b = none → H b = none := fun {b o1 o2 o3 o4} n h => by
    cases q : H b with
    | none => rfl
    | some o => exact absurd ((MH.set_neE _ _ n).trans ((MH.set_neE _ _ (nr q n)).trans ((MH.set_neE _ _ n).trans ((MH.set_neE _ _ n).trans ((MH.set_neE _ _ n).trans q))))) (by rw [h]; exact fun z => by cases z)
  have G' : Gd (H4.set a (.inst (trFs seats stops 0 r c))) c rb seats stops (fun _ _ => none) := G.keep fun b o z h => (MH.set_neE _ _ (z.elim (fun z => z ▸ ca) fun ⟨i, h0, h1, e⟩ => e ▸ cela i h0 h1)).trans h
  exact hok _ r c rb ⟨⟨[], ⟨G', MH.set_selfE _ _ _, (MH.set_neE _ _ ra.symm).trans r4⟩, .nil⟩, inv_init, Int.le_refl _, Nat.zero_le _, fun _ z => z.elim, fun _ z => z.elim⟩
    (fun b z => by
      rcases z with z | z | z | ⟨i, h0, h1, z⟩
      · exact .inl z
      · exact .inr (z ▸ r0)
      · exact .inr (z ▸ old ca hc)
      · exact .inr (z ▸ old (cela i h0 h1) (hrb i h0 h1))) (fun b o n h => (MH.set_neE _ _ n).trans (keep n h))
end
end Mine
end
section
set_option autoImplicit false
set_option linter.unusedVariables false
namespace Mine
open PySem
section
variable {n : Nat} {hd : Bool} {H H' : MH} {Z : Addr → Prop} {Q : MV → MH → Prop} {X : String → MH → Prop} {t rd hl : Addr} {ra : Int → Addr} {seats stops coming : Int} {R : Rides} {g : Grid}
theorem fm_pos (a : Int) {m : Int} (h : 0 < m) : 0 ≤ a.fmod m ∧ a.fmod m < m := ⟨Int.fmod_nonneg_of_pos _ h, Int.fmod_lt_of_pos _ h⟩
theorem at_pick {ls : List MV} {i : Int} (h0 : 0 ≤ i) (h1 : i < ls.length) : ∃ v, v ∈ ls ∧ atIdx ls i = some v := by
  have hh : i.toNat < ls.length := (Int.toNat_lt h0).mpr h1
  exact ⟨ls[i.toNat], List.getElem_mem hh, atIdx_nn h0 (List.getElem?_eq_getElem hh)⟩
/-- a figure over another, by constants -/
theorem ev_dm {Δ : CallT} {ρ : Sto} {e : ME} {a : Int} (d m : Int) (he : Ev Δ hd e ρ H (.int a)) (h : d ≠ 0) (h2 : d.natAbs < 1073741824) (h3 : m ≠ 0) : Ev Δ hd (.bin .mod (.bin .fdiv e (.int d)) (.int m)) ρ H (.int ((a.fdiv d).fmod m)) := Ev.mod (Ev.fdiv he Ev.int h h2) Ev.int h3
theorem s_cell_at {script : Addr} {is : List Int} {k : Int} (hH : H script = some (.ro (is.map .int))) (hk : 0 ≤ k) (h : ∀ v, Q (.int v) H) : callW theP (n + 1) hd "_law_cell_at" [.ref script, .int k] H Q X := by
  refine call_of (d := f__law_cell_at) rfl rfl ?_
  refine s_ite (Ev.cmp (by array_get_dec) (Ev.lenR (by array_get_dec) hH) .lt) (fun q => ?_) (fun _ => s_done (s_ret Ev.int (h _)))
  obtain ⟨v, hv, e⟩ := at_pick hk (of_decide_eq_true q)
  obtain ⟨i, _, rfl⟩ := List.mem_map.mp hv
  exact s_ret (Ev.itemR (by array_get_dec) (by array_get_dec) hH e) (h _)
theorem s_seats {c : Int} (h : ∀ v, 1 ≤ v → v ≤ 60 → Q (.int v) H) : callW theP (n + 1) hd "_law_seats" [.int c] H Q X := by
  refine call_of (d := f__law_seats) rfl rfl ?_
  have e1 := fm_pos (c.fdiv 40) (m := 11) (by decide)
  have e2 := fm_pos (c.fdiv 40) (m := 44) (by decide)
  have e3 := fm_pos c (m := 5) (by decide)
  refine s_ite (Ev.cmp (ev_dm 5 8 (by array_get_dec) (by decide) (by decide) (by decide)) Ev.int .eqi) (fun _ => s_ret (Ev.add Ev.int (ev_dm 40 11 (by array_get_dec) (by decide) (by decide) (by decide))) (h _ (by omega) (by omega))) (fun _ => s_done ?_)
  refine s_ite (Ev.cmp (ev_dm 5 8 (by array_get_dec) (by decide) (by decide) (by decide)) Ev.int .eqi) (fun _ => s_ret (Ev.add Ev.int (ev_dm 40 44 (by array_get_dec) (by decide) (by decide) (by decide))) (h _ (by omega) (by omega))) (fun _ => s_done ?_)
  exact s_ret (Ev.add Ev.int (Ev.mod (by array_get_dec) Ev.int (by decide))) (h _ (by omega) (by omega))
theorem s_stops {c : Int} (h : ∀ v, 2 ≤ v → v ≤ 60 → Q (.int v) H) : callW theP (n + 1) hd "_law_stops" [.int c] H Q X := by
  refine call_of (d := f__law_stops) rfl rfl ?_
  have e1 := fm_pos (c.fdiv 64) (m := 11) (by decide)
  have e2 := fm_pos (c.fdiv 64) (m := 40) (by decide)
  have e3 := fm_pos c (m := 8) (by decide)
  refine s_ite (Ev.cmp (ev_dm 8 8 (by array_get_dec) (by decide) (by decide) (by decide)) Ev.int .eqi) (fun _ => s_ret (Ev.add Ev.int (ev_dm 64 11 (by array_get_dec) (by decide) (by decide) (by decide))) (h _ (by omega) (by omega))) (fun _ => s_done ?_)
  refine s_ite (Ev.cmp (ev_dm 8 8 (by array_get_dec) (by decide) (by decide) (by decide)) Ev.int .eqi) (fun _ => s_ret (Ev.add Ev.int (ev_dm 64 40 (by array_get_dec) (by decide) (by decide) (by decide))) (h _ (by omega) (by omega))) (fun _ => s_done ?_)
  exact s_ret (Ev.add Ev.int (Ev.mod (by array_get_dec) Ev.int (by decide))) (h _ (by omega) (by omega))
noncomputable def someL : List Int := [99991, 99989, 99971, 99961, 99929, 99923, 99907, 99901, 99881, 99877, 99871]
theorem some_ok : ∀ d ∈ someL, 0 < d ∧ d ≤ 100000 := by decide
theorem s_mixed {c k m : Int} (hk : 0 ≤ k) (hm : 0 < m) (h : ∀ v H', 0 ≤ v → v < m → Ext H H' → Q (.int v) H') : callW theP (n + 1) hd "_law_mixed" [.int c, .int k, .int m] H Q X := by
  refine call_of (d := f__law_mixed) rfl rfl ?_
  refine s_let (w_list (vs := someL.map .int) (by array_get_dec) fun a ha => ?_)
  have e := fm_pos k (m := 11) (by decide)
  obtain ⟨v, hv, ev⟩ := at_pick (ls := someL.map .int) e.1 e.2
  obtain ⟨d, hd', rfl⟩ := List.mem_map.mp hv
  obtain ⟨d0, d1⟩ := some_ok d hd'
  have md := fm_pos ((c + 7 * k) * 48271) d0
  have mk : mulOk (((c + 7 * k) * 48271).fmod d) (((c + 7 * k) * 48271).fmod d) := .inl (by omega)
  refine s_assign (Ev.mod (Ev.mul (Ev.add (by array_get_dec) (Ev.mul Ev.int (by array_get_dec) (.inl (by decide)))) Ev.int (.inr (by decide))) (Ev.item (by array_get_dec) (Ev.mod (by array_get_dec) Ev.int (by decide)) (MH.set_selfE _ _ _) ev) (Int.ne_of_gt d0)) ?_
  have fin := fm_pos ((((((c + 7 * k) * 48271).fmod d) * (((c + 7 * k) * 48271).fmod d)) * 7 + (((c + 7 * k) * 48271).fmod d) + k).fmod 1000003) hm
  exact s_ret (Ev.mod (Ev.mod (Ev.add (Ev.add (Ev.mul (Ev.mul (by array_get_dec) (by array_get_dec) mk) Ev.int (.inr (by decide))) (by array_get_dec)) (by array_get_dec)) Ev.int (by decide)) (by array_get_dec) (Int.ne_of_gt hm)) (h _ _ fin.1 fin.2 (Ext.new _ ha))
theorem s_stretch_by {c stops : Int} (hs : 2 ≤ stops ∧ stops ≤ 60) (h : ∀ b e H', 0 ≤ b → b < e → e < stops → Ext H H' → Q (.tup [.int b, .int e]) H') : callW theP (n + 2) false "_law_stretch_by" [.int c, .int stops] H Q X := by
  refine call_of (d := f__law_stretch_by) rfl rfl ?_
  refine s_let (w_call (by array_get_dec) (s_mixed (by decide) (by omega) fun b H1 b0 b1 E1 => ?_))
  have rest : ∀ {b : Int} {ρ : Sto}, 0 ≤ b → b < stops - 1 → ρ "_law_cell" = some (.int c) → ρ "_law_stops_here" = some (.int stops) → ρ "_law_begin" = some (.int b) → wSs (callW theP (n + 1)) false
      (.cons (.assign "_law_end" (.bin .add (.bin .add (.var "_law_begin") (.int 1)) (.call "_law_mixed" (.cons (.var "_law_cell") (.cons (.int 2) (.cons (.bin .sub (.bin .sub (.var "_law_stops_here") (.int 1)) (.var "_law_begin")) .nil))))))
      (.cons (.ite (.cmp (.bin .mod (.bin .fdiv (.var "_law_cell") (.int 27)) (.int 3)) (.cons .eq (.int 1) .nil))
      (.cons (.assign "_law_end" (.bi "min" (.cons (.bin .add (.bin .add (.var "_law_begin") (.int 1)) (.bin .mod (.bin .fdiv (.var "_law_cell") (.int 81)) (.int 3))) (.cons (.bin .sub (.var "_law_stops_here") (.int 1)) .nil)))) .nil) .nil)
      (.cons (.ret (.tup (.cons (.var "_law_begin") (.cons (.var "_law_end") .nil)))) .nil))) ρ H1 (fun _ H' => Q .none H') Q (fun c _ H' => X c H') := by
    intro b ρ b0 b1 g1 g2 g3
    refine s_let (Ev.add (by array_get_dec) Ev.int _ _ (w_call (by array_get_dec) (s_mixed (by decide) (by omega) fun v H2 v0 v1 E2 => BinR.add ?_)))
    refine s_ite (Ev.cmp (ev_dm 27 3 (by array_get_dec) (by decide) (by decide) (by decide)) Ev.int .eqi) (fun _ => ?_) (fun _ => s_done (s_ret (by array_get_dec) (h _ _ _ b0 (by omega) (by omega) (E1.trans E2))))
    have f := fm_pos (c.fdiv 81) (m := 3) (by decide)
    refine s_assign (Ev.min (Ev.add (by array_get_dec) (ev_dm 81 3 (by array_get_dec) (by decide) (by decide) (by decide))) (by array_get_dec)) (s_done (s_ret (by array_get_dec) (h _ _ _ b0 ?_ ?_ (E1.trans E2))))
    · unfold minI; split <;> omega
    · unfold minI; split <;> omega
  refine s_ite (Ev.cmp (ev_dm 9 3 (by array_get_dec) (by decide) (by decide) (by decide)) Ev.int .eqi) (fun _ => s_assign Ev.int (s_done (rest (by decide) (by omega) rfl rfl rfl))) (fun _ => s_done (rest b0 b1 rfl rfl rfl))
/-! the word of an exception -/
noncomputable def clsTab : List (String × String) := [("NoTrain", "train"), ("NoStretch", "stretch"), ("NoSeat", "seat"), ("NoStop", "stop"), ("NoLeg", "leg"), ("NoTicket", "ticket"), ("Full", "full"), ("Shared", "shared"), ("NoText", "text")]
noncomputable def clsChain : List (String × String) → MSs → MSs
  | [], r => r
  | p :: l, r => .cons (.ite (.isinst (.var "_law_e") p.1) (.cons (.expr (.bm (.var "_law_words") "append" (.cons (.str p.2) .nil))) .nil) .nil) (clsChain l r)
noncomputable def wordOf (c : String) : String := ((clsTab.filter fun p => p.1 == c).map (·.2)).headD ""
theorem word_one : ∀ c ∈ excNames, (clsTab.filter fun p => p.1 == c).map (·.2) = [wordOf c] := by decide
theorem cls_names : ∀ p ∈ clsTab, excNames.contains p.1 = true := by decide
theorem chain_go {Δ : CallT} {ρ : Sto} {a : Addr} {c : String} {rest : MSs} {N : Sto → MH → Prop} {R : MV → MH → Prop} {Y : String → Sto → MH → Prop} (g1 : ρ "_law_e" = some (.exc c)) (g2 : ρ "_law_words" = some (.ref a)) :
    ∀ (l : List (String × String)) (acc : List MV) (H : MH), (∀ p ∈ l, excNames.contains p.1 = true) → acc.length + l.length ≤ 100 → H a = some (.lst acc) → (∀ H', (∀ b, b ≠ a → H' b = H b) → H' a = some (.lst (acc ++ ((l.filter fun p => p.1 == c).map fun p => MV.str (Str.ofString p.2)))) → wSs Δ hd rest ρ H' N R Y) → wSs Δ hd (clsChain l rest) ρ H N R Y := by
  intro l
  induction l with
  | nil => intro acc H _ _ ha h; exact h H (fun _ _ => rfl) (by rw [ha, List.filter_nil, List.map_nil, List.append_nil])
  | cons p l ih =>
    intro acc H hl hn ha h
    rw [List.length_cons] at hn
    refine s_ite (Ev.isi (Ev.var g1) (.exc (hl p (.head _)))) (fun q => s_expr (w_append (Ev.var g2) ha Ev.str (by unfold bigList; (first | lia | omega)) (s_done ?_))) (fun q => s_done ?_)
    · refine ih _ _ (fun x hx => hl x (.tail _ hx)) (by rw [List.length_append, List.length_singleton]; (first | lia | omega)) (MH.set_selfE _ _ _) fun H' k e => h H' (fun b nb => (k b nb).trans (MH.set_neE _ _ nb)) ?_
      rw [e, List.filter_cons_of_pos (p := fun (p : String × String) => p.1 == c) q, List.map_cons, List.append_assoc]; rfl
    · refine ih _ _ (fun x hx => hl x (.tail _ hx)) (by (first | lia | omega)) ha fun H' k e => h H' k ?_
      rw [e, List.filter_cons_of_neg (p := fun (p : String × String) => p.1 == c) (by rw [q]; exact Bool.noConfusion)]
theorem s_class {c : String} (hc : excNames.contains c = true) (h : ∀ H', Ext H H' → Q (.str (Str.ofString (wordOf c))) H') : callW theP (n + 1) hd "_law_class" [.exc c] H Q X := by
  refine call_of (d := f__law_class) rfl rfl ?_
  refine s_let (w_list Evs.nil fun a ha => ?_)
  refine chain_go (l := clsTab) (c := c) (a := a) rfl rfl _ _ cls_names (by decide) (MH.set_selfE _ _ _) fun H' k e => ?_
  have e2 : H' a = some (.lst [.str (Str.ofString (wordOf c))]) := by
    have := congrArg (List.map fun w => MV.str (Str.ofString w)) (word_one c (List.contains_iff_mem.mp hc))
    rw [List.map_map] at this
    rw [e, List.nil_append]; exact congrArg (fun l => some (MObj.lst l)) this
  refine s_iteT (Ev.and (EvA.t (Ev.cmp (Ev.lenL (by array_get_dec) e2) Ev.int .eqi) (EvA.one (Ev.isi (by array_get_dec) .val)))) (s_ret (Ev.item (by array_get_dec) Ev.int e2 rfl) (h _ fun b o hb => (k b (mne ha hb)).trans (Ext.new _ ha _ _ hb)))
end
end Mine
end
section
set_option autoImplicit false
set_option linter.unusedVariables false
namespace Mine
open PySem
section
variable {n : Nat} {hd : Bool} {H H' : MH} {Z : Addr → Prop} {Q : MV → MH → Prop} {X : String → MH → Prop} {t rd hl : Addr} {ra : Int → Addr} {seats stops coming : Int} {R : Rides} {g : Grid}
theorem s_whole {i : Int} (h : Q (.bool true) H) : callW theP (n + 1) hd "_law_whole" [.int i] H Q X :=
  call_of (d := f__law_whole) rfl rfl (s_ret (Ev.and (EvA.t (Ev.isi (by array_get_dec) .ii) (EvA.one (Ev.not (Ev.isi (by array_get_dec) .bi))))) h)
end
end Mine
end
section
set_option autoImplicit false
set_option linter.unusedVariables false
namespace Mine
open PySem
/-- a deed of the law -/
noncomputable def deedMV (k : String) (a b : Int) : MV := .tup [.str (Str.ofString k), .int a, .int b]
section
variable {n : Nat} {hd : Bool} {H H' : MH} {Z : Addr → Prop} {Q : MV → MH → Prop} {X : String → MH → Prop} {t rd hl : Addr} {ra : Int → Addr} {seats stops coming : Int} {R : Rides} {g : Grid}
theorem dec_str {a b : String} : decide (Str.ofString a = Str.ofString b) = decide (a = b) := decide_eq_decide.mpr ofString_eq
theorem ev_kind {Δ : CallT} {ρ : Sto} {x : ME} {k s : String} {a b : Int} (hx : Ev Δ hd x ρ H (deedMV k a b)) : Ev Δ hd (.cmp (.sub x (.int 0)) (.cons .eq (.str s) .nil)) ρ H (.bool (decide (k = s))) := dec_str ▸ Ev.cmp (Ev.itemT hx Ev.int rfl) Ev.str .eqs
theorem ev_d1 {Δ : CallT} {ρ : Sto} {x : ME} {k : String} {a b : Int} (hx : Ev Δ hd x ρ H (deedMV k a b)) : Ev Δ hd (.sub x (.int 1)) ρ H (.int a) := Ev.itemT hx Ev.int rfl
theorem ev_d2 {Δ : CallT} {ρ : Sto} {x : ME} {k : String} {a b : Int} (hx : Ev Δ hd x ρ H (deedMV k a b)) : Ev Δ hd (.sub x (.int 2)) ρ H (.int b) := Ev.itemT hx Ev.int rfl
/-- why a sale or an offer fails -/
noncomputable def sellFail (g : Grid) (seats stops b e : Int) : Option String := if 0 ≤ b ∧ b < e ∧ e < stops then (if (blockF g seats (e - b).toNat b).isSome then some "Full" else none) else some "NoStretch"
theorem fail_full {b e x : Int} (h0 : 0 ≤ b) (h1 : b < e) (h2 : e < stops) (h : blockF g seats (e - b).toNat b = some x) : sellFail g seats stops b e = some "Full" := by unfold sellFail; rw [if_pos ⟨h0, h1, h2⟩, h]; rfl
theorem fail_none {b e : Int} (h0 : 0 ≤ b) (h1 : b < e) (h2 : e < stops) (h : blockF g seats (e - b).toNat b = none) : sellFail g seats stops b e = none := by unfold sellFail; rw [if_pos ⟨h0, h1, h2⟩, h]; rfl
theorem fail_bad {b e : Int} (h : ¬ (0 ≤ b ∧ b < e ∧ e < stops)) : sellFail g seats stops b e = some "NoStretch" := if_neg h
theorem fail_exc {b e : Int} {c : String} (h : sellFail g seats stops b e = some c) : excNames.contains c = true := by
  unfold sellFail at h
  split at h
  · split at h
    · obtain rfl := Option.some.inj h; rfl
    · cases h
  · obtain rfl := Option.some.inj h; rfl
theorem s_told_sell (T : Trn H Z t rd hl ra seats stops coming R g) (hl5 : R.length < 900000) {b e : Int} (hok : 0 ≤ b → b < e → e < stops → blockF g seats (e - b).toNat b = none → ∀ H', Frm (Own t rd hl ra seats) H H' →
      Trn H' Z t rd hl ra seats stops (coming + 1) (R ++ [(coming, offer g seats stops b e)]) (marks g (offer g seats stops b e) (some coming)) → Q (.int coming) H')
    (hx : ∀ c H', sellFail g seats stops b e = some c → Ext H H' → X c H') : callW theP (n + 5) false "_law_told" [.ref t, deedMV "sell" b e] H Q X :=
  call_of (d := f__law_told) rfl rfl (s_iteT (ev_kind (k := "sell") (by array_get_dec)) (s_retw (w_meth (by array_get_dec) T.at_ rfl (Evs.cons (ev_d1 (by array_get_dec)) (Evs.cons (ev_d2 (by array_get_dec)) Evs.nil)) (t_sell T hl5 hok (fun x H' h0 h1 h2 hb E => hx _ _ (fail_full h0 h1 h2 hb) E) fun h => hx _ _ (fail_bad h) (.refl _)))))
theorem s_told_back (T : Trn H Z t rd hl ra seats stops coming R g) {k z : Int} (hok : ∀ ps c H', (k, ps) ∈ R → Trn H' (fun a => Z a ∨ a = c) t rd hl ra seats stops coming (rDel R k) (marks g ps none) → Frm (Own t rd hl ra seats) H H' → H c = none → H' c = some (.lst (ps.map partMV)) → Q (.ref c) H')
    (hbad : (∀ ps, (k, ps) ∉ R) → X "NoTicket" H) : callW theP (n + 5) false "_law_told" [.ref t, deedMV "back" k z] H Q X :=
  call_of (d := f__law_told) rfl rfl (s_skip (ev_kind (k := "back") (by array_get_dec)) (s_iteT (ev_kind (k := "back") (by array_get_dec)) (s_retw (w_meth (by array_get_dec) T.at_ rfl (Evs.cons (ev_d1 (by array_get_dec)) Evs.nil) (s_back T hok hbad)))))
theorem s_told_leave (T : Trn H Z t rd hl ra seats stops coming R g) {k stop : Int} (hok : ∀ ps b e c H', (k, ps) ∈ R → Goes seats b ps e → b < stop → stop < e → Trn H' (fun a => Z a ∨ a = c) t rd hl ra seats stops coming (rSet R k (keepL ps stop)) (marks g (goneL ps stop) none) → Frm (Own t rd hl ra seats) H H' → H c = none → H' c = some (.lst ((goneL ps stop).map partMV)) → Q (.ref c) H')
    (hstop : ∀ ps b e, (k, ps) ∈ R → Goes seats b ps e → ¬ (b < stop ∧ stop < e) → X "NoStop" H) (hbad : (∀ ps, (k, ps) ∉ R) → X "NoTicket" H) : callW theP (n + 5) false "_law_told" [.ref t, deedMV "leave" k stop] H Q X :=
  call_of (d := f__law_told) rfl rfl (s_skip (ev_kind (k := "leave") (by array_get_dec)) (s_skip (ev_kind (k := "leave") (by array_get_dec)) (s_iteT (ev_kind (k := "leave") (by array_get_dec)) (s_retw (w_meth (by array_get_dec) T.at_ rfl (Evs.cons (ev_d1 (by array_get_dec)) (Evs.cons (ev_d2 (by array_get_dec)) Evs.nil)) (s_leave T hok hstop hbad))))))
theorem s_told_reseat (T : Trn H Z t rd hl ra seats stops coming R g) {k z : Int} (hok : ∀ ps b e c H', (k, ps) ∈ R → Goes seats b ps e → 0 ≤ b → e ≤ stops - 1 → Trn H' Z t rd hl ra seats stops coming (rSet R k (anew g seats stops ps b e)) (marks (marks g ps none) (anew g seats stops ps b e) (some k)) →
      Frm (Own t rd hl ra seats) H H' → H c = none → H' c = some (.lst ((anew g seats stops ps b e).map partMV)) → Q (.ref c) H')
    (hbad : (∀ ps, (k, ps) ∉ R) → X "NoTicket" H) : callW theP (n + 5) false "_law_told" [.ref t, deedMV "reseat" k z] H Q X :=
  call_of (d := f__law_told) rfl rfl (s_skip (ev_kind (k := "reseat") (by array_get_dec)) (s_skip (ev_kind (k := "reseat") (by array_get_dec)) (s_skip (ev_kind (k := "reseat") (by array_get_dec)) (s_retw (w_meth (by array_get_dec) T.at_ rfl (Evs.cons (ev_d1 (by array_get_dec)) Evs.nil) (s_reseat T hok hbad))))))
/-- the word that an exception gives -/
abbrev failMV (w : String) : MV := .tup [.str (Str.ofString w), .none]
abbrev doneMV (v : MV) : MV := .tup [.str (Str.ofString ""), v]
theorem w_hand {c : String} {ρ : Sto} {N : Sto → MH → Prop} {Y : String → Sto → MH → Prop} (hc : excNames.contains c = true) (h : ∀ H', Ext H H' → Q (failMV (wordOf c)) H') :
    wSs (callW theP (n + 1)) true (.cons (.ret (.tup (.cons (.call "_law_class" (.cons (.var "_law_e") .nil)) (.cons .none .nil)))) .nil) (ρ.set "_law_e" (.exc c)) H N Q Y :=
  s_retw (w_call (Evs.cons (Ev.var (Sto.gets _ _ _)) Evs.nil) (s_class hc h))
theorem s_word_sell (T : Trn H Z t rd hl ra seats stops coming R g) (hl5 : R.length < 900000) {b e : Int} (hok : 0 ≤ b → b < e → e < stops → blockF g seats (e - b).toNat b = none → ∀ H', Frm (Own t rd hl ra seats) H H' →
      Trn H' Z t rd hl ra seats stops (coming + 1) (R ++ [(coming, offer g seats stops b e)]) (marks g (offer g seats stops b e) (some coming)) → Q (doneMV (.int coming)) H')
    (hx : ∀ c H', sellFail g seats stops b e = some c → Ext H H' → Q (failMV (wordOf c)) H') : callW theP (n + 6) false "_law_word" [.ref t, deedMV "sell" b e] H Q X :=
  call_of (d := f__law_word) rfl rfl (s_try (s_retw (w_call (by array_get_dec) (s_told_sell T hl5 hok fun c H' hf E => w_hand (fail_exc hf) fun H'' E' => hx c H'' hf (E.trans E')))))
theorem s_word_back (T : Trn H Z t rd hl ra seats stops coming R g) {k z : Int} (hok : ∀ ps c H', (k, ps) ∈ R → Trn H' (fun a => Z a ∨ a = c) t rd hl ra seats stops coming (rDel R k) (marks g ps none) → Frm (Own t rd hl ra seats) H H' → H c = none → H' c = some (.lst (ps.map partMV)) → Q (doneMV (.ref c)) H')
    (hbad : (∀ ps, (k, ps) ∉ R) → ∀ H', Ext H H' → Q (failMV "ticket") H') : callW theP (n + 6) false "_law_word" [.ref t, deedMV "back" k z] H Q X :=
  call_of (d := f__law_word) rfl rfl (s_try (s_retw (w_call (by array_get_dec) (s_told_back T hok fun nb => w_hand rfl (hbad nb)))))
theorem s_word_leave (T : Trn H Z t rd hl ra seats stops coming R g) {k stop : Int} (hok : ∀ ps b e c H', (k, ps) ∈ R → Goes seats b ps e → b < stop → stop < e → Trn H' (fun a => Z a ∨ a = c) t rd hl ra seats stops coming (rSet R k (keepL ps stop)) (marks g (goneL ps stop) none) → Frm (Own t rd hl ra seats) H H' → H c = none → H' c = some (.lst ((goneL ps stop).map partMV)) → Q (doneMV (.ref c)) H')
    (hstop : ∀ ps b e, (k, ps) ∈ R → Goes seats b ps e → ¬ (b < stop ∧ stop < e) → ∀ H', Ext H H' → Q (failMV "stop") H') (hbad : (∀ ps, (k, ps) ∉ R) → ∀ H', Ext H H' → Q (failMV "ticket") H') : callW theP (n + 6) false "_law_word" [.ref t, deedMV "leave" k stop] H Q X :=
  call_of (d := f__law_word) rfl rfl (s_try (s_retw (w_call (by array_get_dec) (s_told_leave T hok (fun ps b e h1 h2 h3 => w_hand rfl (hstop ps b e h1 h2 h3)) fun nb => w_hand rfl (hbad nb)))))
theorem s_word_reseat (T : Trn H Z t rd hl ra seats stops coming R g) {k z : Int} (hok : ∀ ps b e c H', (k, ps) ∈ R → Goes seats b ps e → 0 ≤ b → e ≤ stops - 1 → Trn H' Z t rd hl ra seats stops coming (rSet R k (anew g seats stops ps b e)) (marks (marks g ps none) (anew g seats stops ps b e) (some k)) →
      Frm (Own t rd hl ra seats) H H' → H c = none → H' c = some (.lst ((anew g seats stops ps b e).map partMV)) → Q (doneMV (.ref c)) H')
    (hbad : (∀ ps, (k, ps) ∉ R) → ∀ H', Ext H H' → Q (failMV "ticket") H') : callW theP (n + 6) false "_law_word" [.ref t, deedMV "reseat" k z] H Q X :=
  call_of (d := f__law_word) rfl rfl (s_try (s_retw (w_call (by array_get_dec) (s_told_reseat T hok fun nb => w_hand rfl (hbad nb)))))
end
end Mine
end
section
set_option autoImplicit false
set_option linter.unusedVariables false
namespace Mine
open PySem
/-- the kinds of deeds -/
noncomputable def KindOk (k : String) : Prop := k = "sell" ∨ k = "back" ∨ k = "leave" ∨ k = "reseat"
noncomputable def DeedOk (v : MV) : Prop := ∃ k a b, KindOk k ∧ v = deedMV k a b
noncomputable def CellOk (v : MV) : Prop := (∃ c : Int, v = .int c) ∨ DeedOk v
section
variable {n : Nat} {hd : Bool} {H H' : MH} {Q : MV → MH → Prop} {X : String → MH → Prop} {seats stops : Int}
theorem s_deed_tup {k : String} {a b : Int} {sa : MV} (hk : Q (deedMV k a b) H) : callW theP (n + 1) false "_law_deed_by" [deedMV k a b, sa, .int stops] H Q X :=
  call_of (d := f__law_deed_by) rfl rfl (s_iteT (Ev.isi (v := deedMV k a b) (by array_get_dec) .tt) (s_ret (Ev.var rfl) hk))
/-- an item of a row that is written out -/
theorem w_pick {Δ : CallT} {ρ : Sto} {es : MEs} {i : ME} {vs : List MV} {k : Int} {Y : String → MH → Prop} (hes : Evs Δ hd es ρ H vs) (hi : ∀ H', Ev Δ hd i ρ H' (.int k)) (h0 : 0 ≤ k) (h1 : k < vs.length) (h : ∀ v ∈ vs, ∀ H', Ext H H' → Q v H') : wE Δ hd (.sub (.list es) i) ρ H Q Y := by
  obtain ⟨v, hv, e⟩ := at_pick h0 h1
  exact w_sub (w_list hes fun c hc => w_ev (hi _) ⟨v, .lst (.inl (MH.set_selfE _ _ _)) e, h v hv _ (Ext.new _ hc)⟩)
noncomputable def IsI (v : MV) : Prop := ∃ i : Int, v = .int i
theorem isI_all {vs : List Int} : ∀ v ∈ vs.map MV.int, IsI v := fun v hv => (List.mem_map.mp hv).imp fun _ z => z.2.symm
theorem kind_of {k : String} (hk : k ∈ ["back", "leave", "reseat"]) : KindOk k := by
  rcases List.mem_cons.mp hk with z | hk
  · exact .inr (.inl z)
  · rcases List.mem_cons.mp hk with z | hk
    · exact .inr (.inr (.inl z))
    · exact .inr (.inr (.inr (List.mem_singleton.mp hk)))
theorem s_deed_int {c : Int} {sa : Addr} {sold : List Int} (hs : 2 ≤ stops ∧ stops ≤ 60) (hsa : H sa = some (.lst (sold.map .int))) (hl : sold.length ≤ 5000) (h : ∀ k a b H', KindOk k → Ext H H' → Q (deedMV k a b) H') :
    callW theP (n + 3) false "_law_deed_by" [.int c, .ref sa, .int stops] H Q X := by
  refine call_of (d := f__law_deed_by) rfl rfl ?_
  refine s_skip (Ev.isi (by array_get_dec) .ti) ?_
  have f9 := fm_pos c (m := 9) (by decide)
  refine s_let (w_pick (vs := [0, 0, 0, 0, 1, 2, 3, 0, 4].map .int) (by array_get_dec) (fun H' => Ev.mod (by array_get_dec) Ev.int (by decide)) f9.1 f9.2 fun v hv H1 E1 => ?_)
  obtain ⟨way, rfl⟩ := isI_all v hv
  have hsa1 := E1 _ _ hsa
  have sl : (sold.map MV.int).length ≤ 5000 := by rw [List.length_map]; exact hl
  refine s_let (w_bin (w_ev (by array_get_dec) (w_list (vs := [0].map .int) (by array_get_dec) fun c1 hc1 => BinR.app (Ext.new _ hc1 _ _ hsa1) (MH.set_selfE _ _ _) ?_ fun c2 hc2 => ?_)))
  · rw [List.length_map (as := [(0 : Int)])]; unfold bigList; show _ + 1 ≤ _; (first | lia | omega)
  generalize hH2 : MH.set _ c2 _ = H2
  have E2 : Ext H H2 := hH2 ▸ (E1.trans (Ext.new _ hc1)).trans (Ext.new _ hc2)
  have h2 : H2 c2 = some (.lst ((sold ++ [0]).map .int)) := hH2 ▸ (MH.set_selfE _ _ _).trans (by rw [List.map_append])
  clear hH2 hc1 hc2 E1 hsa1
  have hsa2 := E2 _ _ hsa
  have m1 : maxI 1 ((sold.map MV.int).length : Int) ≤ ((sold ++ [0]).map MV.int).length ∧ 0 < maxI 1 ((sold.map MV.int).length : Int) := by
    rw [List.length_map, List.length_map, List.length_append, List.length_singleton]; unfold maxI; split <;> (first | lia | omega)
  refine s_let (w_sub (w_ev (by array_get_dec) (w_call (Evs.cons (by array_get_dec) (Evs.cons Ev.int (Evs.cons (Ev.max Ev.int (Ev.lenL (by array_get_dec) hsa2)) Evs.nil))) (s_mixed (by decide) m1.2 fun i H3 i0 i1 E3 => ?_))))
  obtain ⟨v, hv, e⟩ := at_pick i0 (Int.lt_of_lt_of_le i1 m1.1)
  obtain ⟨tk, rfl⟩ := isI_all v hv
  refine ⟨.int tk, .lst (.inl (E3 _ _ h2)) e, ?_⟩
  have E := E2.trans E3
  have hsa3 := E _ _ hsa
  refine s_ite (by array_get_dec) (fun _ => s_ret (by array_get_dec) (h "back" _ _ _ (.inr (.inl rfl)) E)) (fun _ => s_done ?_)
  refine s_ite (by array_get_dec) (fun _ => ?_) (fun _ => s_done ?_)
  · refine s_retw (w_tup (w_cons (w_ev Ev.str (w_cons (w_ev (v := .int tk) (by array_get_dec) (w_cons ?_))))))
    refine w_bin (w_call (by array_get_dec) (s_mixed (by decide) (by (first | lia | omega)) fun i H4 i0 i1 E4 => ?_))
    exact w_ev Ev.int (.sub (w_evs Evs.nil (h "leave" tk (i - 1) _ (.inr (.inr (.inl rfl))) (E.trans E4))))
  refine s_ite (by array_get_dec) (fun _ => s_ret (by array_get_dec) (h "reseat" _ _ _ (.inr (.inr (.inr rfl))) E)) (fun _ => s_done ?_)
  refine s_ite (Ev.and (EvA.any (by array_get_dec) (EvA.one (Ev.cmp (ev_dm 9 2 (by array_get_dec) (by decide) (by decide) (by decide)) Ev.int .eqi)))) (fun _ => ?_) (fun _ => s_done ?_)
  · have f3 := fm_pos (c.fdiv 18) (m := 3) (by decide)
    have f4 := fm_pos (c.fdiv 54) (m := 4) (by decide)
    refine s_let (w_pick (vs := ["back", "leave", "reseat"].map fun k => .str (Str.ofString k)) (by array_get_dec) (fun H' => ev_dm 18 3 (by array_get_dec) (by decide) (by decide) (by decide)) f3.1 f3.2 fun v hv H4 E4 => ?_)
    obtain ⟨k, hk, rfl⟩ := List.mem_map.mp hv
    have kk : KindOk k := kind_of hk
    refine s_retw (w_tup (w_cons (w_ev (v := .str (Str.ofString k)) (by array_get_dec) (w_cons (w_pick (vs := [-1, ((sold.map MV.int).length : Int) + 400, tk + 1, 10 ^ 12].map .int) (Evs.cons (by array_get_dec) (Evs.cons (Ev.add (Ev.lenL (by array_get_dec) (E4 _ _ hsa3)) Ev.int) (Evs.cons (by array_get_dec) (Evs.cons ?_ Evs.nil)))) (fun H' => ev_dm 54 4 (by array_get_dec) (by decide) (by decide) (by decide)) f4.1 f4.2 fun v hv H5 E5 => ?_)))))
    · exact fun Q X q => .pow (by decide) (by decide) (by decide) q
    · obtain ⟨i, rfl⟩ := isI_all v hv
      exact w_evs (vs := [.int 1]) (by array_get_dec) (h k i 1 _ kk ((E.trans E4).trans E5))
  refine s_let (w_call (by array_get_dec) (s_stretch_by hs fun b e H4 _ _ _ E4 => ?_))
  have f4 := fm_pos (c.fdiv 18) (m := 4) (by decide)
  have f2 := fm_pos (c.fdiv 72) (m := 2) (by decide)
  refine s_ite (by array_get_dec) (fun _ => ?_) (fun _ => s_done (s_ret (by array_get_dec) (h "sell" _ _ _ (.inl rfl) (E.trans E4))))
  refine s_let (w_pick (vs := [b, b - 1, stops, 10 ^ 12].map .int) (Evs.cons (by array_get_dec) (Evs.cons (by array_get_dec) (Evs.cons (by array_get_dec) (Evs.cons ?_ Evs.nil)))) (fun H' => ev_dm 18 4 (by array_get_dec) (by decide) (by decide) (by decide)) f4.1 f4.2 fun v hv H5 E5 => ?_)
  · exact fun Q X q => .pow (by decide) (by decide) (by decide) q
  obtain ⟨i, rfl⟩ := isI_all v hv
  refine s_retw (w_tup (w_cons (w_ev Ev.str (w_cons (w_pick (vs := [b, -1].map .int) (by array_get_dec) (fun H' => ev_dm 72 2 (by array_get_dec) (by decide) (by decide) (by decide)) f2.1 f2.2 fun v hv H6 E6 => ?_)))))
  obtain ⟨j, rfl⟩ := isI_all v hv
  exact w_evs (vs := [.int i]) (by array_get_dec) (h "sell" j i _ (.inl rfl) (((E.trans E4).trans E5).trans E6))
end
end Mine
end
section
set_option autoImplicit false
set_option linter.unusedVariables false
namespace Mine
open PySem
section
variable {n : Nat} {hd : Bool} {H H' : MH} {Q : MV → MH → Prop} {X : String → MH → Prop} {seats stops : Int}
/-- a row of deeds that grows -/
structure Deeds (H H' : MH) (c : Addr) (m : Int) : Prop where
  ext : Ext H H'
  at_ : ∃ ls, H' c = some (.lst ls) ∧ (ls.length : Int) ≤ m ∧ ∀ v ∈ ls, DeedOk v
theorem Deeds.app {Δ : CallT} {ρ : Sto} {e x : ME} {c : Addr} {m : Int} {k : String} {a b : Int} {Y : String → MH → Prop} (hc : H c = none) (D : Deeds H H' c m) (hm : m ≤ 10000) (he : Ev Δ hd e ρ H' (.ref c)) (hx : Ev Δ hd x ρ H' (deedMV k a b)) (hk : KindOk k) (q : ∀ H'', Deeds H H'' c (m + 1) → Q .none H'') : wE Δ hd (.bm e "append" (.cons x .nil)) ρ H' Q Y := by
  obtain ⟨ls, h1, h2, h3⟩ := D.at_
  refine w_append he h1 hx (by unfold bigList; (first | lia | omega)) (q _ ⟨D.ext.newer _ hc, _, MH.set_selfE _ _ _, by rw [List.length_append, List.length_singleton]; (first | lia | omega), fun v hv => ?_⟩)
  rcases List.mem_append.mp hv with hv | hv
  · exact h3 v hv
  · exact List.mem_singleton.mp hv ▸ ⟨k, a, b, hk, rfl⟩
theorem Deeds.le {c : Addr} {m m' : Int} (D : Deeds H H' c m) (h : m ≤ m') : Deeds H H' c m' := ⟨D.ext, D.at_.imp fun _ z => ⟨z.1, Int.le_trans z.2.1 h, z.2.2⟩⟩
theorem s_laid {far : Int} (p1 : 1 ≤ seats ∧ seats ≤ 60) (p2 : 2 ≤ stops ∧ stops ≤ 60) (hp : seats * stops < 240) (h : ∀ c H' ls, H c = none → Ext H H' → H' c = some (.lst ls) → ls.length ≤ 303 → (∀ v ∈ ls, DeedOk v) → Q (.ref c) H') : callW theP (n + 1) false "_law_laid" [.int seats, .int stops, .int far] H Q X := by
  have mono : ∀ i, i ≤ stops - 1 → i * seats ≤ 240 := fun i h1 => by
    have a := Int.mul_le_mul_of_nonneg_right h1 (show (0 : Int) ≤ seats by (first | lia | omega))
    rw [Int.sub_mul, Int.one_mul, Int.mul_comm stops] at a
    (first | lia | omega)
  refine call_of (d := f__law_laid) rfl rfl (s_let (w_list Evs.nil fun c hc => ?_))
  refine s_range (fun i ρ H' => i ≤ stops - 1 ∧ 0 ≤ i ∧ ρ "_law_seats_here" = some (.int seats) ∧ ρ "_law_stops_here" = some (.int stops) ∧ ρ "_law_far" = some (.int far) ∧ ρ "_law_deeds" = some (.ref c) ∧ Deeds H H' c (i * seats)) (Ev.range1 (by array_get_dec) (smallOf (by (first | lia | omega)) (by (first | lia | omega)))) ⟨by (first | lia | omega), by decide, rfl, rfl, rfl, rfl, Ext.new _ hc, [], MH.set_selfE _ _ _, by rw [Int.zero_mul]; decide, fun _ h => by cases h⟩ ?_ ?_
  · rintro i ρ H1 k i0 i1 ⟨_, _, g1, g2, g3, g4, D⟩ hk
    refine s_range (fun j ρ H' => j ≤ seats ∧ ρ "_law_seats_here" = some (.int seats) ∧ ρ "_law_stops_here" = some (.int stops) ∧ ρ "_law_far" = some (.int far) ∧ ρ "_law_deeds" = some (.ref c) ∧ ρ "_law_leg" = some (.int i) ∧ Deeds H H' c (i * seats + j)) (Ev.range1 (by array_get_dec) (smallOf (by (first | lia | omega)) (by (first | lia | omega)))) ⟨by (first | lia | omega), by sizeOf_list_dec, by sizeOf_list_dec, by sizeOf_list_dec, by sizeOf_list_dec, by sizeOf_list_dec, D.le (Int.le_of_eq (Int.add_zero _).symm)⟩ ?_ ?_
    · rintro j σ H2 kk j0 j1 ⟨_, f1, f2, f3, f4, f5, D⟩ hkk
      exact s_expr (Deeds.app (k := "sell") (a := i) (b := i + 1) hc D (by have := mono i (by (first | lia | omega)); (first | lia | omega)) (by array_get_dec) (by array_get_dec) (.inl rfl) fun H3 D => s_done (hkk _ _ ⟨j1, by sizeOf_list_dec, by sizeOf_list_dec, by sizeOf_list_dec, by sizeOf_list_dec, by sizeOf_list_dec, D.le (Int.le_of_eq (Int.add_assoc _ _ _))⟩))
    · rintro j σ H2 hj ⟨hj2, f1, f2, f3, f4, f5, D⟩
      exact s_done (hk _ _ ⟨by (first | lia | omega), by (first | lia | omega), f1, f2, f3, f4, D.le (by rw [Int.add_mul, Int.one_mul]; (first | lia | omega))⟩)
  · rintro i ρ H1 hi ⟨hi2, _, g1, g2, g3, g4, D⟩
    refine s_range (fun j ρ H' => 0 ≤ j ∧ j ≤ 60 ∧ ρ "_law_seats_here" = some (.int seats) ∧ ρ "_law_stops_here" = some (.int stops) ∧ ρ "_law_far" = some (.int far) ∧ ρ "_law_deeds" = some (.ref c) ∧ Deeds H H' c (240 + j)) (Ev.range1 (by array_get_dec) (smallOf (by (first | lia | omega)) (by (first | lia | omega)))) ⟨by decide, by decide, g1, g2, g3, g4, D.le (by have := mono i hi2; (first | lia | omega))⟩ ?_ ?_
    · rintro j σ H2 kk j0 j1 ⟨_, _, f1, f2, f3, f4, D⟩ hkk
      refine s_expr (Deeds.app (k := "back") (b := 0) hc D (by (first | lia | omega)) (by array_get_dec) (Ev.tup (Evs.cons Ev.str (Evs.cons (Ev.add (Ev.mul (by array_get_dec) (by array_get_dec) (.inl (by (first | lia | omega)))) (Ev.mod (Ev.add (Ev.mul (by array_get_dec) (Ev.add Ev.int (Ev.mod (by array_get_dec) Ev.int (by decide))) (.inl (by (first | lia | omega)))) (Ev.fdiv (by array_get_dec) Ev.int (by decide) (by decide))) (by array_get_dec) (by (first | lia | omega)))) (Evs.cons Ev.int Evs.nil)))) (.inr (.inl rfl)) fun H3 D => s_done (hkk _ _ ⟨by (first | lia | omega), by (first | lia | omega), by sizeOf_list_dec, by sizeOf_list_dec, by sizeOf_list_dec, by sizeOf_list_dec, D.le (Int.le_of_eq (Int.add_assoc _ _ _))⟩))
    · rintro j σ H2 hj ⟨_, hj2, f1, f2, f3, f4, D⟩
      obtain ⟨ls, h1, h2, h3⟩ := D.at_
      refine s_assign (Ev.mul (by array_get_dec) (by array_get_dec) (.inl (by (first | lia | omega)))) (s_retw (w_bin (w_ev (by array_get_dec) (w_list (vs := [deedMV "sell" ((far.fdiv 9).fmod 2) (stops - 1), deedMV "leave" (seats * (stops - 1)) ((far.fdiv 18).fmod stops), deedMV "reseat" (seats * (stops - 1)) 0]) ?_ fun c1 hc1 => BinR.app (Ext.new _ hc1 _ _ h1) (MH.set_selfE _ _ _) (by show _ + 3 ≤ _; unfold bigList; (first | lia | omega)) fun c2 hc2 => ?_))))
      · exact Evs.cons (Ev.tup (Evs.cons Ev.str (Evs.cons (ev_dm 9 2 (by array_get_dec) (by decide) (by decide) (by decide)) (Evs.cons (by array_get_dec) Evs.nil)))) (Evs.cons (Ev.tup (Evs.cons Ev.str (Evs.cons (by array_get_dec) (Evs.cons (Ev.mod (Ev.fdiv (by array_get_dec) Ev.int (by decide) (by decide)) (by array_get_dec) (by (first | lia | omega))) Evs.nil)))) (Evs.cons (by array_get_dec) Evs.nil))
      · refine h c2 _ _ (none_of_ext (D.ext.trans (Ext.new _ hc1)) hc2) ((D.ext.trans (Ext.new _ hc1)).trans (Ext.new _ hc2)) (MH.set_selfE _ _ _) (by rw [List.length_append]; show _ + 3 ≤ _; (first | lia | omega)) fun v hv => ?_
        rcases List.mem_append.mp hv with hv | hv
        · exact h3 v hv
        · rcases List.mem_cons.mp hv with rfl | hv
          · exact ⟨_, _, _, .inl rfl, rfl⟩
          · rcases List.mem_cons.mp hv with rfl | hv
            · exact ⟨_, _, _, .inr (.inr (.inl rfl)), rfl⟩
            · exact List.mem_singleton.mp hv ▸ ⟨_, _, _, .inr (.inr (.inr rfl)), rfl⟩
/-- a part of the script -/
theorem cut_cells {is : List Int} {lo hi : Option Int} (hl : is.length ≤ 63) : (∀ v ∈ cut (is.map MV.int) lo hi, CellOk v) ∧ (cut (is.map MV.int) lo hi).length ≤ 63 :=
  ⟨fun v hv => .inl (isI_all v (List.mem_of_mem_drop (List.mem_of_mem_take hv))), Nat.le_trans cut_len (by rw [List.length_map]; exact hl)⟩
/-- a row of cells, and a part of the script behind it -/
theorem w_cells_app {Δ : CallT} {ρ : Sto} {e lo hi : ME} {Y : String → MH → Prop} {script : Addr} {is : List Int} {a b : Int} (hH : H script = some (.ro (is.map .int))) (hl : is.length ≤ 63) (hs : ρ "_law_script" = some (.ref script)) (hlo : lo = .int a) (hhi : hi = .int b)
    (h : ∀ c H' ls, H c = none → Ext H H' → H' c = some (.lst ls) → ls.length ≤ 366 → (∀ v ∈ ls, CellOk v) → Q (.ref c) H') (he : ∀ Q', (∀ c H' ls, Ext H H' → H' c = some (.lst ls) → ls.length ≤ 303 → (∀ v ∈ ls, CellOk v) → Q' (.ref c) H') → wE Δ false e ρ H Q' Y) : wE Δ false (.bin .add e (.slice (.var "_law_script") lo hi)) ρ H Q Y := by
  subst hlo hhi
  refine w_bin (he _ fun c H' ls E hc hn hv => ?_)
  obtain ⟨k1, k2⟩ := cut_cells (lo := some a) (hi := some b) hl
  refine w_slice (Ev.var hs) (.inr (E _ _ hH)) Ev.int Ev.int .int .int fun c1 hc1 => BinR.app (Ext.new _ hc1 _ _ hc) (MH.set_selfE _ _ _) (by unfold bigList; (first | lia | omega)) fun c2 hc2 => h _ _ _ (none_of_ext (E.trans (Ext.new _ hc1)) hc2) ((E.trans (Ext.new _ hc1)).trans (Ext.new _ hc2)) (MH.set_selfE _ _ _) (by rw [List.length_append]; (first | lia | omega)) fun v hv' => ?_
  rcases List.mem_append.mp hv' with z | z
  · exact hv v z
  · exact k1 v z
theorem w_int_comp {Δ : CallT} {ρ : Sto} {e it : ME} {x : String} {f : Int → Int} {m : Int} {Y : String → MH → Prop} (hit : Ev Δ false it ρ H (.rng 0 m 1)) (hm : m ≤ 150) (he : ∀ i, 0 ≤ i → i < m → Ev Δ false e (ρ.set x (.int i)) H (.int (f i))) (h : ∀ c H' ls, Ext H H' → H' c = some (.lst ls) → ls.length ≤ 303 → (∀ v ∈ ls, CellOk v) → Q (.ref c) H') : wE Δ false (.comp e x it (.bool true)) ρ H Q Y :=
  w_compR (fun _ => true) (fun i => .int (f i)) hit (by (first | lia | omega)) (fun _ _ _ => Ev.bool) (fun i h0 h1 _ => he i h0 h1) fun c hc => h c _ _ (Ext.new _ hc) (MH.set_selfE _ _ _) (by rw [filter_true, List.length_map, rangeL_len1]; (first | lia | omega)) fun v hv => .inl ((List.mem_map.mp hv).imp' f fun _ z => z.2.symm)
theorem s_cells {script : Addr} {is : List Int} (hH : H script = some (.ro (is.map .int))) (hlen : is.length ≤ 63) (h : ∀ c H' ls, H c = none → Ext H H' → H' c = some (.lst ls) → ls.length ≤ 366 → (∀ v ∈ ls, CellOk v) → Q (.ref c) H') : callW theP (n + 2) false "_law_cells" [.ref script] H Q X := by
  refine call_of (d := f__law_cells) rfl rfl ?_
  refine s_let (w_call (by array_get_dec) (s_cell_at hH (by decide) fun far => ?_))
  refine s_let (w_callw (w_cons (w_call (by array_get_dec) (s_cell_at hH (by decide) fun c0 => w_evs Evs.nil (s_seats fun seats q1 q2 => ?_)))))
  refine s_let (w_callw (w_cons (w_call (by array_get_dec) (s_cell_at hH (by decide) fun c1 => w_evs Evs.nil (s_stops fun stops q3 q4 => ?_)))))
  have mk : mulOk seats stops := .inl (by (first | lia | omega))
  have f9 := fm_pos (far.fdiv 8) (m := 90) (by decide)
  have rg : ∀ {ρ : Sto} {H' : MH}, ρ "_law_far" = some (.int far) → Ev (callW theP (n + 1)) false (.bi "range" (.cons (.bin .add (.int 60) (.bin .mod (.bin .fdiv (.var "_law_far") (.int 8)) (.int 90))) .nil)) ρ H' (.rng 0 (60 + (far.fdiv 8).fmod 90) 1) := fun hf => Ev.range1 (Ev.add Ev.int (ev_dm 8 90 (Ev.var hf) (by decide) (by decide) (by decide))) (smallOf (by (first | lia | omega)) (by (first | lia | omega)))
  refine s_ite (Ev.and (EvA.any (Ev.cmp (Ev.mod (by array_get_dec) Ev.int (by decide)) Ev.int .eqi) (EvA.one (Ev.cmp (Ev.mul (by array_get_dec) (by array_get_dec) mk) Ev.int .lt)))) (fun z => s_retw (w_cells_app hH hlen rfl rfl rfl h fun Q' q => w_call (Evs.cons (by array_get_dec) (Evs.cons (by array_get_dec) (Evs.cons (Ev.fdiv (by array_get_dec) Ev.int (by decide) (by decide)) Evs.nil))) (s_laid ⟨q1, q2⟩ ⟨q3, q4⟩ (of_decide_eq_true (Bool.and_eq_true_iff.mp z).2) fun c H' ls _ E h1 h2 h3 => q c H' ls E h1 h2 fun v hv => .inr (h3 v hv)))) (fun _ => s_done ?_)
  refine s_ite (Ev.and (EvA.any (Ev.cmp (Ev.mod (by array_get_dec) Ev.int (by decide)) Ev.int .eqi) (EvA.one (Ev.cmp (Ev.mul (by array_get_dec) (by array_get_dec) mk) Ev.int .lt)))) (fun _ => s_retw (w_cells_app hH hlen rfl rfl rfl h fun Q' q => w_int_comp (rg rfl) (by (first | lia | omega)) (fun i h0 h1 => Ev.add (Ev.fdiv (by array_get_dec) Ev.int (by decide) (by decide)) (Ev.mul Ev.int (by array_get_dec) (.inl (by decide)))) q)) (fun _ => s_done ?_)
  refine s_ite (Ev.cmp (Ev.mod (by array_get_dec) Ev.int (by decide)) Ev.int .eqi) (fun _ => s_retw (w_cells_app hH hlen rfl rfl rfl h fun Q' q => w_int_comp (rg rfl) (by (first | lia | omega)) (fun i h0 h1 => Ev.mul Ev.int (Ev.add (Ev.fdiv (by array_get_dec) Ev.int (by decide) (by decide)) (Ev.mul Ev.int (by array_get_dec) (.inl (by decide)))) (.inl (by decide))) q)) (fun _ => s_done ?_)
  obtain ⟨k1, k2⟩ := cut_cells (lo := some 3) (hi := some 99) hlen
  exact s_retw (w_slice (by array_get_dec) (.inr hH) Ev.int Ev.int .int .int fun c hc => h _ _ _ hc (Ext.new _ hc) (MH.set_selfE _ _ _) (by (first | lia | omega)) k1)
end
end Mine
end
section
set_option autoImplicit false
set_option linter.unusedVariables false
namespace Mine
open PySem
section
variable {n : Nat} {hd : Bool} {H H' : MH} {Z : Addr → Prop} {Q : MV → MH → Prop} {X : String → MH → Prop} {t rd hl ro : Addr} {ra rb : Int → Addr} {seats stops coming : Int} {R : Rides} {g : Grid}
variable {Δ : CallT} {ρ : Sto} {Y : String → MH → Prop}
theorem w_and2 {e f : ME} (h : wE Δ hd e ρ H (asTruth fun b H₁ => if b = true then wE Δ hd f ρ H₁ Q Y else Q (.bool false) H₁) Y) : wE Δ hd (.and (.cons e (.cons f .nil))) ρ H Q Y := h
theorem w_or2 {e f : ME} (h : wE Δ hd e ρ H (asTruth fun b H₁ => if b = true then Q (.bool true) H₁ else wE Δ hd f ρ H₁ Q Y) Y) : wE Δ hd (.or (.cons e (.cons f .nil))) ρ H Q Y := h
theorem w_cmpw {l r : ME} {op : COp} (h : wE Δ hd l ρ H (fun a H₁ => wE Δ hd r ρ H₁ (fun b H₂ => ∃ c, CmpR H₂ op a b c ∧ Q (.bool c) H₂) Y) Y) : wE Δ hd (.cmp l (.cons op r .nil)) ρ H Q Y := h
theorem Ev.call {f : String} {es : MEs} {vs : List MV} {v : MV} (he : Evs Δ hd es ρ H vs) (h : ∀ (Q : MV → MH → Prop) (X : String → MH → Prop), Q v H → Δ hd f vs H Q X) : Ev Δ hd (.call f es) ρ H v := fun Q X q => he _ _ (h _ _ q)
theorem comp_ix {α : Type} {src : MV} {vs₀ : List MV} {cond : MV → MH → (Bool → MH → Prop) → Prop} {elt : MV → MH → (MV → MH → Prop) → Prop} (F f : α → MV) (he : Elems H src vs₀) (hc : ∀ v k, k true H → cond v H k)
    : ∀ (l : List α) (acc : List MV), (∀ i ∈ l, ∀ k, k (f i) H → elt (F i) H k) → acc.length + l.length ≤ bigList → New H Q (acc ++ l.map f) → compW src vs₀ cond elt Q (l.map F) acc H := by
  intro l
  induction l with
  | nil => intro acc _ _ q c hc; have := q c hc; rwa [List.map_nil, List.append_nil] at this
  | cons i l ih =>
    intro acc hf hl q
    rw [List.length_cons] at hl
    exact ⟨Nat.lt_of_lt_of_le (Nat.lt_add_of_pos_right (Nat.succ_pos _)) hl, hc _ _ (hf i (.head _) _ ⟨he, ih _ (fun w hw => hf w (.tail _ hw)) (by rw [List.length_append, List.length_singleton]; (first | lia | omega)) (by rw [List.append_assoc]; exact q)⟩)⟩
theorem part_dr (p : Int × Int × Int) : DR H 8 (partMV p) (.tuple [.int p.1, .int p.2.1, .int p.2.2]) := ⟨_, rfl, .cons rfl (.cons rfl (.cons rfl .nil))⟩
theorem part_ne (p : Int × Int × Int) : CmpR H .ne (partMV p) (partMV p) false := by
  have := CmpR.ned (part_dr (H := H) p) (part_dr p)
  rwa [PySem.SeqAt.eqv_refl _ rfl] at this
theorem part_at {ps : List Part} {i : Int} (h0 : 0 ≤ i) (h1 : i < ps.length) : ∃ p, atIdx (ps.map partMV) i = some (partMV p) := by
  have hh : i.toNat < ps.length := (Int.toNat_lt h0).mpr h1
  exact ⟨ps[i.toNat], atIdx_nn h0 (by rw [List.getElem?_map, List.getElem?_eq_getElem hh]; rfl)⟩
theorem keys_set {k : Int} {qs : List Part} : (rSet R k qs).map Prod.fst = R.map Prod.fst := by
  unfold rSet
  rw [List.map_map]
  refine List.map_congr_left fun x _ => ?_
  show (if x.1 = k then (k, qs) else x).1 = x.1
  by_cases q : x.1 = k
  · rw [if_pos q]; exact q.symm
  · rw [if_neg q]
theorem keys_del {k : Int} : ∀ {R : Rides}, R.Pairwise (fun x y => x.1 < y.1) → (R.map Prod.fst).erase k = (rDel R k).map Prod.fst
  | [], _ => rfl
  | x :: R, h => by
    obtain ⟨h1, h2⟩ := List.pairwise_cons.mp h
    unfold rDel
    rw [List.map_cons]
    rw [List.filter_cons]
    by_cases q : x.1 = k
    · have e : R.filter (fun x => decide (x.1 ≠ k)) = R := List.filter_eq_self.mpr fun y hy => decide_eq_true fun (z : y.1 = k) => Int.ne_of_lt (h1 y hy) (q.trans z.symm)
      rw [if_neg (by rw [decide_eq_false (fun z => z q)]; exact Bool.noConfusion), q, List.erase_cons_head, e]
    · rw [if_pos (decide_eq_true q), List.map_cons, List.erase_cons_tail (by rw [beq_false_of_ne q]; exact Bool.noConfusion), keys_del h2]; rfl
theorem Frm.mono {A B : Addr → Prop} (f : Frm A H H') (h : ∀ a, A a → B a) : Frm B H H' := fun a o n => f a o fun z => n (h a z)
noncomputable def Nms (ρ : Sto) : List (String × MV) → Prop
  | [] => True
  | p :: l => ρ p.1 = some p.2 ∧ Nms ρ l
theorem Nms.set {ρ : Sto} {x : String} {v : MV} : ∀ {l : List (String × MV)}, Nms ρ l → (l.all fun p => !decide (p.1 = x)) = true → Nms (ρ.set x v) l
  | [], _, _ => trivial
  | p :: l, h, hx => by
    obtain ⟨h1, h2⟩ := Bool.and_eq_true_iff.mp hx
    exact ⟨Sto.gn (Bool.not_eq_true' _ ▸ h1) h.1, h.2.set h2⟩
end
section
variable {n : Nat} {hd : Bool} {H H' : MH} {Z : Addr → Prop} {Q : MV → MH → Prop} {X : String → MH → Prop} {t rd hl ro : Addr} {ra rb : Int → Addr} {seats stops coming : Int} {R : Rides} {so : Addr} {g : Grid}
variable {Δ : CallT} {ρ : Sto} {N : Sto → MH → Prop} {RR : MV → MH → Prop} {Y : String → Sto → MH → Prop} {Y' : String → MH → Prop}
theorem w_mk {es : MEs} {vs : List MV} (he : Evs Δ hd es ρ H vs) (h : ∀ a, H a = none → Δ hd "__init__" (.ref a :: vs) (H.set a (.inst [])) (fun r H₂ => r = .none ∧ Q (.ref a) H₂) Y') : wE Δ hd (.mk es) ρ H Q Y' := he _ _ h
theorem w_remove {e x : ME} {a : Addr} {is : List Int} {i : Int} (he : Ev Δ hd e ρ H (.ref a)) (ha : H a = some (.lst (is.map .int))) (hx : Ev Δ hd x ρ H (.int i)) (hi : i ∈ is) (h : Q .none (H.set a (.lst ((is.erase i).map .int)))) : wE Δ hd (.bm e "remove" (.cons x .nil)) ρ H Q Y' :=
  he _ _ ⟨1, .lst ha rfl, hx _ _ ⟨.lst ha rfl, .remove ha hi h⟩⟩
theorem word_nz : ∀ c ∈ excNames, wordOf c ≠ "" := by decide
theorem s_deed {v : MV} {sold : List Int} (hv : CellOk v) (hs : 2 ≤ stops ∧ stops ≤ 60) (hsa : H so = some (.lst (sold.map .int))) (hl : sold.length ≤ 5000) (h : ∀ k a b H', KindOk k → Ext H H' → Q (deedMV k a b) H') : callW theP (n + 3) false "_law_deed_by" [v, .ref so, .int stops] H Q X := by
  rcases hv with ⟨c, rfl⟩ | ⟨k, a, b, hk, rfl⟩
  · exact s_deed_int hs hsa hl h
  · exact s_deed_tup (h k a b H hk (.refl _))
end
end Mine
end
section
set_option autoImplicit false
set_option linter.unusedVariables false
namespace Mine
open PySem
section
variable {n : Nat} {hd : Bool} {H H' : MH} {Z : Addr → Prop} {Q : MV → MH → Prop} {X : String → MH → Prop} {t rd hl : Addr} {ra : Int → Addr} {seats stops coming : Int} {R : Rides} {g : Grid}
theorem RidesAt.keys {own : Addr → Prop} {rs : List (Int × MV)} (x : RidesAt H own rs R) : (rs.map fun e => MV.int e.1) = (R.map Prod.fst).map MV.int := by
  induction x with
  | nil => rfl
  | cons _ _ _ ih => exact congrArg _ ih
theorem Inv.keys (I : Inv seats stops coming R g) : (R.map Prod.fst).Pairwise (· ≤ ·) := List.pairwise_map.mpr (I.asc.imp fun h => Int.le_of_lt h)
theorem s_tickets (T : Trn H Z t rd hl ra seats stops coming R g) (h : ∀ c H', H c = none → Ext H H' → H' c = some (.lst ((R.map Prod.fst).map .int)) → Q (.ref c) H') : callW theP (n + 1) false "tickets" [.ref t] H Q X := by
  refine call_of (d := f_Train_tickets) rfl rfl ?_
  obtain ⟨rides, T1, T2⟩ := T.tr
  have a1 := T1.at_
  refine s_retw (w_bi1 (w_bi1 (w_ev (v := .ref rd) (Ev.attr (by array_get_dec) a1 rfl) (.listD rfl T1.rd_ (by rw [T2.len]; exact Nat.le_trans T.len (by decide)) fun c hc => .sortedL (is := R.map Prod.fst) (.inl ?_) T.inv.keys fun c2 hc2 => h c2 _ (none_of_ext (Ext.new _ hc) hc2) ((Ext.new _ hc).trans (Ext.new _ hc2)) (MH.set_selfE _ _ _)))))
  rw [MH.set_selfE, T2.keys]
theorem s_size (T : Trn H Z t rd hl ra seats stops coming R g) (h : Q (.tup [.int seats, .int stops]) H) : callW theP (n + 1) hd "size" [.ref t] H Q X := by
  have a1 := T.at_
  exact call_of (d := f_Train_size) rfl rfl (s_ret (by array_get_dec) h)
theorem nz {x : Int} : CmpR H .ne (.int x) (.int x) false := by have := CmpR.nei (H := H) (x := x) (y := x); rwa [decide_eq_true rfl] at this
theorem int_at {is : List Int} {i : Int} (h0 : 0 ≤ i) (h1 : i < is.length) : ∃ x, atIdx (is.map MV.int) i = some (.int x) := by
  have hh : i.toNat < is.length := (Int.toNat_lt h0).mpr h1
  exact ⟨is[i.toNat], atIdx_nn h0 (by rw [List.getElem?_map, List.getElem?_eq_getElem hh]; rfl)⟩
theorem s_numbers {f d : Addr} {is : List Int} (hf : H f = some (.lst (is.map .int))) (hd' : H d = some (.lst (is.map .int))) (hl : is.length ≤ 900000) (h : Q (.bool true) H) : callW theP (n + 2) false "_law_numbers" [.ref f, .ref d] H Q X := by
  refine call_of (d := f__law_numbers) rfl rfl ?_
  refine s_skip (Ev.or (EvO.f (Ev.not (Ev.isi (by array_get_dec) (.ll (.inl hf)))) (EvO.one (Ev.cmp (Ev.lenL (by array_get_dec) hf) (Ev.lenL (by array_get_dec) hd') nz)))) ?_
  refine s_range (fun i ρ H' => ρ "_law_found" = some (.ref f) ∧ ρ "_law_due_here" = some (.ref d) ∧ H' = H) (Ev.range1 (Ev.lenL (by array_get_dec) hd') (by rw [List.length_map]; exact smallOf (by (first | lia | omega)) (by (first | lia | omega)))) ⟨rfl, rfl, rfl⟩ ?_ fun i ρ H' _ z => s_ret Ev.bool (z.2.2 ▸ h)
  rintro i ρ H1 k i0 i1 ⟨g1, g2, rfl⟩ hk
  rw [List.length_map] at i1
  obtain ⟨p, hp⟩ := int_at i0 i1
  exact s_skip (Ev.or (EvO.f (Ev.not (Ev.call (v := .bool true) (Evs.cons (Ev.item (by array_get_dec) (by array_get_dec) hf hp) Evs.nil) fun Q X q => s_whole q)) (EvO.one (Ev.cmp (Ev.item (by array_get_dec) (by array_get_dec) hf hp) (Ev.item (by array_get_dec) (by array_get_dec) hd' hp) nz)))) (s_done (hk _ _ ⟨by sizeOf_list_dec, by sizeOf_list_dec, rfl⟩))
end
/-! the grid of all rides -/
section
variable {n : Nat} {hd : Bool} {H H' : MH} {Z : Addr → Prop} {Q : MV → MH → Prop} {X : String → MH → Prop} {t rd hl ro : Addr} {ra rb : Int → Addr} {seats stops coming : Int} {R : Rides} {g g' : Grid}
end
end Mine
end
section
set_option autoImplicit false
set_option linter.unusedVariables false
namespace Mine
open PySem
section
variable {n : Nat} {hd : Bool} {H H' : MH} {Z : Addr → Prop} {Q : MV → MH → Prop} {X : String → MH → Prop} {t rd hl ro : Addr} {ra rb : Int → Addr} {seats stops coming : Int} {R : Rides} {g : Grid}
/-! equal data -/
theorem All2.maps {α β γ : Type} {R : β → γ → Prop} {f : α → β} {g : α → γ} : ∀ {l : List α}, (∀ x ∈ l, R (f x) (g x)) → All2 R (l.map f) (l.map g)
  | [], _ => .nil
  | x :: l, h => .cons (h x (.head _)) (All2.maps fun y hy => h y (.tail _ hy))
end
end Mine
end
section
set_option autoImplicit false
set_option linter.unusedVariables false
namespace Mine
open PySem
section
variable {n : Nat} {hd : Bool} {H H' : MH} {Q : MV → MH → Prop} {X : String → MH → Prop} {t rd hl so : Addr} {ra : Int → Addr} {seats stops coming : Int} {R : Rides} {g : Grid}
variable {Δ : CallT} {ρ : Sto}
theorem ev_both {w k s : String} {v : MV} {a b : Int} (h1 : ρ "_law_told_here" = some (.tup [.str (Str.ofString w), v])) (h2 : ρ "_law_deed" = some (deedMV k a b)) : Ev Δ hd (.and (.cons (.cmp (.sub (.var "_law_told_here") (.int 0)) (.cons .eq (.str "") .nil)) (.cons (.cmp (.sub (.var "_law_deed") (.int 0)) (.cons .eq (.str s) .nil)) .nil))) ρ H (.bool (decide (w = "") && decide (k = s))) :=
  Ev.and (EvA.any (dec_str ▸ Ev.cmp (Ev.itemT (Ev.var h1) Ev.int rfl) Ev.str .eqs) (EvA.one (ev_kind (Ev.var h2))))
theorem ev_bothf {w k s : String} {v : MV} {a b : Int} (h1 : ρ "_law_told_here" = some (.tup [.str (Str.ofString w), v])) (h2 : ρ "_law_deed" = some (deedMV k a b)) (h : w ≠ "" ∨ k ≠ s) : Ev Δ hd (.and (.cons (.cmp (.sub (.var "_law_told_here") (.int 0)) (.cons .eq (.str "") .nil)) (.cons (.cmp (.sub (.var "_law_deed") (.int 0)) (.cons .eq (.str s) .nil)) .nil))) ρ H (.bool false) := by
  have := ev_both (Δ := Δ) (hd := hd) (H := H) (s := s) h1 h2
  rcases h with h | h
  · rwa [decide_eq_false h, Bool.false_and] at this
  · rwa [decide_eq_false h, Bool.and_false] at this
/-- the train and the list of what is sold -/
structure Run (H : MH) (so t rd hl : Addr) (ra : Int → Addr) (seats stops coming : Int) (R : Rides) (g : Grid) : Prop where
  tn : Trn H (fun a => a = so) t rd hl ra seats stops coming R g
  so_ : H so = some (.lst ((R.map Prod.fst).map .int))
theorem Run.ext (S : Run H so t rd hl ra seats stops coming R g) (e : Ext H H') : Run H' so t rd hl ra seats stops coming R g := ⟨S.tn.ext e, e _ _ S.so_⟩
theorem Run.kept (S : Run H so t rd hl ra seats stops coming R g) (f : Frm (Own t rd hl ra seats) H H') : H' so = some (.lst ((R.map Prod.fst).map .int)) := f _ _ (S.tn.apart so rfl) S.so_
theorem Run.set {R' : Rides} {l : List Int} (T : Trn H (fun a => a = so) t rd hl ra seats stops coming R' g) (e : l = R'.map Prod.fst) : Run (H.set so (.lst (l.map .int))) so t rd hl ra seats stops coming R' g :=
  ⟨T.turn (frm_set rfl) (fun a z => by rw [show a = so from z, MH.set_selfE]; exact fun z => (by cases z)), by rw [MH.set_selfE, e]⟩
abbrev OwnS (so t rd hl : Addr) (ra : Int → Addr) (seats : Int) (a : Addr) : Prop := Own t rd hl ra seats a ∨ a = so
theorem s_run {script : Addr} {is : List Int} (hH : H script = some (.ro (is.map .int))) (hlen : is.length ≤ 63)
    (h : ∀ so t rd hl ra seats stops coming R g lr H', Run H' so t rd hl ra seats stops coming R g → (R.length ≤ 366 ∧ coming ≤ 366) → H' lr = some (.lst [.ref t, .ref so]) → ¬ OwnS so t rd hl ra seats lr → H' script = some (.ro (is.map .int)) → ¬ OwnS so t rd hl ra seats script → Q (.ref lr) H') : callW theP (n + 7) false "_law_run" [.ref script] H Q X := by
  refine call_of (d := f__law_run) rfl rfl ?_
  refine s_let (w_callw (w_cons (w_call (by array_get_dec) (s_cell_at hH (by decide) fun c0 => w_evs Evs.nil (s_seats fun seats q1 q2 => ?_)))))
  refine s_let (w_callw (w_cons (w_call (by array_get_dec) (s_cell_at hH (by decide) fun c1 => w_evs Evs.nil (s_stops fun stops q3 q4 => ?_)))))
  refine s_let (w_mk (by array_get_dec) fun t ht => t_init (MH.set_selfE _ _ _) ⟨q1, q2⟩ ⟨q3, q4⟩ fun H1 rd hl ra T hown hkeep => ⟨rfl, ?_⟩)
  have nt : script ≠ t := mne ht hH
  have hH0 := (MH.set_neE _ (.inst []) nt).trans hH
  have hH1 := hkeep _ _ nt hH0
  refine s_let (w_list Evs.nil fun so hso => ?_)
  have E3 := Ext.new (.lst []) hso
  have s3 := MH.set_selfE H1 so (.lst [])
  generalize MH.set H1 so _ = H3 at E3 s3
  obtain ⟨rides, T1, T2⟩ := T.tr
  cases T2
  have S3 : Run H3 so t rd hl ra seats stops 0 [] (fun _ _ => none) := ⟨⟨⟨[], T1.ext E3, .nil⟩, inv_init, Int.le_refl _, Nat.zero_le _, fun a z => T1.not_own (z ▸ hso), (fun a z => by rw [show a = so from z, s3]; exact fun z => (by cases z))⟩, s3⟩
  refine ⟨rfl, w_call (by array_get_dec) (s_cells (E3 _ _ hH1) hlen fun cc H4 ls hcc E4 h4 hn4 hcells => ?_)⟩
  have ns : ¬ OwnS so t rd hl ra seats script := fun z => z.elim (fun z => (hown _ z).elim nt fun q => mne q hH0 rfl) fun z => mne hso hH1 z
  have ncc : ¬ OwnS so t rd hl ra seats cc := fun z => z.elim ((T1.ext E3).not_own hcc) fun z => mne hcc s3 z.symm
  have hH4 := E4 _ _ (E3 _ _ hH1)
  refine ⟨_, .lst (.inl h4), for_inv (fun vs ρ H' => Nms ρ [("_law_train", .ref t), ("_law_sold", .ref so), ("_law_stops_here", .int stops)] ∧ Frm (OwnS so t rd hl ra seats) H4 H' ∧ ∃ (dn : List MV) (coming : Int) (R : Rides) (g : Grid), ls = dn ++ vs ∧ (R.length ≤ dn.length ∧ coming ≤ (dn.length : Int)) ∧ Run H' so t rd hl ra seats stops coming R g) (fun vs ρ H' z => .lst (.inl (z.2.1 _ _ ncc h4))) ?_ ?_ ⟨⟨rfl, rfl, rfl, trivial⟩, fun _ _ _ q => q, [], 0, [], _, rfl, ⟨Nat.le_refl _, Int.natCast_nonneg _⟩, S3.ext E4⟩⟩
  · clear S3 hown hkeep T1 T hH0 hH1 E3 E4 hso s3 hcc nt ht hH
    rintro v vs ρ H5 k ⟨V, f, dn, coming, R, g, e1, hR, S⟩ hk
    have hv : v ∈ ls := e1 ▸ List.mem_append_right _ (.head _)
    have hdn : dn.length < 366 := by rw [e1, List.length_append, List.length_cons] at hn4; (first | lia | omega)
    have Vs := V
    obtain ⟨m1, m2, m3, _⟩ := V
    refine s_let (w_call (by array_get_dec) (s_deed (hcells v hv) ⟨q3, q4⟩ S.so_ (by rw [List.length_map]; (first | lia | omega)) fun kd a b H6 kk E6 => ?_))
    have S := S.ext E6
    have f := f.trans E6.frm
    clear E6
    have hl5 : R.length < 900000 := by (first | lia | omega)
    have fin : ∀ {ρ' : Sto} {H' : MH} {coming' : Int} {R' : Rides} {g : Grid}, Nms ρ' [("_law_train", .ref t), ("_law_sold", .ref so), ("_law_stops_here", .int stops)] → Frm (OwnS so t rd hl ra seats) H6 H' → Run H' so t rd hl ra seats stops coming' R' g → (R'.length ≤ R.length + 1 ∧ coming' ≤ coming + 1) → k ρ' H' := fun V' f' L hr => hk _ _ ⟨V', f.trans f', dn ++ [v], _, _, _, by rw [e1, List.append_assoc]; rfl, by rw [List.length_append, List.length_singleton]; (first | lia | omega), L⟩
    have fo : ∀ {A B : MH}, Frm (Own t rd hl ra seats) A B → Frm (OwnS so t rd hl ra seats) A B := fun f => f.mono fun a z => .inl z
    have pass : ∀ {w : String} {v' : MV} {H7 : MH} {coming' : Int} {R' : Rides} {g : Grid}, (w ≠ "" ∨ (kd ≠ "sell" ∧ kd ≠ "back")) → Frm (OwnS so t rd hl ra seats) H6 H7 → Run H7 so t rd hl ra seats stops coming' R' g → (R'.length ≤ R.length + 1 ∧ coming' ≤ coming + 1) → wSs (callW theP (n + 6)) false (.cons (.ite (.and (.cons (.cmp (.sub (.var "_law_told_here") (.int 0)) (.cons .eq (.str "") .nil)) (.cons (.cmp (.sub (.var "_law_deed") (.int 0)) (.cons .eq (.str "sell") .nil)) .nil))) (.cons (.expr (.bm (.var "_law_sold") "append" (.cons (.sub (.var "_law_told_here") (.int 1)) .nil))) .nil) .nil)
        (.cons (.ite (.and (.cons (.cmp (.sub (.var "_law_told_here") (.int 0)) (.cons .eq (.str "") .nil)) (.cons (.cmp (.sub (.var "_law_deed") (.int 0)) (.cons .eq (.str "back") .nil)) .nil))) (.cons (.expr (.bm (.var "_law_sold") "remove" (.cons (.sub (.var "_law_deed") (.int 1)) .nil))) .nil) .nil) .nil)) (((ρ.set "_law_cell" v).set "_law_deed" (deedMV kd a b)).set "_law_told_here" (.tup [.str (Str.ofString w), v'])) H7 k (fun v H' => Q v H') (fun c _ H' => X c H') := fun hw f' L hr =>
      s_skip (ev_bothf (by sizeOf_list_dec) (by sizeOf_list_dec) (hw.imp id And.left)) (s_skip (ev_bothf (by sizeOf_list_dec) (by sizeOf_list_dec) (hw.imp id And.right)) (s_done (fin (((Vs.set rfl).set rfl).set rfl) f' L hr)))
    have tk : ∀ {w : String}, w = "ticket" → w ≠ "" := fun h => h ▸ by decide
    rcases kk with rfl | rfl | rfl | rfl
    · refine s_let (w_call (by array_get_dec) (s_word_sell S.tn hl5 (fun _ _ _ _ H7 f7 T7 => ?_) fun w H7 hw E7 => pass (.inl (word_nz _ (List.contains_iff_mem.mp (fail_exc hw)))) E7.frm (S.ext E7) ⟨Nat.le_succ _, by (first | lia | omega)⟩))
      refine s_iteT (ev_both (w := "") (k := "sell") (by sizeOf_list_dec) (by sizeOf_list_dec)) (s_expr (w_append (v := .int coming) (by array_get_dec) (S.kept f7) (by array_get_dec) (by rw [List.length_map, List.length_map]; unfold bigList; (first | lia | omega)) (s_done ?_)))
      have L := Run.set T7 (l := R.map Prod.fst ++ [coming]) (by rw [List.map_append]; rfl)
      rw [List.map_append] at L
      exact s_skip (ev_bothf (by sizeOf_list_dec) (by sizeOf_list_dec) (.inr (by decide))) (s_done (fin (((Vs.set rfl).set rfl).set rfl) ((fo f7).trans (frm_set (.inr rfl))) L ⟨by rw [List.length_append]; exact Nat.le_refl _, Int.le_refl _⟩))
    · refine s_let (w_call (by array_get_dec) (s_word_back S.tn (fun ps c H7 hp T7 f7 _ _ => ?_) fun _ H7 E7 => pass (.inl (by decide)) E7.frm (S.ext E7) ⟨Nat.le_succ _, by (first | lia | omega)⟩))
      refine s_skip (ev_bothf (by sizeOf_list_dec) (by sizeOf_list_dec) (.inr (by decide))) (s_iteT (ev_both (w := "") (k := "back") (by sizeOf_list_dec) (by sizeOf_list_dec)) (s_expr (w_remove (by array_get_dec) (S.kept f7) (ev_d1 (by array_get_dec)) (List.mem_map.mpr ⟨_, hp, rfl⟩) (s_done (s_done ?_)))))
      exact fin (((Vs.set rfl).set rfl).set rfl) ((fo f7).trans (frm_set (.inr rfl))) (Run.set (T7.less fun a z => .inl z) (keys_del S.tn.inv.asc)) ⟨Nat.le_succ_of_le (List.length_filter_le _ _), by (first | lia | omega)⟩
    · exact s_let (w_call (by array_get_dec) (s_word_leave S.tn (fun ps b' e' c H7 hp _ _ _ T7 f7 _ _ => pass (.inr ⟨by decide, by decide⟩) (fo f7) ⟨T7.less fun a z => .inl z, by rw [keys_set]; exact S.kept f7⟩ ⟨by unfold rSet; rw [List.length_map]; exact Nat.le_succ _, by (first | lia | omega)⟩) (fun _ _ _ _ _ _ H7 E7 => pass (.inl (by decide)) E7.frm (S.ext E7) ⟨Nat.le_succ _, by (first | lia | omega)⟩) fun _ H7 E7 => pass (.inl (by decide)) E7.frm (S.ext E7) ⟨Nat.le_succ _, by (first | lia | omega)⟩))
    · exact s_let (w_call (by array_get_dec) (s_word_reseat S.tn (fun ps b' e' c H7 hp _ _ _ T7 f7 _ _ => pass (.inr ⟨by decide, by decide⟩) (fo f7) ⟨T7, by rw [keys_set]; exact S.kept f7⟩ ⟨by unfold rSet; rw [List.length_map]; exact Nat.le_succ _, by (first | lia | omega)⟩) fun _ H7 E7 => pass (.inl (by decide)) E7.frm (S.ext E7) ⟨Nat.le_succ _, by (first | lia | omega)⟩))
  · rintro ρ H5 ⟨V, f, dn, coming, R, g, e1, hR, S⟩
    rw [List.append_nil] at e1
    subst e1
    have m1 := V.1
    have m2 := V.2.1
    refine s_retw (w_list (by array_get_dec) fun lr hlr => h so t rd hl ra seats stops coming R g lr _ (S.ext (Ext.new _ hlr)) ⟨Nat.le_trans hR.1 hn4, by (first | lia | omega)⟩ (MH.set_selfE _ _ _) (fun z => z.elim (S.tn.not_own hlr) fun z => mne hlr S.so_ z.symm) (Ext.new _ hlr _ _ (f _ _ ns hH4)) ns)
end
end Mine
end
section
set_option autoImplicit false
set_option linter.unusedVariables false
namespace Mine
open PySem
section
variable {n : Nat} {hd : Bool} {H H' : MH} {Z : Addr → Prop} {Q : MV → MH → Prop} {X : String → MH → Prop} {so t rd hl ro : Addr} {ra rb : Int → Addr} {seats stops coming : Int} {R : Rides} {g : Grid}
variable {Δ : CallT} {ρ : Sto} {N : Sto → MH → Prop} {RR : MV → MH → Prop} {Y : String → Sto → MH → Prop} {Y' : String → MH → Prop}
/-- what follows a statement, once -/
theorem s_join {s : MS} {ss : MSs} (J : Sto → MH → Prop) (h : ∀ k : Sto → MH → Prop, (∀ ρ' H', J ρ' H' → k ρ' H') → wSs Δ hd (.cons s .nil) ρ H k RR Y) (hj : ∀ ρ' H', J ρ' H' → wSs Δ hd ss ρ' H' N RR Y) : wSs Δ hd (.cons s ss) ρ H N RR Y := h _ hj
theorem w_orf {e f : ME} {es : MEs} (he : Ev Δ hd e ρ H (.bool false)) (h : wE Δ hd (.or (.cons f es)) ρ H Q Y') : wE Δ hd (.or (.cons e (.cons f es))) ρ H Q Y' := he _ _ h
theorem w_or1 {e : ME} (h : wE Δ hd e ρ H Q Y') : wE Δ hd (.or (.cons e .nil)) ρ H Q Y' := h
theorem str_ne {s : Str} : CmpR H .ne (.str s) (.str s) false := by have := CmpR.nes (H := H) (x := s) (y := s); rwa [decide_eq_true rfl] at this
end
end Mine
end
section
set_option autoImplicit false
set_option linter.unusedVariables false
namespace Mine
open PySem
/-! figures and rows of figures -/
/-- a number as it is written -/
noncomputable def shown (i : Int) : Str := Str.ofString (toString i)
noncomputable def isFig (c : Nat) : Bool := decide (48 ≤ c) && decide (c ≤ 57)
/-- a word that the notes take for a number -/
noncomputable def canon (w : Str) : Bool := decide (1 ≤ w.length) && decide (w.length ≤ 9) && (decide (w.length = 1) || !decide (w.cps[0]? = some 48)) && w.cps.toList.all isFig
noncomputable def numOf (w : Str) : Option Int := if canon w = true then some ((PySem.NumText.digitsVal w.cps.toList : Nat) : Int) else none
theorem canon_of {w : Str} (h : canon w = true) : (1 ≤ w.length ∧ w.length ≤ 9) ∧ (w.length = 1 ∨ w.cps[0]? ≠ some 48) ∧ PySem.NumText.AllDigits w.cps.toList := by
  unfold canon at h
  obtain ⟨h, h4⟩ := Bool.and_eq_true_iff.mp h
  obtain ⟨h, h3⟩ := Bool.and_eq_true_iff.mp h
  obtain ⟨h1, h2⟩ := Bool.and_eq_true_iff.mp h
  refine ⟨⟨of_decide_eq_true h1, of_decide_eq_true h2⟩, (Bool.or_eq_true_iff.mp h3).imp (fun z => of_decide_eq_true z) (fun z => of_decide_eq_false (Bool.not_eq_true' _ ▸ z)), fun c hc => ?_⟩
  obtain ⟨a, b⟩ := Bool.and_eq_true_iff.mp (List.all_eq_true.mp h4 c hc)
  exact ⟨of_decide_eq_true a, of_decide_eq_true b⟩
theorem num_some {w : Str} {n : Int} (h : numOf w = some n) : canon w = true ∧ n = ((PySem.NumText.digitsVal w.cps.toList : Nat) : Int) := by
  unfold numOf at h
  split at h
  · exact ⟨‹_›, (Option.some.inj h).symm⟩
  · cases h
theorem num_reads {w : Str} {n : Int} (h : numOf w = some n) : intText? w = some n := by
  obtain ⟨hc, rfl⟩ := num_some h
  obtain ⟨h1, _, h3⟩ := canon_of hc
  refine PySem.intText_digits h3 (fun q => ?_) (Nat.le_trans h1.2 (by decide))
  have : w.cps.toList.length = w.length := rfl
  rw [q] at this
  exact absurd h1.1 (by rw [← this]; decide)
theorem num_pos {w : Str} {n : Int} (h : numOf w = some n) : 0 ≤ n := by
  obtain ⟨_, rfl⟩ := num_some h; exact Int.natCast_nonneg _
theorem shown_num {w : Str} {n : Int} (h : numOf w = some n) : shown n = w := by
  obtain ⟨hc, rfl⟩ := num_some h
  obtain ⟨h1, h2, h3⟩ := canon_of hc
  have hl : w.cps.toList.length = w.length := rfl
  have hd := PySem.NumText.toDigits_digitsVal (w.length - 1) w.cps.toList (by rw [hl]; (first | lia | omega)) h3 (by
    by_cases q : w.length = 1
    · exact .inl (by (first | lia | omega))
    · refine .inr ?_
      cases hw : w.cps.toList with
      | nil => rw [hw] at hl; exact absurd h1.1 (by rw [← hl]; decide)
      | cons c r =>
        refine ⟨c, r, rfl, ?_⟩
        have hc0 := (h3 c (by rw [hw]; exact .head _)).1
        have : w.cps[0]? = some c := by rw [← Array.getElem?_toList, hw]; rfl
        have hne := h2.resolve_left q
        rw [this] at hne
        have : c ≠ 48 := fun z => hne (by rw [z])
        (first | lia | omega))
  apply Str.ext'
  apply Array.toList_inj.mp
  unfold shown
  rw [PySem.W.KIN.signs_num, hd, List.map_map]
  have : ∀ l : List Nat, PySem.NumText.AllDigits l → l.map (Char.toNat ∘ Char.ofNat) = l := fun l => by
    induction l with
    | nil => exact fun _ => rfl
    | cons c l ih =>
      intro h
      rw [List.map_cons, ih h.tail]
      have := h.head
      have e : (Char.toNat ∘ Char.ofNat) c = c := by
        have key : ∀ d, d < 58 → Char.toNat (Char.ofNat d) = d := by decide
        exact key c (by (first | lia | omega))
      rw [e]
  exact this _ h3
end Mine
end
section
set_option autoImplicit false
set_option linter.unusedVariables false
namespace Mine
open PySem
/-! loops and comprehensions over strings -/
noncomputable def signs (w : Str) : List MV := w.cps.toList.map fun c => .str ⟨#[c]⟩
section
variable {Δ : CallT} {hd : Bool} {N : Sto → MH → Prop} {R : MV → MH → Prop} {X : String → Sto → MH → Prop} {ss : MSs}
theorem s_forS {x : String} {it : ME} {b : MSs} {w : Str} {ρ : Sto} {H : MH} (I : List MV → Sto → MH → Prop) (hit : Ev Δ false it ρ H (.str w)) (h : I (signs w) ρ H)
    (step : ∀ v vs ρ H k, I (v :: vs) ρ H → (∀ ρ' H', I vs ρ' H' → k ρ' H') → wSs Δ false b (ρ.set x v) H k R X) (fin : ∀ ρ H, I [] ρ H → wSs Δ false ss ρ H N R X) : wSs Δ false (.cons (.for_ x it b) ss) ρ H N R X :=
  ⟨rfl, hit _ _ ⟨_, .str, for_inv I (fun vs ρ H i => .str) step fin h⟩⟩
theorem w_compS {elt it : ME} {x : String} {w : Str} {ρ : Sto} {H : MH} {Q : MV → MH → Prop} {Y : String → MH → Prop} (f : MV → MV) (hit : Ev Δ false it ρ H (.str w)) (hl : w.length ≤ bigList)
    (hf : ∀ v ∈ signs w, Ev Δ false elt (ρ.set x v) H (f v)) (q : New H Q ((signs w).map f)) : wE Δ false (.comp elt x it (.bool true)) ρ H Q Y :=
  ⟨rfl, hit _ _ ⟨_, .str, comp_pure (fun _ => true) f .str _ _ (fun v hv k hk => hk) (fun v hv hp k hk => hf v hv _ _ hk) (by rw [List.length_nil, Nat.zero_add]; exact (List.length_map _).symm ▸ hl) (by rw [List.filter_eq_self.mpr fun _ _ => rfl]; exact q)⟩⟩
end
/-! figures -/
theorem figs : (Str.ofString "0123456789").cps.toList = [48, 49, 50, 51, 52, 53, 54, 55, 56, 57] := by decide +kernel
theorem fig_in (c : Nat) : Txt.contains (Str.ofString "0123456789") ⟨#[c]⟩ = isFig c := by
  unfold Txt.contains
  rw [StrLaws.found_one, figs]
  show decide (c ∈ List.range' 48 10) = _
  unfold isFig
  rw [← Bool.decide_and]
  exact decide_eq_decide.mpr (List.mem_range'_1.trans (and_congr_right fun _ => Nat.lt_succ_iff))
theorem item_zero {w : Str} (h : 1 ≤ w.length) : Txt.charAt w 0 = w.cps[0]? ∧ ∃ c, w.cps[0]? = some c := by
  have h' : 0 < w.cps.size := h
  refine ⟨?_, ⟨_, getElem?_pos w.cps 0 h'⟩⟩
  unfold Txt.charAt seqIndex?
  simp
  rw [if_pos (show 0 < w.length from h)]; rfl
theorem one_eq {w : Str} (h : 1 ≤ w.length) : decide (Txt.item w 0 = Str.ofString "0") = decide (w.cps[0]? = some 48) := by
  obtain ⟨e, c, hc⟩ := item_zero h
  have e0 : Str.ofString "0" = ⟨#[48]⟩ := by decide +kernel
  unfold Txt.item
  rw [e, hc, e0]
  refine decide_eq_decide.mpr ⟨fun q => ?_, fun q => ?_⟩
  · have := congrArg Str.cps q
    simp at this
    rw [this]
  · rw [Option.some.inj q]; rfl
section
variable {n : Nat} {hd : Bool} {H : MH} {Q : MV → MH → Prop} {X : String → MH → Prop}
theorem num_none {w : Str} (h : ¬ canon w = true) : numOf w = none := if_neg h
theorem s_number_of {w : Str} (hw : w.length ≤ bigList) (hok : ∀ i, numOf w = some i → Q (.int i) H) (hbad : numOf w = none → X "NoText" H) : callW theP (n + 1) false "number_of" [.str w] H Q X := by
  refine call_of (d := f_number_of) rfl rfl ?_
  have hlen : ∀ {ρ : Sto}, ρ "word" = some (.str w) → Ev (callW theP n) false (.bi "len" (.cons (.var "word") .nil)) ρ H (.int w.length) := fun h => Ev.lenS (Ev.var h) hw
  by_cases h1 : 1 ≤ w.length ∧ w.length ≤ 9
  · have c1 : CmpR H .le (.int 1) (.int w.length) true := by have := CmpR.le (H := H) (x := 1) (y := w.length); rwa [decide_eq_true (by (first | lia | omega))] at this
    have c2 : CmpR H .le (.int w.length) (.int 9) true := by have := CmpR.le (H := H) (x := w.length) (y := 9); rwa [decide_eq_true (by (first | lia | omega))] at this
    obtain ⟨e1, c, e2⟩ := item_zero h1.1
    refine s_ite (c := (!true) || (decide (Txt.item w 0 = Str.ofString "0") && decide ((1 : Int) < w.length))) (Ev.or (EvO.any (Ev.not (Ev.chain Ev.int (EvC.t (hlen rfl) c1 (EvC.one Ev.gconst c2)))) (EvO.one (Ev.and (EvA.any (Ev.cmp (Ev.sign (Ev.var rfl) Ev.int ⟨by decide, by decide⟩ (by rw [e1, e2]; rfl)) Ev.str .eqs) (EvA.one (Ev.cmp (hlen rfl) Ev.int .gt))))))) (fun q => ?_) fun q => ?_
    · refine s_raise (hbad (num_none fun z => ?_))
      obtain ⟨_, k2, _⟩ := canon_of z
      obtain ⟨q1, q2⟩ := Bool.and_eq_true_iff.mp (show (decide (Txt.item w 0 = Str.ofString "0") && decide ((1 : Int) < w.length)) = true from q)
      rw [one_eq h1.1] at q1
      have := of_decide_eq_true q1
      have := of_decide_eq_true q2
      exact k2.elim (fun z => by (first | lia | omega)) fun z => z (of_decide_eq_true q1)
    · have q' : (decide (Txt.item w 0 = Str.ofString "0") && decide ((1 : Int) < w.length)) = false := q
      refine s_done ?_
      refine s_forS (fun vs ρ H' => H' = H ∧ ρ "word" = some (.str w) ∧ ∃ pre rest, w.cps.toList = pre ++ rest ∧ vs = rest.map (fun c => .str ⟨#[c]⟩) ∧ pre.all isFig = true) (Ev.var rfl) ⟨rfl, rfl, [], w.cps.toList, rfl, rfl, rfl⟩ ?_ ?_
      · rintro v vs ρ H' k ⟨rfl, hρ, pre, rest, e, ev, hp⟩ hk
        cases rest with
        | nil => cases ev
        | cons c rest =>
          obtain ⟨rfl, rfl⟩ := List.cons.inj ev
          have cc : CmpR H' .notin (.str ⟨#[c]⟩) (.str (Str.ofString "0123456789")) (!isFig c) := fig_in c ▸ .notins
          refine s_ite (Ev.cmp (by array_get_dec) Ev.gconst cc) (fun q => ?_) fun q => ?_
          · refine s_raise (hbad (num_none fun z => ?_))
            obtain ⟨_, _, k3⟩ := canon_of z
            have := k3 c (by rw [e]; exact List.mem_append.mpr (.inr (.head _)))
            unfold isFig at q
            simp at q
            (first | lia | omega)
          · exact s_done (s_done (hk _ _ ⟨rfl, by sizeOf_list_dec, pre ++ [c], rest, by rw [e, List.append_assoc]; rfl, rfl, by rw [List.all_append, hp]; simp at q; simp [q]⟩))
      · rintro ρ H' ⟨rfl, hρ, pre, rest, e, ev, hp⟩
        have hr : rest = [] := by cases rest with | nil => rfl | cons => cases ev
        subst hr
        rw [List.append_nil] at e
        have hc : canon w = true := by
          unfold canon
          rw [e, hp, decide_eq_true h1.1, decide_eq_true h1.2, ← one_eq h1.1]
          by_cases z : w.length = 1
          · rw [decide_eq_true z]; rfl
          · rw [decide_eq_true (show (1 : Int) < w.length by (first | lia | omega)), Bool.and_true] at q'
            rw [q', decide_eq_false z]; rfl
        have hn : numOf w = some ((PySem.NumText.digitsVal w.cps.toList : Nat) : Int) := if_pos hc
        exact s_ret (Ev.intS (by array_get_dec) (by (first | lia | omega)) (num_reads hn)) (hok _ hn)
  · refine s_ite (c := true) (Ev.or (EvO.t (Ev.not (b := false) ?_))) (fun _ => s_raise (hbad (num_none fun z => h1 (canon_of z).1))) fun q => Bool.noConfusion q
    by_cases h2 : 1 ≤ w.length
    · have c1 : CmpR H .le (.int 1) (.int w.length) true := by have := CmpR.le (H := H) (x := 1) (y := w.length); rwa [decide_eq_true (by (first | lia | omega))] at this
      have c2 : CmpR H .le (.int w.length) (.int 9) false := by have := CmpR.le (H := H) (x := w.length) (y := 9); rwa [decide_eq_false (by (first | lia | omega))] at this
      exact Ev.chain Ev.int (EvC.t (hlen rfl) c1 (EvC.one Ev.gconst c2))
    · have c1 : CmpR H .le (.int 1) (.int w.length) false := by have := CmpR.le (H := H) (x := 1) (y := w.length); rwa [decide_eq_false (by (first | lia | omega))] at this
      exact Ev.chain Ev.int (EvC.f (hlen rfl) c1)
end
end Mine
end
section
set_option autoImplicit false
set_option linter.unusedVariables false
namespace Mine
open PySem
/-! rows of figures -/
noncomputable def mapO {α β : Type} (f : α → Option β) : List α → Option (List β)
  | [] => some []
  | x :: l => (f x).bind fun u => (mapO f l).map (u :: ·)
theorem mapO_map {α β γ δ : Type} {f : γ → Option δ} {g : α → Option β} {a : α → γ} {b : β → δ} (h : ∀ x, f (a x) = (g x).map b) (l : List α) : mapO f (l.map a) = (mapO g l).map (List.map b) := by
  induction l with
  | nil => rfl
  | cons x l ih =>
    show (f (a x)).bind (fun u => (mapO f (l.map a)).map (u :: ·)) = ((g x).bind fun u => (mapO g l).map (u :: ·)).map (List.map b)
    rw [h, ih]
    cases g x with
    | none => rfl
    | some u => cases mapO g l <;> rfl
theorem mapO_all {α β : Type} {f : α → Option β} {d : β} {l : List α} {P : β → Prop} (hd : ¬ P d) (h : ∀ x u, f x = some u → P u) (q : ∀ x ∈ l, P ((f x).getD d)) : mapO f l = some (l.map fun x => (f x).getD d) := by
  induction l with
  | nil => rfl
  | cons x l ih =>
    show (f x).bind _ = _
    have := q x (.head _)
    cases e : f x with
    | none => rw [e] at this; exact absurd this hd
    | some u => rw [ih fun y hy => q y (.tail _ hy), List.map_cons, e]; rfl
theorem mapO_none {α β : Type} {f : α → Option β} {l : List α} {x : α} (hx : x ∈ l) (h : f x = none) : mapO f l = none := by
  induction l with
  | nil => cases hx
  | cons y l ih =>
    show (f y).bind _ = none
    cases hx with
    | head => rw [h]; rfl
    | tail _ hx => rw [ih hx]; cases f y <;> rfl
/-- a comprehension whose items may raise -/
theorem comp_or {src : MV} {vs₀ : List MV} {cond : MV → MH → (Bool → MH → Prop) → Prop} {elt : MV → MH → (MV → MH → Prop) → Prop} {Q : MV → MH → Prop} {H : MH} {Bad : Prop} (f : MV → Option MV) (he : Elems H src vs₀) (hc : ∀ v H k, k true H → cond v H k) :
    ∀ (vs acc : List MV), (∀ v ∈ vs, ∀ k, (∀ u, f v = some u → k u H) → (f v = none → Bad) → elt v H k) → acc.length + vs.length ≤ bigList → (∀ us, mapO f vs = some us → New H Q (acc ++ us)) → (mapO f vs = none → Bad) → Bad ∨ True → compW src vs₀ cond elt Q vs acc H := by
  intro vs
  induction vs with
  | nil => intro acc _ _ q _ _ c hc; have := q [] rfl c hc; rwa [List.append_nil] at this
  | cons v vs ih =>
    intro acc hf hl q qx _
    rw [List.length_cons] at hl
    refine ⟨Nat.lt_of_lt_of_le (Nat.lt_add_of_pos_right (Nat.succ_pos _)) hl, hc v _ _ ?_⟩
    refine hf v (.head _) _ (fun u hu => ⟨he, ih _ (fun w hw => hf w (.tail _ hw)) (by rw [List.length_append, List.length_cons, List.length_nil]; (first | lia | omega)) (fun us hus => ?_) (fun hn => ?_) (.inr trivial)⟩) fun hn => ?_
    · rw [List.append_assoc]; exact q (u :: us) (by show (f v).bind _ = _; rw [hu, hus]; rfl)
    · exact qx (by show (f v).bind _ = _; rw [hu, hn]; rfl)
    · exact qx (by show (f v).bind _ = _; rw [hn]; rfl)
noncomputable def sp : Str := Str.ofString " "
noncomputable def nl : Str := Str.ofString "\n"
theorem sp_one : (sp.length == 0) = false := by decide +kernel
theorem nl_one : (nl.length == 0) = false := by decide +kernel
theorem split_len {x y : Str} (hy : (y.length == 0) = false) : (Txt.split x y).length ≤ x.length + 1 ∧ ∀ w ∈ Txt.split x y, w.length ≤ x.length := by
  have y1 : 1 ≤ y.length := Nat.pos_of_ne_zero (beq_eq_false_iff_ne.mp hy)
  have := PyProof.Rows.split_weight x y y1
  exact ⟨by (first | lia | omega), fun w hw => PyProof.Rows.part_short hw⟩
theorem split_cons (x y : Str) : ∃ w ws, Txt.split x y = w :: ws := by
  unfold Txt.split
  split
  · exact ⟨_, _, rfl⟩
  · split
    · exact ⟨_, _, rfl⟩
    · rw [StrLaws.partsBetween_eq]; exact StrLaws.partsFrom_ne _ _ _ _
/-- the numbers of a row that opens with a word -/
noncomputable def numsIn (line word : Str) : Option (List Int) := match Txt.split line sp with
  | [] => none
  | w :: ws => if w = word then mapO numOf ws else none
theorem cut_tail {α : Type} (x : α) (l : List α) : cut (x :: l) (some 1) none = l := by
  unfold cut
  simp [clipAt]
  have e : (max 0 (min 1 ((l.length : Int) + 1))).toNat = 1 := by (first | lia | omega)
  rw [e]; simp
noncomputable def strNum : MV → Option MV
  | .str w => (numOf w).map .int
  | _ => none
section
variable {n : Nat} {hd : Bool} {H : MH} {Q : MV → MH → Prop} {X : String → MH → Prop}
theorem s_numbers_of {line word : Str} (hl : line.length < bigList) (hok : ∀ is c H', numsIn line word = some is → H c = none → Ext H H' → H' c = some (.lst (is.map .int)) → Q (.ref c) H') (hbad : ∀ H', numsIn line word = none → Ext H H' → X "NoText" H') : callW theP (n + 2) false "numbers_of" [.str line, .str word] H Q X := by
  refine call_of (d := f_numbers_of) rfl rfl ?_
  obtain ⟨w, ws, e⟩ := split_cons line sp
  obtain ⟨l1, l2⟩ := split_len (x := line) sp_one
  rw [e] at l1 l2
  refine s_let (w_split (y := sp) (Ev.var rfl) Ev.str sp_one hl fun c hc => ?_)
  have E1 := Ext.new (H := H) (.lst ((Txt.split line sp).map MV.str)) hc
  have h1 : (H.set c (.lst ((Txt.split line sp).map MV.str))) c = some (.lst (MV.str w :: ws.map .str)) := by rw [MH.set_selfE, e]; rfl
  generalize H.set c (.lst ((Txt.split line sp).map MV.str)) = H1 at E1 h1
  refine s_ite (Ev.cmp (Ev.item (by array_get_dec) Ev.int h1 rfl) (by array_get_dec) .nes) (fun q => ?_) fun q => ?_
  · refine s_raise (hbad _ ?_ E1)
    unfold numsIn; rw [e]
    exact if_neg (of_decide_eq_false (Bool.not_eq_true' _ ▸ q))
  · have hw : w = word := of_decide_eq_true (Bool.not_eq_false' _ ▸ q)
    have hn : numsIn line word = mapO numOf ws := by unfold numsIn; rw [e]; exact if_pos hw
    refine s_done (s_retw ⟨rfl, w_slice (Ev.var (by sizeOf_list_dec)) (.inl h1) Ev.int Ev.none .int .none fun c2 hc2 => ?_⟩)
    rw [cut_tail]
    have E2 := Ext.new (H := H1) (.lst (ws.map MV.str)) hc2
    have h2 : (H1.set c2 (.lst (ws.map MV.str))) c2 = some (.lst (ws.map MV.str)) := MH.set_selfE _ _ _
    generalize H1.set c2 (.lst (ws.map MV.str)) = H2 at E2 h2
    have hm : mapO strNum (ws.map MV.str) = (mapO numOf ws).map (List.map MV.int) := mapO_map (f := strNum) (g := numOf) (a := MV.str) (b := MV.int) (fun _ => rfl) ws
    refine ⟨_, .lst (.inl h2), comp_or (Bad := X "NoText" H2) strNum (.lst (.inl h2)) (fun v H k hk => hk) _ _ (fun v hv k hk hb => ?_) (by rw [List.length_nil, List.length_map]; rw [List.length_cons] at l1; (first | lia | omega)) (fun us hu => ?_) (fun hu => ?_) (.inr trivial)⟩
    · obtain ⟨u, hu, rfl⟩ := List.mem_map.mp hv
      refine w_call (Evs.cons (by array_get_dec) Evs.nil) (s_number_of (Nat.le_of_lt (Nat.lt_of_le_of_lt (l2 u (.tail _ hu)) hl)) (fun i hi => hk _ ?_) fun hi => hb ?_)
      · show (numOf u).map MV.int = _; rw [hi]; rfl
      · show (numOf u).map MV.int = _; rw [hi]; rfl
    · rw [hm] at hu
      cases hq : mapO numOf ws with
      | none => rw [hq] at hu; cases hu
      | some is =>
        rw [hq] at hu; obtain rfl := Option.some.inj hu
        exact fun c3 hc3 => hok is c3 _ (hn.trans hq) (none_of_ext (E1.trans E2) hc3) ((E1.trans E2).trans (Ext.new _ hc3)) (MH.set_selfE _ _ _)
    · rw [hm] at hu
      refine hbad _ (hn.trans ?_) (E1.trans E2)
      cases hq : mapO numOf ws with
      | none => rfl
      | some is => rw [hq] at hu; cases hu
end
end Mine
end
section
set_option autoImplicit false
set_option linter.unusedVariables false
namespace Mine
open PySem
theorem nt_t {A B : MH → Prop} {H : MH} (z : A H) : asTruth (fun b H₁ => asTruth (fun c H₁ => if c = true then A H₁ else B H₁) (.bool (!b)) H₁) (.bool false) H := z
theorem nt_f {A B : MH → Prop} {H : MH} (z : B H) : asTruth (fun b H₁ => asTruth (fun c H₁ => if c = true then A H₁ else B H₁) (.bool (!b)) H₁) (.bool true) H := z
theorem empty_len : (Str.ofString "").length = 0 := by decide +kernel
theorem len_empty {w : Str} (h : w.length = 0) : w = Str.ofString "" := by
  have e : Str.ofString "" = ⟨#[]⟩ := by decide +kernel
  rw [e]
  exact Str.ext' (Array.eq_empty_of_size_eq_zero h)
noncomputable def inFigs : MV → MV
  | .str y => .bool (Txt.contains (Str.ofString "0123456789") y)
  | _ => .none
theorem signs_figs (w : Str) : (signs w).map inFigs = (w.cps.toList.map isFig).map .bool := by
  unfold signs
  rw [List.map_map, List.map_map]
  exact List.map_congr_left fun c _ => congrArg MV.bool (fig_in c)
section
variable {n : Nat} {hd : Bool} {H : MH} {Q : MV → MH → Prop} {X : String → MH → Prop}
theorem s_figures {w : Str} (hw : w.length ≤ bigList) (h : ∀ H', Ext H H' → Q (.int ((numOf w).getD (-1))) H') : callW theP (n + 1) false "_law_figures" [.str w] H Q X := by
  refine call_of (d := f__law_figures) rfl rfl ?_
  have hlen : ∀ {ρ : Sto} {H : MH}, ρ "_law_word_here" = some (.str w) → Ev (callW theP n) false (.bi "len" (.cons (.var "_law_word_here") .nil)) ρ H (.int w.length) := fun h => Ev.lenS (Ev.var h) hw
  have bad : ∀ {H' : MH}, Ext H H' → ¬ canon w = true → Q (.int (-1)) H' := fun e z => by have := h _ e; rwa [num_none z] at this
  have neg1 : ∀ {ρ : Sto} {H : MH}, Ev (callW theP n) false (.neg (.int 1)) ρ H (.int (-1)) := Ev.neg Ev.int
  by_cases h0 : w.length = 0
  · have e := len_empty h0
    have c0 : CmpR H .eq (.str w) (.str (Str.ofString "")) true := by have := CmpR.eqs (H := H) (x := w) (y := Str.ofString ""); rwa [decide_eq_true e] at this
    exact s_iteT (Ev.or (EvO.t (Ev.cmp (Ev.var rfl) Ev.str c0))) (s_ret neg1 (bad (.refl _) fun z => absurd (canon_of z).1.1 (by (first | lia | omega))))
  have c0 : CmpR H .eq (.str w) (.str (Str.ofString "")) false := by have := CmpR.eqs (H := H) (x := w) (y := Str.ofString ""); rwa [decide_eq_false fun q => h0 (by rw [q]; exact empty_len)] at this
  by_cases h9 : 9 < w.length
  · have c1 : CmpR H .gt (.int w.length) (.int 9) true := by have := CmpR.gt (H := H) (x := w.length) (y := 9); rwa [decide_eq_true (by (first | lia | omega))] at this
    exact s_iteT (Ev.or (EvO.f (Ev.cmp (Ev.var rfl) Ev.str c0) (EvO.t (Ev.cmp (hlen rfl) Ev.int c1)))) (s_ret neg1 (bad (.refl _) fun z => absurd (canon_of z).1.2 (by (first | lia | omega))))
  have c1 : CmpR H .gt (.int w.length) (.int 9) false := by have := CmpR.gt (H := H) (x := w.length) (y := 9); rwa [decide_eq_false (by (first | lia | omega))] at this
  have h1 : 1 ≤ w.length := by (first | lia | omega)
  obtain ⟨e1, c, e2⟩ := item_zero h1
  refine s_ite (c := decide ((1 : Int) < w.length) && decide (Txt.item w 0 = Str.ofString "0")) (Ev.or (EvO.f (Ev.cmp (Ev.var rfl) Ev.str c0) (EvO.f (Ev.cmp (hlen rfl) Ev.int c1) (EvO.one (Ev.and (EvA.any (Ev.cmp (hlen rfl) Ev.int .gt) (EvA.one (Ev.cmp (Ev.sign (Ev.var rfl) Ev.int ⟨by decide, by decide⟩ (by rw [e1, e2]; rfl)) Ev.str .eqs)))))))) (fun q => ?_) fun q => ?_
  · obtain ⟨q1, q2⟩ := Bool.and_eq_true_iff.mp q
    rw [one_eq h1] at q2
    refine s_ret neg1 (bad (.refl _) fun z => (canon_of z).2.1.elim (fun k => ?_) fun k => k (of_decide_eq_true q2))
    have := of_decide_eq_true q1
    (first | lia | omega)
  refine s_done (s_itew (w_not (w_bi1 (w_compS inFigs (Ev.var rfl) hw (fun v hv => ?_) fun c2 hc2 => ?_))))
  · obtain ⟨c, _, rfl⟩ := List.mem_map.mp hv
    exact Ev.cmp (by array_get_dec) Ev.str .ins
  rw [signs_figs]
  have E2 := Ext.new (H := H) (.lst ((w.cps.toList.map isFig).map MV.bool)) hc2
  refine .allL rfl (.inl (MH.set_selfE _ _ _)) ?_
  rw [List.all_map]
  cases ha : w.cps.toList.all (id ∘ isFig) with
  | false =>
    refine nt_t (s_ret neg1 (bad E2 fun z => ?_))
    have k := (canon_of z).2.2
    have : w.cps.toList.all (id ∘ isFig) = true := List.all_eq_true.mpr fun c hc => by
      have := k c hc
      show isFig c = true
      unfold isFig
      rw [decide_eq_true this.1, decide_eq_true this.2]; rfl
    rw [this] at ha; cases ha
  | true =>
    refine nt_f (s_done ?_)
    have hc : canon w = true := by
      unfold canon
      rw [show w.cps.toList.all isFig = true from ha, decide_eq_true h1, decide_eq_true (show w.length ≤ 9 by (first | lia | omega)), ← one_eq h1]
      by_cases z : w.length = 1
      · rw [decide_eq_true z]; rfl
      · rw [decide_eq_true (show (1 : Int) < w.length by (first | lia | omega)), Bool.true_and] at q
        rw [q, decide_eq_false z]; rfl
    have hn : numOf w = some ((PySem.NumText.digitsVal w.cps.toList : Nat) : Int) := if_pos hc
    have := h _ E2
    rw [hn] at this
    exact s_ret (Ev.intS (by array_get_dec) (by (first | lia | omega)) (num_reads hn)) this
theorem s_law_numbers_of {row word : Str} (hl : row.length < bigList) (h : ∀ c H', H c = none → Ext H H' → H' c = some (.lst (((numsIn row word).getD []).map .int)) → Q (.ref c) H') : callW theP (n + 2) false "_law_numbers_of" [.str row, .str word] H Q X := by
  refine call_of (d := f__law_numbers_of) rfl rfl ?_
  obtain ⟨w, ws, e⟩ := split_cons row sp
  obtain ⟨l1, l2⟩ := split_len (x := row) sp_one
  rw [e] at l1 l2
  refine s_let (w_split (y := sp) (Ev.var rfl) Ev.str sp_one hl fun c hc => ?_)
  have E1 := Ext.new (H := H) (.lst ((Txt.split row sp).map MV.str)) hc
  have h1 : (H.set c (.lst ((Txt.split row sp).map MV.str))) c = some (.lst (MV.str w :: ws.map .str)) := by rw [MH.set_selfE, e]; rfl
  generalize H.set c (.lst ((Txt.split row sp).map MV.str)) = H1 at E1 h1
  refine s_let ⟨rfl, w_slice (Ev.var (by sizeOf_list_dec)) (.inl h1) Ev.int Ev.none .int .none fun c2 hc2 => ?_⟩
  rw [cut_tail]
  have E2 := Ext.new (H := H1) (.lst (ws.map MV.str)) hc2
  have h2 : (H1.set c2 (.lst (ws.map MV.str))) c2 = some (.lst (ws.map MV.str)) := MH.set_selfE _ _ _
  generalize H1.set c2 (.lst (ws.map MV.str)) = H2 at E2 h2
  refine ⟨_, .lst (.inl h2), comp_inv (fun vs acc H' => Ext H2 H' ∧ ∃ pre rest, ws = pre ++ rest ∧ vs = rest.map MV.str ∧ acc = (pre.map fun w => (numOf w).getD (-1)).map MV.int) (fun vs acc H' i => .lst (.inl (i.1 _ _ h2))) (fun v H k hk => hk) ?_ ?_ _ _ _ (by rw [List.length_nil, List.length_map]; rw [List.length_cons] at l1; (first | lia | omega)) ⟨.refl _, [], ws, rfl, rfl, rfl⟩⟩
  · rintro v vs acc H' k ⟨E3, pre, rest, ew, ev, rfl⟩ hk
    cases rest with
    | nil => cases ev
    | cons u rest =>
      obtain ⟨rfl, rfl⟩ := List.cons.inj ev
      refine w_call (Evs.cons (by array_get_dec) Evs.nil) (s_figures (Nat.le_of_lt (Nat.lt_of_le_of_lt (l2 u (.tail _ (by rw [ew]; exact List.mem_append.mpr (.inr (.head _))))) hl)) fun H'' E4 => hk _ _ ⟨E3.trans E4, pre ++ [u], rest, by rw [ew, List.append_assoc]; rfl, rfl, by rw [List.map_append, List.map_append]; rfl⟩)
  · rintro acc H3 c3 ⟨E3, pre, rest, ew, ev, rfl⟩ hc3
    have hr : rest = [] := by cases rest with | nil => rfl | cons => cases ev
    subst hr
    rw [List.append_nil] at ew
    subst ew
    have E4 := Ext.new (H := H3) (.lst ((ws.map fun w => (numOf w).getD (-1)).map MV.int)) hc3
    have h4 : (H3.set c3 (.lst ((ws.map fun w => (numOf w).getD (-1)).map MV.int))) c3 = some (.lst ((ws.map fun w => (numOf w).getD (-1)).map MV.int)) := MH.set_selfE _ _ _
    have E5 := (E1.trans E2).trans E3
    have hc0 := none_of_ext E5 hc3
    generalize H3.set c3 (.lst ((ws.map fun w => (numOf w).getD (-1)).map MV.int)) = H4 at E4 h4
    have E6 := E5.trans E4
    have h1' := ((E2.trans E3).trans E4) _ _ h1
    refine s_ite (c := (!decide (w = word)) || decide ((-1 : Int) ∈ ws.map fun w => (numOf w).getD (-1))) (Ev.or (EvO.any (Ev.cmp (Ev.item (by array_get_dec) Ev.int h1' rfl) (by array_get_dec) .nes) (EvO.one (Ev.cmp (Ev.neg Ev.int) (by array_get_dec) (.inl (.inl h4)))))) (fun q => ?_) fun q => ?_
    · refine s_retw (w_list Evs.nil fun c5 hc5 => h c5 _ (none_of_ext E6 hc5) (E6.trans (Ext.new _ hc5)) ?_)
      have hn : numsIn row word = none := by
        unfold numsIn; rw [e]
        dsimp only
        rcases Bool.or_eq_true_iff.mp q with q | q
        · exact if_neg (of_decide_eq_false (Bool.not_eq_true' _ ▸ q))
        · obtain ⟨u, hu, e0⟩ := List.mem_map.mp (of_decide_eq_true q)
          have : numOf u = none := by
            cases hq : numOf u with
            | none => rfl
            | some i => rw [hq] at e0; have := num_pos hq; have e0 : i = -1 := e0; (first | lia | omega)
          split
          · exact mapO_none hu this
          · rfl
      rw [hn]; exact MH.set_selfE _ _ _
    · obtain ⟨q1, q2⟩ := Bool.or_eq_false_iff.mp q
      have hw : w = word := of_decide_eq_true (Bool.not_eq_false' _ ▸ q1)
      have hn : numsIn row word = some (ws.map fun w => (numOf w).getD (-1)) := by
        unfold numsIn; rw [e]
        refine (if_pos hw).trans (mapO_all (P := fun u => u ≠ -1) (fun z => z rfl) (fun x u hx => by have := num_pos hx; (first | lia | omega)) fun x hx z => of_decide_eq_false q2 ?_)
        exact List.mem_map.mpr ⟨x, hx, z⟩
      exact s_done (s_ret (by array_get_dec) (h c3 _ hc0 E6 (by rw [hn]; exact h4)))
end
end Mine
end
section
set_option autoImplicit false
set_option linter.unusedVariables false
namespace Mine
open PySem
/-! what a reader of the notes looks at -/
noncomputable def behind (ah : List Part) (p : Part) : Bool := ah.getLast?.all fun q => decide (q.2.2 = p.2.1) && !decide (q.1 = p.1)
noncomputable def freeB (g : Grid) (s b e : Int) : Bool := (rangeL b e 1).all fun l => (g s l).isNone
/-- what is wrong with a part, as a word; '' if nothing -/
noncomputable def partBad (g : Grid) (seats stops : Int) (ah : List Part) (p : Part) : String :=
  if seats ≤ p.1 then "seat" else if p.2.2 ≤ p.2.1 ∨ stops - 1 < p.2.2 then "stretch" else if behind ah p = false then "stretch" else if freeB g p.1 p.2.1 p.2.2 = false then "shared" else ""
noncomputable def clsOf : String → String
  | "seat" => "NoSeat"
  | "stretch" => "NoStretch"
  | "shared" => "Shared"
  | "ticket" => "NoTicket"
  | "train" => "NoTrain"
  | _ => "NoText"
theorem free_at {g : Grid} {s b e : Int} : freeB g s b e = true ↔ ∀ l, b ≤ l → l < e → g s l = none := by
  unfold freeB
  rw [List.all_eq_true]
  constructor
  · intro h l h1 h2
    have : l ∈ rangeL b e 1 := by
      have hm : ∀ (m : Nat) (a : Int), (e - a).toNat = m → a ≤ l → l ∈ rangeL a e 1 := fun m => by
        induction m with
        | zero => intro a ha hl; (first | lia | omega)
        | succ m ih =>
          intro a ha hl
          rw [rangeL_cons (by decide) (by (first | lia | omega))]
          by_cases q : a = l
          · rw [q]; exact .head _
          · exact .tail _ (ih (a + 1) (by (first | lia | omega)) (by (first | lia | omega)))
      exact hm _ b rfl h1
    exact Option.isNone_iff_eq_none.mp (h l this)
  · intro h l hl
    have := rangeL_mem (by decide) hl
    rw [h l this.1 this.2]; rfl
section
variable {n : Nat} {hd : Bool} {H H' : MH} {Q : MV → MH → Prop} {X : String → MH → Prop} {t rd hl : Addr} {ra : Int → Addr} {seats stops coming : Int} {rides : List (Int × MV)} {g : Grid}
theorem le_b {x y : Int} {b : Bool} (h : decide (x ≤ y) = b) : CmpR H .le (.int x) (.int y) b := h ▸ .le
theorem lt_b {x y : Int} {b : Bool} (h : decide (x < y) = b) : CmpR H .lt (.int x) (.int y) b := h ▸ .lt
theorem s_sizeT (T : Tr H t rd hl ra seats stops coming rides g) (h : Q (.tup [.int seats, .int stops]) H) : callW theP (n + 1) hd "size" [.ref t] H Q X := by
  have a1 := T.at_
  exact call_of (d := f_Train_size) rfl rfl (s_ret (by array_get_dec) h)
theorem s_holderT (T : Tr H t rd hl ra seats stops coming rides g) {s l : Int} (s0 : 0 ≤ s) (s1 : s < seats) (l0 : 0 ≤ l) (l1 : l < stops - 1) (h : Q (mvo (g s l)) H) : callW theP (n + 2) false "holder" [.ref t, .int s, .int l] H Q X := by
  have a1 := T.at_
  refine call_of (d := f_Train_holder) rfl rfl ?_
  refine s_expr (w_meth (by array_get_dec) a1 rfl (by array_get_dec) (call_of (d := f_Train_need_seat) rfl rfl (s_skip (Ev.not (b := true) (Ev.chain Ev.int (EvC.t (by array_get_dec) (le_b (decide_eq_true s0)) (EvC.one (by array_get_dec) (lt_b (decide_eq_true s1)))))) (s_done ?_))))
  refine s_expr (w_meth (by array_get_dec) a1 rfl (by array_get_dec) (call_of (d := f_Train_need_leg) rfl rfl (s_skip (Ev.not (b := true) (Ev.chain Ev.int (EvC.t (by array_get_dec) (le_b (decide_eq_true l0)) (EvC.one (by array_get_dec) (lt_b (decide_eq_true l1)))))) (s_done ?_))))
  have a2 := T.hl_
  have a3 := T.row _ s0 s1
  have a4 := refsOf_at (ra := ra) s0 s1
  have a5 := rowOf_at (g := g) (i := s) l0 l1
  exact s_ret (by array_get_dec) h
theorem s_unpack3 {Δ : CallT} {ρ : Sto} {e : ME} {x y z : String} {a b c : MV} {ss : MSs} {N : Sto → MH → Prop} {R : MV → MH → Prop} {Y : String → Sto → MH → Prop} (he : Ev Δ false e ρ H (.tup [a, b, c])) (h : wSs Δ false ss (((ρ.set x a).set y b).set z c) H N R Y) : wSs Δ false (.cons (.unpack [x, y, z] e) ss) ρ H N R Y :=
  ⟨rfl, he _ _ ⟨_, _, rfl, .cons (.cons (.cons .nil)), h⟩⟩
theorem last_at {ah : List Part} {q : Part} (h : ah.getLast? = some q) : atIdx (ah.map partMV) (-1) = some (partMV q) := by
  rw [List.getLast?_eq_getElem?] at h
  have hl : 0 < ah.length := by
    cases ah with
    | nil => cases h
    | cons => exact Nat.succ_pos _
  unfold atIdx
  rw [if_neg (by decide), if_pos (by rw [List.length_map]; (first | lia | omega)), List.length_map, show (-1 + (ah.length : Int)).toNat = ah.length - 1 by (first | lia | omega), List.getElem?_map, h]; rfl
theorem ne_nil {a c : Addr} {ah : List Part} (ha : H a = some (.lst (ah.map partMV))) (hc : H c = some (.lst [])) : CmpR H .ne (.ref a) (.ref c) (!ah.isEmpty) := by
  have hx : DR H 8 (.ref a) (.list (ah.map fun p => .tuple [.int p.1, .int p.2.1, .int p.2.2])) := ⟨a, _, rfl, .inl ha, All2.maps fun p _ => ⟨_, rfl, .cons rfl (.cons rfl (.cons rfl .nil))⟩⟩
  have hy : DR H 8 (.ref c) (.list []) := ⟨c, [], rfl, .inl hc, .nil⟩
  have := CmpR.ned hx hy
  have e : PyData.eqv (.list (ah.map fun p => PyData.tuple [.int p.1, .int p.2.1, .int p.2.2])) (.list []) = ah.isEmpty := by
    cases ah with
    | nil => rfl
    | cons p l => simp [PyData.eqv, PyData.eqvAll]
  rwa [e] at this
theorem w_cmpL {Δ : CallT} {ρ : Sto} {l r : ME} {op : COp} {a : MV} {Y : String → MH → Prop} (hl : Ev Δ hd l ρ H a) (h : wE Δ hd r ρ H (fun b H₁ => ∃ c, CmpR H₁ op a b c ∧ Q (.bool c) H₁) Y) : wE Δ hd (.cmp l (.cons op r .nil)) ρ H Q Y := hl _ _ h
theorem s_need_part (T : Tr H t rd hl ra seats stops coming rides g) {ta : Addr} {ah : List Part} {p : Part} (ha : H ta = some (.lst (ah.map partMV))) (p0 : 0 ≤ p.1) (p1 : 0 ≤ p.2.1) (hok : ∀ H', partBad g seats stops ah p = "" → Ext H H' → Q .none H')
    (hbad : ∀ w H', partBad g seats stops ah p = w → w ≠ "" → Ext H H' → X (clsOf w) H') : callW theP (n + 3) false "need_part" [.ref t, .ref ta, partMV p] H Q X := by
  have a1 := T.at_
  refine call_of (d := f_need_part) rfl rfl ?_
  refine s_unpack3 (Ev.var rfl) (s_let (w_meth (by array_get_dec) a1 rfl Evs.nil (s_sizeT T ?_)))
  by_cases h1 : ¬ p.1 < seats
  · refine s_iteT (Ev.not (b := false) (Ev.chain Ev.int (EvC.t (by array_get_dec) (le_b (decide_eq_true p0)) (EvC.one (by array_get_dec) (lt_b (decide_eq_false h1)))))) (s_raise (hbad "seat" _ ?_ (by decide) (.refl _)))
    unfold partBad; rw [if_pos (by (first | lia | omega))]
  have h1 := Decidable.not_not.mp h1
  refine s_skip (Ev.not (b := true) (Ev.chain Ev.int (EvC.t (by array_get_dec) (le_b (decide_eq_true p0)) (EvC.one (by array_get_dec) (lt_b (decide_eq_true h1)))))) ?_
  have h1' : ¬ seats ≤ p.1 := by (first | lia | omega)
  by_cases h2 : ¬ (p.2.1 < p.2.2 ∧ p.2.2 < stops)
  · refine s_iteT (Ev.not (b := false) ?_) (s_raise (hbad "stretch" _ ?_ (by decide) (.refl _)))
    · by_cases h3 : p.2.1 < p.2.2
      · exact Ev.chain Ev.int (EvC.t (by array_get_dec) (le_b (decide_eq_true p1)) (EvC.t (by array_get_dec) (lt_b (decide_eq_true h3)) (EvC.one (by array_get_dec) (lt_b (decide_eq_false fun z => h2 ⟨h3, z⟩)))))
      · exact Ev.chain Ev.int (EvC.t (by array_get_dec) (le_b (decide_eq_true p1)) (EvC.f (by array_get_dec) (lt_b (decide_eq_false h3))))
    · unfold partBad; rw [if_neg h1', if_pos (by (first | lia | omega))]
  have h2 := Decidable.not_not.mp h2
  refine s_skip (Ev.not (b := true) (Ev.chain Ev.int (EvC.t (by array_get_dec) (le_b (decide_eq_true p1)) (EvC.t (by array_get_dec) (lt_b (decide_eq_true h2.1)) (EvC.one (by array_get_dec) (lt_b (decide_eq_true h2.2))))))) ?_
  have h2' : ¬ (p.2.2 ≤ p.2.1 ∨ stops - 1 < p.2.2) := by (first | lia | omega)
  refine s_itew (w_and2 (w_cmpL (by array_get_dec) (w_list Evs.nil fun c hc => ⟨_, ne_nil (Ext.new _ hc _ _ ha) (MH.set_selfE _ _ _), ?_⟩)))
  have E1 := Ext.new (H := H) (.lst []) hc
  generalize H.set c (.lst []) = H1 at E1
  have ha1 := E1 _ _ ha
  have T1 := T.ext E1
  have rest : behind ah p = true → ∀ ρ : Sto, ρ "train" = some (.ref t) → ρ "seat" = some (.int p.1) → ρ "begin" = some (.int p.2.1) → ρ "end" = some (.int p.2.2) → wSs (callW theP (n + 2)) false (.cons (.for_ "leg" (.bi "range" (.cons (.var "begin") (.cons (.var "end") .nil)))
      (.cons (.ite (.cmp (.meth (.var "train") "holder" (.cons (.var "seat") (.cons (.var "leg") .nil))) (.cons .isnot .none .nil)) (.cons (.raise "Shared" "the seat is held") .nil) .nil) .nil)) .nil) ρ H1 (fun _ H' => Q .none H') Q (fun c _ H' => X c H') := fun hb ρ r1 r2 r3 r4 => by
    have hb' : ¬ behind ah p = false := by rw [hb]; exact Bool.noConfusion
    have sm := T.hstops
    refine s_range (fun i ρ H' => H' = H1 ∧ ρ "train" = some (.ref t) ∧ ρ "seat" = some (.int p.1) ∧ ∀ l, p.2.1 ≤ l → l < i → g p.1 l = none) (Ev.range2 (Ev.var r3) (Ev.var r4) (smallOf p1 (by (first | lia | omega))) (smallOf (by (first | lia | omega)) (by (first | lia | omega)))) ⟨rfl, r1, r2, fun l a b => absurd (Int.lt_of_le_of_lt a b) (Int.lt_irrefl _)⟩ ?_ ?_
    · rintro i ρ H' k i0 i1 ⟨rfl, q1, q2, q3⟩ hk
      refine s_itew ?_
      refine w_meth (by array_get_dec) T1.at_ rfl (by array_get_dec) (s_holderT T1 p0 h1 (by (first | lia | omega)) (by (first | lia | omega)) ⟨_, .isnotN, ?_⟩)
      cases hg : g p.1 i with
      | none => exact it_f rfl (s_done (s_done (hk _ _ ⟨rfl, by sizeOf_list_dec, by sizeOf_list_dec, fun l a b => if z : l = i then z ▸ hg else q3 l a (by (first | lia | omega))⟩)))
      | some u =>
        refine it_t rfl (s_raise (hbad "shared" _ ?_ (by decide) E1))
        unfold partBad; rw [if_neg h1', if_neg h2', if_neg hb', if_pos (Bool.eq_false_iff.mpr fun z => ?_)]
        have := free_at.mp z i i0 i1
        rw [this] at hg; cases hg
    · rintro i ρ H' hi ⟨rfl, q1, q2, q3⟩
      refine s_done (hok _ ?_ E1)
      unfold partBad; rw [if_neg h1', if_neg h2', if_neg hb', if_neg (by rw [free_at.mpr fun l a b => q3 l a (by (first | lia | omega))]; exact Bool.noConfusion)]
  cases hq : ah.getLast? with
  | none =>
    have e : ah = [] := List.getLast?_eq_none_iff.mp hq
    subst e
    refine it_f rfl (it_f rfl (s_done (rest rfl _ ?_ ?_ ?_ ?_))) <;> sizeOf_list_dec
  | some q =>
    have e : ah.isEmpty = false := by cases ah with | nil => cases hq | cons => rfl
    rw [e]
    have hl := last_at hq
    have hbe : behind ah p = (decide (q.2.2 = p.2.1) && !decide (q.1 = p.1)) := by unfold behind; rw [hq]; rfl
    refine it_t rfl (w_ev (Ev.or (EvO.any (Ev.cmp (Ev.itemT (Ev.item (by array_get_dec) (Ev.neg Ev.int) ha1 hl) Ev.int rfl) (by array_get_dec) .nei) (EvO.one (Ev.cmp (Ev.itemT (Ev.item (by array_get_dec) (Ev.neg Ev.int) ha1 hl) Ev.int rfl) (by array_get_dec) .eqi)))) ?_)
    cases hb : behind ah p with
    | true =>
      rw [hb] at hbe
      obtain ⟨b1, b2⟩ := Bool.and_eq_true_iff.mp hbe.symm
      rw [Bool.not_eq_true'] at b2
      refine it_f (by rw [b1, b2]; rfl) (s_done (rest hb _ ?_ ?_ ?_ ?_)) <;> sizeOf_list_dec
    | false =>
      rw [hb] at hbe
      refine it_t ?_ (s_raise (hbad "stretch" _ ?_ (by decide) E1))
      · cases b1 : decide (q.2.2 = p.2.1) with
        | false => rfl
        | true =>
          rw [b1, Bool.true_and] at hbe
          have hbe := hbe.symm
          rw [Bool.not_eq_false'] at hbe
          rw [hbe]; rfl
      · unfold partBad; rw [if_neg h1', if_neg h2', if_pos hb]
end
end Mine
end
section
set_option autoImplicit false
set_option linter.unusedVariables false
namespace Mine
open PySem
section
variable {n : Nat} {hd : Bool} {H H' : MH} {Q : MV → MH → Prop} {X : String → MH → Prop} {t rd hl : Addr} {ra : Int → Addr} {seats stops coming : Int} {rides : List (Int × MV)} {g : Grid}
theorem w_get {Δ : CallT} {ρ : Sto} {e x d : ME} {a : Addr} {es : List (Int × MV)} {k : Int} {Y : String → MH → Prop} (he : Ev Δ hd e ρ H (.ref a)) (ha : H a = some (.dct es)) (hx : Ev Δ hd x ρ H (.int k)) (h : wE Δ hd d ρ H (fun v H₁ => H₁ a = some (.dct es) ∧ Q ((dGet es k).getD v) H₁) Y) (hm : ∀ (P P' : MV → MH → Prop), (∀ v H, P v H → P' v H) → wE Δ hd d ρ H P Y → wE Δ hd d ρ H P' Y) : wE Δ hd (.bm e "get" (.cons x (.cons d .nil))) ρ H Q Y :=
  he _ _ ⟨0, .dct ha rfl, hx _ _ (hm _ _ (fun v H₁ z => ⟨.dct z.1 rfl, .get z.1 z.2⟩) h)⟩
theorem w_methw {Δ : CallT} {ρ : Sto} {e : ME} {m : String} {es : MEs} {a : Addr} {fs : List (String × MV)} {Y : String → MH → Prop} (he : Ev Δ hd e ρ H (.ref a)) (ha : H a = some (.inst fs)) (hm : fsGet fs m = none) (h : wEs Δ hd es ρ H (fun vs H₂ => Δ hd m (.ref a :: vs) H₂ Q Y) Y) : wE Δ hd (.meth e m es) ρ H Q Y :=
  he _ _ ⟨a, fs, rfl, ha, hm, h⟩
theorem s_hold (T : Tr H t rd hl ra seats stops coming rides g) (hr : rides.length < 1000000) {k : Int} {ah : List Part} {p : Part} (hx : (dGet rides k = none ∧ ah = []) ∨ ∃ c, dGet rides k = some (.ref c) ∧ H c = some (.lst (ah.map partMV))) (hal : ah.length ≤ 1000000) (hp : PartsIn seats stops [p])
    (h : ∀ c H', H c = none → Frm (Own t rd hl ra seats) H H' → H' c = some (.lst ((ah ++ [p]).map partMV)) → Tr H' t rd hl ra seats stops coming (dSet rides k (.ref c)) (markP g p (some k)) → Q .none H') : callW theP (n + 2) false "hold" [.ref t, .int k, partMV p] H Q X := by
  refine call_of (d := f_Train_hold) rfl rfl ?_
  have a1 := T.at_
  refine s_setIdxw (w_bin (w_get (Ev.attr (by array_get_dec) a1 rfl) T.rd_ (by array_get_dec) (w_list Evs.nil fun c0 hc0 => ?_) fun P P' hPP z c hc => hPP _ _ (z c hc)))
  have E0 := Ext.new (H := H) (.lst []) hc0
  have h0 : (H.set c0 (.lst [])) c0 = some (.lst []) := MH.set_selfE _ _ _
  refine ⟨E0 _ _ T.rd_, ?_⟩
  generalize H.set c0 (.lst []) = H0 at E0 h0
  obtain ⟨x, ex, hx'⟩ : ∃ x, (dGet rides k).getD (.ref c0) = .ref x ∧ H0 x = some (.lst (ah.map partMV)) := by
    rcases hx with ⟨e1, rfl⟩ | ⟨c, e1, e2⟩
    · exact ⟨c0, by rw [e1]; rfl, h0⟩
    · exact ⟨c, by rw [e1]; rfl, E0 _ _ e2⟩
  rw [ex]
  refine w_list (Evs.cons (by array_get_dec) Evs.nil) fun c1 hc1 => ?_
  have E1 := Ext.new (H := H0) (.lst [partMV p]) hc1
  have h1 : (H0.set c1 (.lst [partMV p])) c1 = some (.lst [partMV p]) := MH.set_selfE _ _ _
  generalize H0.set c1 (.lst [partMV p]) = H1 at E1 h1
  refine .app (E1 _ _ hx') h1 (by rw [List.length_map, List.length_cons, List.length_nil]; unfold bigList; (first | lia | omega)) fun c2 hc2 => ?_
  have E01 := E0.trans E1
  have hc2' := none_of_ext E01 hc2
  have E2 := E01.trans (Ext.new (H := H1) (.lst (ah.map partMV ++ [partMV p])) hc2)
  have h2 : (H1.set c2 (.lst (ah.map partMV ++ [partMV p]))) c2 = some (.lst ((ah ++ [p]).map partMV)) := by rw [MH.set_selfE, List.map_append]; rfl
  generalize H1.set c2 (.lst (ah.map partMV ++ [partMV p])) = H2 at E2 h2
  have T2 := T.ext E2
  have hno := T.not_own hc2'
  have T3 := T2.setRides (dSet rides k (.ref c2))
  refine w_ev (v := .ref rd) (Ev.attr (by array_get_dec) T2.at_ rfl) (w_ev (v := .int k) (by array_get_dec) (.dct T2.rd_ (by unfold bigList; (first | lia | omega)) ?_))
  have f3 : Frm (Own t rd hl ra seats) H (H2.set rd (.dct (dSet rides k (.ref c2)))) := E2.frm.trans (frm_set (.inr (.inl rfl)))
  have h3 : (H2.set rd (.dct (dSet rides k (.ref c2)))) c2 = some (.lst ((ah ++ [p]).map partMV)) := frm_set (own := Own t rd hl ra seats) (.inr (.inl rfl)) _ _ hno h2
  generalize H2.set rd (.dct (dSet rides k (.ref c2))) = H3 at T3 f3 h3
  refine s_expr (w_methw (by array_get_dec) T3.at_ rfl (w_cons (w_list (Evs.cons (by array_get_dec) Evs.nil) fun c4 hc4 => w_evs (vs := [mvo (some k)]) (Evs.cons (Ev.var (by sizeOf_list_dec)) Evs.nil) ?_)))
  have E4 := Ext.new (H := H3) (.lst [partMV p]) hc4
  have T4 := T3.ext E4
  refine s_mark T4 (ps := [p]) (kv := some k) (MH.set_selfE _ _ _) (T3.not_own hc4) hp fun H5 T5 f5 => ?_
  exact s_done (h c2 H5 hc2' ((f3.trans E4.frm).trans f5.cel) (f5.cel _ _ hno (E4 _ _ h3)) T5)
end
end Mine
end
section
set_option autoImplicit false
set_option linter.unusedVariables false
namespace Mine
open PySem
/-! a ticket's row -/
noncomputable def trip : List Int → List Part
  | a :: b :: c :: r => (a, b, c) :: trip r
  | _ => []
noncomputable def seatT (seats stops k : Int) (ps : List Part) : Grid → List Part → Except String (Grid × List Part) := match ps with
  | [] => fun g ah => .ok (g, ah)
  | p :: ps => fun g ah => if partBad g seats stops ah p = "" then seatT seats stops k ps (markP g p (some k)) (ah ++ [p]) else .error (partBad g seats stops ah p)
theorem bad_in {g : Grid} {seats stops : Int} {ah : List Part} {p : Part} (h : partBad g seats stops ah p = "") : p.1 < seats ∧ p.2.1 < p.2.2 ∧ p.2.2 ≤ stops - 1 ∧ behind ah p = true ∧ freeB g p.1 p.2.1 p.2.2 = true := by
  unfold partBad at h
  split at h
  · exact absurd h (by decide)
  split at h
  · exact absurd h (by decide)
  split at h
  · exact absurd h (by decide)
  split at h
  · exact absurd h (by decide)
  rename_i h1 h2 h3 h4
  refine ⟨by (first | lia | omega), by (first | lia | omega), by (first | lia | omega), ?_, ?_⟩
  · cases hb : behind ah p with | true => rfl | false => exact absurd hb h3
  · cases hb : freeB g p.1 p.2.1 p.2.2 with | true => rfl | false => exact absurd hb h4
theorem d_none {es : List (Int × MV)} {k : Int} (h : dGet es k = none) : ∀ e ∈ es, e.1 ≠ k := by
  induction es with
  | nil => exact fun _ h => by cases h
  | cons x es ih =>
    have h' : (if k = x.1 then some x.2 else dGet es k) = none := h
    split at h'
    · cases h'
    · rename_i q
      intro e he
      cases he with
      | head => exact fun z => q z.symm
      | tail _ he => exact ih h' e he
theorem d_any {es : List (Int × MV)} {k : Int} (h : dGet es k = none) : (es.any fun e => decide (e.1 = k)) = false := by
  rw [List.any_eq_false]
  exact fun e he z => d_none h e he (of_decide_eq_true z)
theorem d_new {es : List (Int × MV)} {k : Int} {v : MV} (h : dGet es k = none) : dSet es k v = es ++ [(k, v)] := by
  unfold dSet; rw [d_any h]; rfl
theorem d_again {es : List (Int × MV)} {k : Int} {v u : MV} (h : dGet es k = none) : dSet (es ++ [(k, v)]) k u = es ++ [(k, u)] := by
  unfold dSet
  rw [if_pos (by rw [List.any_append]; simp), List.map_append]
  have : es.map (fun e => if e.1 = k then (e.1, u) else e) = es := by
    refine (List.map_congr_left fun e he => if_neg (d_none h e he)).trans (List.map_id _)
  rw [this]; simp
theorem d_got {es : List (Int × MV)} {k : Int} {v : MV} (h : dGet es k = none) : dGet (es ++ [(k, v)]) k = some v := by
  induction es with
  | nil => exact if_pos rfl
  | cons x es ih =>
    have h' : (if k = x.1 then some x.2 else dGet es k) = none := h
    split at h'
    · cases h'
    · rename_i q; exact (if_neg q).trans (ih h')
section
variable {n : Nat} {hd : Bool} {H H' : MH} {Q : MV → MH → Prop} {X : String → MH → Prop} {t rd hl : Addr} {ra : Int → Addr} {seats stops coming : Int} {rides : List (Int × MV)} {g : Grid}
/-- a train with a ticket that is being seated -/
noncomputable def Seating (H : MH) (t rd hl : Addr) (ra : Int → Addr) (seats stops coming : Int) (rides : List (Int × MV)) (g : Grid) (k : Int) (ah : List Part) (ta : Addr) : Prop :=
  (ah = [] ∧ Tr H t rd hl ra seats stops coming rides g) ∨ ∃ c, Tr H t rd hl ra seats stops coming (rides ++ [(k, .ref c)]) g ∧ H c = some (.lst (ah.map partMV)) ∧ ¬ Own t rd hl ra seats c ∧ c ≠ ta
theorem Seating.tr {k : Int} {ah : List Part} {ta : Addr} (h : Seating H t rd hl ra seats stops coming rides g k ah ta) : ∃ r, Tr H t rd hl ra seats stops coming r g := h.elim (fun z => ⟨_, z.2⟩) fun z => z.elim fun c y => ⟨_, y.1⟩
theorem Seating.ext {k : Int} {ah : List Part} {ta : Addr} (h : Seating H t rd hl ra seats stops coming rides g k ah ta) (e : Ext H H') : Seating H' t rd hl ra seats stops coming rides g k ah ta := h.imp (fun z => ⟨z.1, z.2.ext e⟩) fun z => z.imp fun c y => ⟨y.1.ext e, e _ _ y.2.1, y.2.2⟩
theorem Seating.setA {k : Int} {ah : List Part} {ta : Addr} {o : MObj} (h : Seating H t rd hl ra seats stops coming rides g k ah ta) (hn : ¬ Own t rd hl ra seats ta) : Seating (H.set ta o) t rd hl ra seats stops coming rides g k ah ta :=
  have kp : ∀ a o', Own t rd hl ra seats a → H a = some o' → (H.set ta o) a = some o' := fun a o' ho e => (MH.set_neE _ _ fun (z : a = ta) => hn (z ▸ ho)).trans e
  h.imp (fun z => ⟨z.1, z.2.keep kp⟩) fun z => z.imp fun c y => ⟨y.1.keep kp, (MH.set_neE _ _ y.2.2.2).trans y.2.1, y.2.2⟩
noncomputable def At3 (L : Nat) (i : Int) (al : Nat) : Prop := 1 ≤ i ∧ i ≤ L + 1 ∧ ((L : Int) + 1 - i) % 3 = 0 ∧ (al : Int) ≤ i
theorem at3_one {L : Nat} (h : L % 3 = 0) : At3 L 1 0 := by unfold At3; (first | lia | omega)
theorem at3_next {L al : Nat} {i : Int} (h : At3 L i al) (hi : i < ((L + 1 : Nat) : Int)) (hl : L ≤ 900000) : At3 L (i + 3) (al + 1) ∧ i + 3 ≤ ((L + 1 : Nat) : Int) ∧ 0 ≤ i ∧ al ≤ 1000000 := by unfold At3 at *; omega
theorem at3_end {L al : Nat} {i : Int} (h : At3 L i al) (hi : ¬ i < ((L + 1 : Nat) : Int)) : i.toNat = L + 1 := by unfold At3 at h; omega
theorem small_len {L : Nat} (h : L ≤ 900000) : smallI ((L + 1 : Nat) : Int) := smallOf (by (first | lia | omega)) (by (first | lia | omega))
theorem at_int {ns : List Int} {j : Nat} (h : j < ns.length) : atIdx (ns.map MV.int) (j : Int) = some (.int ns[j]) := atIdx_nn (Int.natCast_nonneg _) (by rw [Int.toNat_natCast, List.getElem?_map, List.getElem?_eq_getElem h]; rfl)
theorem drop3 {ns : List Int} {i : Int} (h0 : 0 ≤ i) (h1 : i + 3 ≤ ns.length) : ∃ a b c, ns.drop i.toNat = a :: b :: c :: ns.drop (i + 3).toNat ∧ atIdx (ns.map MV.int) i = some (.int a) ∧ atIdx (ns.map MV.int) (i + 1) = some (.int b) ∧ atIdx (ns.map MV.int) (i + 2) = some (.int c) ∧ a ∈ ns ∧ b ∈ ns := by
  obtain ⟨m, rfl⟩ := Int.eq_ofNat_of_zero_le h0
  have l2 : m + 2 < ns.length := Int.ofNat_le.mp h1
  have l1 : m + 1 < ns.length := Nat.lt_of_succ_lt l2
  have l0 : m < ns.length := Nat.lt_of_succ_lt l1
  refine ⟨ns[m], ns[m + 1], ns[m + 2], ?_, at_int l0, at_int (j := m + 1) l1, at_int (j := m + 2) l2, List.getElem_mem _, List.getElem_mem _⟩
  show ns.drop m = ns[m] :: ns[m + 1] :: ns[m + 2] :: ns.drop (m + 1 + 1 + 1)
  rw [← List.drop_eq_getElem_cons, ← List.drop_eq_getElem_cons, ← List.drop_eq_getElem_cons]
inductive TickI (H : MH) (t rd hl na ta : Addr) (ra : Int → Addr) (seats stops coming k : Int) (rides : List (Int × MV)) (g : Grid) (ns : List Int) (vs : List MV) (ρ : Sto) (H' : MH) : Prop
  | mk (i : Int) (ah : List Part) (g' : Grid) (ev : vs = (rangeL i ((ns.length + 1 : Nat) : Int) 3).map .int) (A : At3 ns.length i ah.length) (r1 : ρ "train" = some (.ref t)) (r2 : ρ "numbers" = some (.ref na)) (r3 : ρ "told" = some (.ref ta)) (h : H' ta = some (.lst (ah.map partMV))) (S : Seating H' t rd hl ra seats stops coming rides g' k ah ta) (f : Frm (Own t rd hl ra seats) H H') (es : seatT seats stops k (trip ((k :: ns).drop i.toNat)) g' ah = seatT seats stops k (trip ns) g [])
theorem s_seat_ticket (T : Tr H t rd hl ra seats stops coming rides g) (hr : rides.length < 900000) {na : Addr} {k : Int} {ns : List Int} (hna : H na = some (.lst ((k :: ns).map .int))) (hno : ¬ Own t rd hl ra seats na) (hk : dGet rides k = none) (h3 : ns.length % 3 = 0) (hl0 : ns.length ≤ 900000) (hpos : ∀ i ∈ k :: ns, 0 ≤ i)
    (hok : ∀ g' ps ta H', seatT seats stops k (trip ns) g [] = .ok (g', ps) → Seating H' t rd hl ra seats stops coming rides g' k ps ta → Frm (Own t rd hl ra seats) H H' → Q .none H')
    (hbad : ∀ w H', seatT seats stops k (trip ns) g [] = .error w → Frm (Own t rd hl ra seats) H H' → X (clsOf w) H') : callW theP (n + 4) false "seat_ticket" [.ref t, .ref na] H Q X := by
  refine call_of (d := f_seat_ticket) rfl rfl ?_
  refine s_let (w_list Evs.nil fun ta hta => ?_)
  have E1 := Ext.new (H := H) (.lst []) hta
  have hnt := T.not_own hta
  have h1 : (H.set ta (.lst [])) ta = some (.lst []) := MH.set_selfE _ _ _
  generalize H.set ta (.lst []) = H1 at E1 h1
  have hlen : ((k :: ns).map MV.int).length = ns.length + 1 := by rw [List.length_map]; rfl
  refine ⟨rfl, Ev.range3 Ev.int (Ev.lenL (by array_get_dec) (E1 _ _ hna)) Ev.int (smallOf (by decide) (by decide)) (by rw [hlen]; exact small_len hl0) (smallOf (by decide) (by decide)) (by decide) _ _ ⟨_, .rng, ?_⟩⟩
  rw [hlen]
  refine for_inv (TickI H t rd hl na ta ra seats stops coming k rides g ns)
    (fun vs ρ H i => .rng) ?_ ?_ ⟨1, [], g, rfl, at3_one h3, by sizeOf_list_dec, by sizeOf_list_dec, by sizeOf_list_dec, h1, .inl ⟨rfl, T.ext E1⟩, E1.frm, rfl⟩
  · rintro v vs ρ H2 kk ⟨i, ah, g2, ev, A, r1, r2, r3, ht2, S2, f2, es⟩ hkk
    by_cases hi : ¬ i < ((ns.length + 1 : Nat) : Int)
    · rw [rangeL_nil (by decide) (Int.not_lt.mp hi)] at ev; cases ev
    have hi := Decidable.not_not.mp hi
    rw [rangeL_cons (by decide) hi, List.map_cons] at ev
    obtain ⟨rfl, rfl⟩ := List.cons.inj ev
    obtain ⟨A2, i4, i0, al⟩ := at3_next A hi hl0
    obtain ⟨a, b, c, ed, x1, x2, x3, ma, mb⟩ := drop3 (ns := k :: ns) i0 i4
    have hna2 := f2 na _ hno hna
    rw [ed] at es
    have es : (if partBad g2 seats stops ah (a, b, c) = "" then seatT seats stops k (trip ((k :: ns).drop (i + 3).toNat)) (markP g2 (a, b, c) (some k)) (ah ++ [(a, b, c)]) else .error (partBad g2 seats stops ah (a, b, c))) = seatT seats stops k (trip ns) g [] := es
    refine s_assign (v := partMV (a, b, c)) (Ev.tup (Evs.cons (Ev.item (by array_get_dec) (by array_get_dec) hna2 x1) (Evs.cons (Ev.item (by array_get_dec) (by array_get_dec) hna2 x2) (Evs.cons (Ev.item (by array_get_dec) (by array_get_dec) hna2 x3) Evs.nil)))) ?_
    obtain ⟨r, T2⟩ := S2.tr
    refine s_expr (w_call (vs := [.ref t, .ref ta, partMV (a, b, c)]) (by array_get_dec) (s_need_part T2 ht2 (hpos a ma) (hpos b mb) (fun H3 hb E3 => ?_) fun w H3 hw hne E3 => hbad w H3 (by rw [← es, hw]; exact if_neg hne) (f2.trans E3.frm)))
    rw [if_pos hb] at es
    obtain ⟨q1, q2, q3, _⟩ := bad_in hb
    have S3 := S2.ext E3
    have ht3 := E3 _ _ ht2
    have f3 := f2.trans E3.frm
    have T3 := T2.ext E3
    have hp : PartsIn seats stops [(a, b, c)] := fun p hp => by rw [List.mem_singleton.mp hp]; exact ⟨hpos a ma, q1, hpos b mb, Int.le_of_lt q2, q3⟩
    have hold : ∀ (Q' : MV → MH → Prop) (X' : String → MH → Prop), (∀ c4 H4, H3 c4 = none → Frm (Own t rd hl ra seats) H3 H4 → H4 c4 = some (.lst ((ah ++ [(a, b, c)]).map partMV)) → Tr H4 t rd hl ra seats stops coming (rides ++ [(k, .ref c4)]) (markP g2 (a, b, c) (some k)) → Q' .none H4) → callW theP (n + 3) false "hold" [.ref t, .int k, partMV (a, b, c)] H3 Q' X' := fun Q' X' hq => by
      rcases S3 with ⟨e, T3⟩ | ⟨c', T3, hc', _⟩
      · exact s_hold T3 (Nat.lt_trans hr (by decide)) (.inl ⟨hk, e⟩) al hp fun c4 H4 n4 f4 h4 T4 => hq c4 H4 n4 f4 h4 (d_new (v := .ref c4) hk ▸ T4)
      · exact s_hold T3 (by rw [List.length_append]; exact Nat.lt_of_le_of_lt (Nat.succ_le_of_lt hr) (by decide)) (.inr ⟨c', d_got hk, hc'⟩) al hp fun c4 H4 n4 f4 h4 T4 => hq c4 H4 n4 f4 h4 (d_again (u := .ref c4) hk ▸ T4)
    refine s_expr (w_meth (vs := [.int k, partMV (a, b, c)]) (by array_get_dec) T3.at_ rfl (Evs.cons (Ev.item (by array_get_dec) Ev.int (E3 _ _ hna2) rfl) (by array_get_dec)) (hold _ _ fun c4 H4 n4 f4 h4 T4 => ?_))
    have ht4 := f4 _ _ hnt ht3
    refine s_expr (w_append (by array_get_dec) ht4 (by array_get_dec) (by rw [List.length_map]; exact Nat.lt_of_le_of_lt al (by decide)) (s_done (hkk _ _ ⟨i + 3, ah ++ [(a, b, c)], _, rfl, by rw [List.length_append]; exact A2, by sizeOf_list_dec, by sizeOf_list_dec, by sizeOf_list_dec, by rw [MH.set_selfE, List.map_append]; rfl, ?_, ?_, es⟩)))
    · have c4t : c4 ≠ ta := fun z => by rw [z] at n4; rw [n4] at ht3; cases ht3
      exact Seating.setA (.inr ⟨c4, T4, h4, T3.not_own n4, c4t⟩) hnt
    · exact fun x o hx e => (MH.set_neE _ _ (mne hta e)).trans ((f3.trans f4) x o hx e)
  · rintro ρ H2 ⟨i, ah, g2, ev, A, r1, r2, r3, ht2, S2, f2, es⟩
    have hi : ¬ i < ((ns.length + 1 : Nat) : Int) := fun z => by rw [rangeL_cons (by decide) z] at ev; cases ev
    have e : i.toNat = (k :: ns).length := at3_end A hi
    rw [e, List.drop_of_length_le (Nat.le_refl _)] at es
    exact s_done (hok g2 ah ta H2 es.symm S2 f2)
end
end Mine
end
section
set_option autoImplicit false
set_option linter.unusedVariables false
namespace Mine
open PySem
/-! the whole text -/
noncomputable def okRow (ns : List Int) : Bool := decide (4 ≤ ns.length) && decide (ns.length % 3 = 1)
noncomputable def rowT (line : Str) : Option (List Int) := (numsIn line (Str.ofString "ticket")).bind fun ns => if okRow ns = true then some ns else none
noncomputable def headT (line : Str) : Option (List Int) := (numsIn line (Str.ofString "train")).bind fun ns => if ns.length = 3 then some ns else none
noncomputable def parse (text : Str) : Option (List Int × List (List Int)) := match Txt.split text nl with
  | [] => none
  | l :: ls => (headT l).bind fun h => (mapO rowT ls).map fun rs => (h, rs)
noncomputable def lookT (seats stops limit : Int) (rows : List (List Int)) : Grid → Int → Rides → Except String (Grid × Rides) := match rows with
  | [] => fun g _ R => .ok (g, R)
  | ns :: rest => fun g least R => if ns.headD 0 < least ∨ limit ≤ ns.headD 0 then .error "ticket" else match seatT seats stops (ns.headD 0) (trip ns.tail) g [] with
    | .error w => .error w
    | .ok (g', ps) => lookT seats stops limit rest g' (ns.headD 0 + 1) (R ++ [(ns.headD 0, ps)])
/-- what a text says: a word for what is wrong, or the head, the rows, the grid and the rides -/
noncomputable def readR (text : Str) : Except String ((Int × Int × Int) × List (List Int) × Grid × Rides) := match parse text with
  | none => .error "text"
  | some (h, rows) => match h with
    | [a, b, c] => if 1 ≤ a ∧ a ≤ 60 ∧ 2 ≤ b ∧ b ≤ 60 then (match lookT a b c rows (fun _ _ => none) 0 [] with
        | .error w => .error w
        | .ok (g, R) => .ok ((a, b, c), rows, g, R)) else .error "train"
    | _ => .error "text"
section
variable {n : Nat} {hd : Bool} {H H' : MH} {Q : MV → MH → Prop} {X : String → MH → Prop}
theorem init_bad {a : Addr} {seats stops : Int} (hb : ¬ (1 ≤ seats ∧ seats ≤ 60 ∧ 2 ≤ stops ∧ stops ≤ 60)) (h : X "NoTrain" H) : callW theP (n + 1) false "__init__" [.ref a, .int seats, .int stops] H Q X := by
  refine call_of (d := f_Train_init) rfl rfl ?_
  have o1 : ∀ {lo v : Int} {e : ME} {ρ : Sto}, Ev (callW theP n) false e ρ H (.int v) → Ev (callW theP n) false (.not (.cmp (.int lo) (.cons .le e (.cons .le (.gconst "MOST" (.int 60)) .nil)))) ρ H (.bool (!(decide (lo ≤ v) && decide (v ≤ 60)))) := fun he => Ev.not (Ev.chain Ev.int (EvC.any he .le (EvC.one Ev.gconst .le)))
  refine s_ite (c := (!(decide (1 ≤ seats) && decide (seats ≤ 60))) || (!(decide (2 ≤ stops) && decide (stops ≤ 60)))) (Ev.or (EvO.any (o1 (by array_get_dec)) (EvO.one (o1 (by array_get_dec))))) (fun _ => s_raise h) fun q => absurd ?_ hb
  simp only [Bool.or_eq_false_iff, Bool.not_eq_false', Bool.and_eq_true, decide_eq_true_eq] at q
  exact ⟨q.1.1, q.1.2, q.2.1, q.2.2⟩
theorem mapO_len {α β : Type} {f : α → Option β} {l : List α} : ∀ {us : List β}, mapO f l = some us → us.length = l.length ∧ ∀ u ∈ us, ∃ x ∈ l, f x = some u := by
  induction l with
  | nil => intro us h; cases h; exact ⟨rfl, fun _ z => by cases z⟩
  | cons w ws ih =>
    intro us h
    have h' : (f w).bind (fun u => (mapO f ws).map (u :: ·)) = some us := h
    cases e : f w with
    | none => rw [e] at h'; cases h'
    | some u =>
      rw [e] at h'
      cases e2 : mapO f ws with
      | none => rw [e2] at h'; cases h'
      | some vs =>
        rw [e2] at h'
        obtain rfl := Option.some.inj h'
        obtain ⟨i1, i2⟩ := ih e2
        refine ⟨by rw [List.length_cons, i1]; rfl, fun v hv => ?_⟩
        cases hv with
        | head => exact ⟨w, .head _, e⟩
        | tail _ hv => exact (i2 v hv).imp fun x z => ⟨.tail _ z.1, z.2⟩
theorem nums_in {line word : Str} {ns : List Int} (h : numsIn line word = some ns) : (∀ i ∈ ns, 0 ≤ i) ∧ ns.length ≤ line.length := by
  obtain ⟨w, ws, e⟩ := split_cons line sp
  have l1 := (split_len (x := line) sp_one).1
  unfold numsIn at h
  rw [e] at h l1
  have h : (if w = word then mapO numOf ws else none) = some ns := h
  split at h
  · obtain ⟨k1, k2⟩ := mapO_len h
    exact ⟨fun i hi => (k2 i hi).elim fun x z => num_pos z.2, by rw [List.length_cons] at l1; (first | lia | omega)⟩
  · cases h
end
end Mine
end
section
set_option autoImplicit false
set_option linter.unusedVariables false
namespace Mine
open PySem
section
variable {n : Nat} {hd : Bool} {H H' : MH} {Q : MV → MH → Prop} {X : String → MH → Prop}
theorem read_head {text l : Str} {ls : List Str} (e : Txt.split text nl = l :: ls) (h : headT l = none) : readR text = .error "text" := by
  unfold readR parse; rw [e]; dsimp only; rw [h]; rfl
theorem read_rows {text l : Str} {ls : List Str} (e : Txt.split text nl = l :: ls) (h : mapO rowT ls = none) : readR text = .error "text" := by
  unfold readR parse; rw [e]; dsimp only; rw [h]; cases headT l <;> rfl
theorem read_is {text l : Str} {ls : List Str} {a b c : Int} {rows : List (List Int)} (e : Txt.split text nl = l :: ls) (h : headT l = some [a, b, c]) (hr : mapO rowT ls = some rows) : readR text = if 1 ≤ a ∧ a ≤ 60 ∧ 2 ≤ b ∧ b ≤ 60 then (match lookT a b c rows (fun _ _ => none) 0 [] with
    | .error w => .error w
    | .ok (g, R) => .ok ((a, b, c), rows, g, R)) else .error "train" := by
  unfold readR parse; rw [e]; dsimp only; rw [h, hr]; rfl
theorem rowT_some {u : Str} {ns : List Int} (h : rowT u = some ns) : numsIn u (Str.ofString "ticket") = some ns ∧ okRow ns = true := by
  unfold rowT at h
  cases e : numsIn u (Str.ofString "ticket") with
  | none => rw [e] at h; cases h
  | some m =>
    rw [e] at h
    have h : (if okRow m = true then some m else none) = some ns := h
    split at h
    · cases h; exact ⟨rfl, ‹_›⟩
    · cases h
theorem mapO_snoc {α β : Type} {f : α → Option β} {l : List α} {us : List β} {x : α} {u : β} (h : mapO f l = some us) (hx : f x = some u) : mapO f (l ++ [x]) = some (us ++ [u]) := by
  induction l generalizing us with
  | nil => cases h; show (f x).bind _ = _; rw [hx]; rfl
  | cons y l ih =>
    have h' : (f y).bind (fun u => (mapO f l).map (u :: ·)) = some us := h
    show (f y).bind (fun u => (mapO f (l ++ [x])).map (u :: ·)) = _
    cases e : f y with
    | none => rw [e] at h'; cases h'
    | some v =>
      rw [e] at h'
      cases e2 : mapO f l with
      | none => rw [e2] at h'; cases h'
      | some vs => rw [e2] at h'; obtain rfl := Option.some.inj h'; rw [ih e2]; rfl
theorem all2_mem {α β : Type} {R T : α → β → Prop} {l : List α} {r : List β} (h : All2 R l r) (k : ∀ a b, a ∈ l → R a b → T a b) : All2 T l r := by
  induction h with
  | nil => exact .nil
  | cons h _ ih => exact .cons (k _ _ (.head _) h) (ih fun a b ha => k a b (.tail _ ha))
/-- the rows of a text are read -/
inductive RowI (H1 : MH) (c3 c4 head : Addr) (ls : List Str) (vs : List MV) (ρ : Sto) (H' : MH) : Prop
  | mk (pre rest : List Str) (as : List Addr) (nss : List (List Int)) (e : ls = pre ++ rest) (ev : vs = rest.map MV.str) (em : mapO rowT pre = some nss) (h4 : H' c4 = some (.lst (ls.map MV.str))) (h3 : H' c3 = some (.lst (as.map .ref))) (qa : All2 (fun a ns => H' a = some (.lst (ns.map .int))) as nss) (qn : ∀ a ∈ as, H1 a = none ∧ a ≠ c3) (p1 : ρ "head" = some (.ref head)) (p2 : ρ "rows" = some (.ref c3)) (E : Ext H1 H')
theorem rows_loop {m : Nat} {ls : List Str} {c3 : Addr} {ss : MSs} {ρ₀ : Sto} {H1 : MH} {lines head : Addr} {l : Str} {is : List Int} {N : Sto → MH → Prop} {R : MV → MH → Prop} {Y : String → Sto → MH → Prop}
    (hlen : ∀ u ∈ ls, u.length ≤ 800000) (hc : ls.length ≤ 900000) (hls : H1 lines = some (.lst (.str l :: ls.map .str))) (hh : H1 head = some (.lst (is.map .int))) (hc3 : H1 c3 = none) (r1 : ρ₀ "lines" = some (.ref lines)) (r2 : ρ₀ "head" = some (.ref head)) (r3 : ρ₀ "rows" = some (.ref c3))
    (hbad : ∀ ρ H', mapO rowT ls = none → Ext H1 H' → Y "NoText" ρ H')
    (hok : ∀ ρ H' as nss, mapO rowT ls = some nss → Ext H1 H' → H' c3 = some (.lst (as.map .ref)) → All2 (fun a ns => H' a = some (.lst (ns.map .int))) as nss → (∀ a ∈ as, H1 a = none) → ρ "head" = some (.ref head) → ρ "rows" = some (.ref c3) → wSs (callW theP (m + 2)) false ss ρ H' N R Y) :
    wSs (callW theP (m + 2)) false (.cons (.for_ "line" (.slice (.var "lines") (.int 1) .none)
      (.cons (.assign "numbers" (.call "numbers_of" (.cons (.var "line") (.cons (.str "ticket") .nil))))
      (.cons (.ite (.or (.cons (.cmp (.bi "len" (.cons (.var "numbers") .nil)) (.cons .lt (.int 4) .nil)) (.cons (.cmp (.bin .mod (.bi "len" (.cons (.var "numbers") .nil)) (.int 3)) (.cons .ne (.int 1) .nil)) .nil)))
      (.cons (.raise "NoText" "no ticket's row") .nil) .nil)
      (.cons (.expr (.bm (.var "rows") "append" (.cons (.var "numbers") .nil))) .nil)))) ss) ρ₀ (H1.set c3 (.lst [])) N R Y := by
  have E3 := Ext.new (H := H1) (.lst []) hc3
  have h3 : (H1.set c3 (.lst [])) c3 = some (.lst []) := MH.set_selfE _ _ _
  generalize H1.set c3 (.lst []) = H3 at E3 h3
  refine ⟨rfl, w_slice (Ev.var r1) (.inl (E3 _ _ hls)) Ev.int Ev.none .int .none fun c4 hc4 => ?_⟩
  rw [cut_tail]
  have E4 := Ext.new (H := H3) (.lst (ls.map MV.str)) hc4
  have h4 : (H3.set c4 (.lst (ls.map MV.str))) c4 = some (.lst (ls.map MV.str)) := MH.set_selfE _ _ _
  have n43 : c4 ≠ c3 := fun z => by rw [z, h3] at hc4; cases hc4
  generalize H3.set c4 (.lst (ls.map MV.str)) = H4 at E4 h4
  refine ⟨_, .lst (.inl h4), for_inv (RowI H1 c3 c4 head ls)
    (fun vs ρ H' z => by obtain ⟨_, _, _, _, _, _, _, q, _⟩ := z; exact .lst (.inl q)) ?_ ?_ ⟨[], ls, [], [], rfl, rfl, rfl, h4, E4 _ _ h3, .nil, fun _ z => (by cases z), r2, r3, E3.trans E4⟩⟩
  · rintro v vs ρ H' k ⟨pre, rest, as, nss, e1, ev, em, q4, q3, qa, qn, p1, p2, E⟩ hk
    cases rest with
    | nil => cases ev
    | cons u rest =>
      obtain ⟨rfl, rfl⟩ := List.cons.inj ev
      have hu : u ∈ ls := by rw [e1]; exact List.mem_append.mpr (.inr (.head _))
      have none_of : rowT u = none → mapO rowT ls = none := mapO_none hu
      refine s_let (w_call (vs := [.str u, .str (Str.ofString "ticket")]) (by array_get_dec) (s_numbers_of (Nat.lt_of_le_of_lt (hlen u hu) (by decide)) (fun ns c5 H5 en hc5 E5 h5 => ?_) fun H5 en E5 => hbad _ H5 (none_of (by unfold rowT; rw [en]; rfl)) (E.trans E5)))
      have ln : ((ns.map MV.int).length : Int) = ns.length := by rw [List.length_map]
      refine s_ite (c := decide (((ns.map MV.int).length : Int) < 4) || !decide (Int.fmod ((ns.map MV.int).length : Int) 3 = 1)) (Ev.or (EvO.any (Ev.cmp (Ev.lenL (by array_get_dec) h5) Ev.int .lt) (EvO.one (Ev.cmp (Ev.mod (Ev.lenL (by array_get_dec) h5) Ev.int (by decide)) Ev.int .nei)))) (fun q => ?_) fun q => ?_
      · refine s_raise (hbad _ H5 (none_of ?_) (E.trans E5))
        unfold rowT; rw [en]
        refine if_neg fun z => ?_
        obtain ⟨z1, z2⟩ := Bool.and_eq_true_iff.mp z
        have z1 := of_decide_eq_true z1
        have z2 := of_decide_eq_true z2
        rw [ln] at q
        rcases Bool.or_eq_true_iff.mp q with q | q
        · have := of_decide_eq_true q; omega
        · rw [Bool.not_eq_true'] at q
          have := of_decide_eq_false q
          rw [Int.fmod_eq_emod_of_nonneg _ (by decide)] at this
          omega
      · obtain ⟨q1, q2⟩ := Bool.or_eq_false_iff.mp q
        rw [Bool.not_eq_false'] at q2
        have q1 := of_decide_eq_false q1
        have q2 := of_decide_eq_true q2
        rw [ln] at q1 q2
        rw [Int.fmod_eq_emod_of_nonneg _ (by decide)] at q2
        have hrow : rowT u = some ns := by
          unfold rowT; rw [en]
          exact if_pos (Bool.and_eq_true_iff.mpr ⟨decide_eq_true (by omega), decide_eq_true (by omega)⟩)
        have al : as.length ≤ ls.length := by
          have a1 := qa.length_eq
          have a2 := (mapO_len em).1
          have a3 := congrArg List.length e1
          rw [List.length_append] at a3
          omega
        have c53 : c5 ≠ c3 := fun z => by rw [z, q3] at hc5; cases hc5
        refine s_done (s_expr (w_append (by array_get_dec) (E5 _ _ q3) (by array_get_dec) (by rw [List.length_map]; unfold bigList; omega) (s_done (hk _ _ ⟨pre ++ [u], rest, as ++ [c5], nss ++ [ns], by rw [e1, List.append_assoc]; rfl, rfl, mapO_snoc em hrow, ?_, by rw [MH.set_selfE, List.map_append]; rfl, ?_, fun a ha => ?_, by sizeOf_list_dec, by sizeOf_list_dec, fun a o ea => ?_⟩))))
        · exact (MH.set_neE _ _ n43).trans (E5 _ _ q4)
        · have keep : ∀ (a : Addr) (ns : List Int), (a ≠ c3 ∧ H5 a = some (.lst (ns.map MV.int))) → (H5.set c3 (.lst (as.map MV.ref ++ [.ref c5]))) a = some (.lst (ns.map MV.int)) := fun a ns z => (MH.set_neE _ _ z.1).trans z.2
          have old : All2 (fun a ns => (H5.set c3 (.lst (as.map MV.ref ++ [.ref c5]))) a = some (.lst (ns.map MV.int))) as nss := by
            exact all2_mem qa fun a ns ha z => keep a ns ⟨(qn a ha).2, E5 _ _ z⟩
          exact old.append (.cons (keep _ _ ⟨c53, h5⟩) .nil)
        · rcases List.mem_append.mp ha with ha | ha
          · exact qn a ha
          · rw [List.mem_singleton.mp ha]; exact ⟨none_of_ext E hc5, c53⟩
        · exact (MH.set_neE _ _ (mne hc3 ea)).trans (E5 _ _ (E _ _ ea))
  · rintro ρ H' ⟨pre, rest, as, nss, e1, ev, em, q4, q3, qa, qn, p1, p2, E⟩
    have hr : rest = [] := by cases rest with | nil => rfl | cons => cases ev
    subst hr
    rw [List.append_nil] at e1
    subst e1
    exact hok ρ H' as nss em E q3 qa (fun a ha => (qn a ha).1) p1 p2
end
end Mine
end
section
set_option autoImplicit false
set_option linter.unusedVariables false
namespace Mine
open PySem
theorem seatT_parts {seats stops k : Int} {ps : List Part} : ∀ {g g' : Grid} {ah qs : List Part}, seatT seats stops k ps g ah = .ok (g', qs) → qs = ah ++ ps := by
  induction ps with
  | nil => intro g g' ah qs h; cases h; rw [List.append_nil]
  | cons p ps ih =>
    intro g g' ah qs h
    have h : (if partBad g seats stops ah p = "" then seatT seats stops k ps (markP g p (some k)) (ah ++ [p]) else .error (partBad g seats stops ah p)) = .ok (g', qs) := h
    split at h
    · rw [ih h, List.append_assoc]; rfl
    · cases h
section
variable {n : Nat} {hd : Bool} {H H' : MH} {Q : MV → MH → Prop} {X : String → MH → Prop} {t rd hl : Addr} {ra : Int → Addr}
noncomputable def Good (ns : List Int) : Prop := okRow ns = true ∧ (∀ i ∈ ns, 0 ≤ i) ∧ ns.length ≤ 900000
theorem good_cons {ns : List Int} (h : Good ns) : ∃ k ms, ns = k :: ms ∧ ms.length % 3 = 0 ∧ ms.length ≤ 900000 ∧ (∀ i ∈ k :: ms, 0 ≤ i) ∧ trip ms ≠ [] := by
  obtain ⟨h1, h2, h3⟩ := h
  obtain ⟨a, b⟩ := Bool.and_eq_true_iff.mp h1
  have a := of_decide_eq_true a
  have b := of_decide_eq_true b
  match ns, a, b, h2, h3 with
  | k :: x :: y :: z :: ms, a, b, h2, h3 =>
    simp only [List.length_cons] at a b h3
    exact ⟨k, x :: y :: z :: ms, rfl, by simp only [List.length_cons]; (first | lia | omega), by simp only [List.length_cons]; (first | lia | omega), h2, by unfold trip; exact List.cons_ne_nil _ _⟩
inductive SeatI (H0 : MH) (t rd hl head : Addr) (ra : Int → Addr) (a b c : Int) (nss : List (List Int)) (vs : List MV) (ρ : Sto) (H' : MH) : Prop
  | mk (as' : List Addr) (rest : List (List Int)) (last : Int) (g : Grid) (RR : Rides) (rides : List (Int × MV)) (ev : vs = as'.map MV.ref) (qa : All2 (fun x ns => H0 x = some (.lst (ns.map .int))) as' rest) (qg : ∀ ns ∈ rest, Good ns) (p1 : ρ "train" = some (.ref t)) (p2 : ρ "head" = some (.ref head)) (p3 : ρ "last" = some (.int last)) (T : Tr H' t rd hl ra a b 0 rides g) (RA : RidesAt H' (Own t rd hl ra a) rides RR) (qr : ∀ x ∈ RR, x.1 ≤ last) (ql : rides.length + rest.length ≤ 800000) (el : lookT a b c rest g (last + 1) RR = lookT a b c nss (fun _ _ => none) 0 []) (E : Ext H0 H')
theorem seat_loop {m : Nat} {a b c : Int} {H0 H1 : MH} {c3 head : Addr} {as : List Addr} {nss : List (List Int)} {ss : MSs} {ρ₀ : Sto} {N : Sto → MH → Prop} {R : MV → MH → Prop} {Y : String → Sto → MH → Prop}
    (hf : ∀ x, Own t rd hl ra a x → H0 x = none) (T : Tr H1 t rd hl ra a b 0 [] (fun _ _ => none)) (E : Ext H0 H1) (h3 : H0 c3 = some (.lst (as.map .ref))) (ha : All2 (fun x ns => H0 x = some (.lst (ns.map .int))) as nss) (hh : H0 head = some (.lst ([a, b, c].map .int))) (hg : ∀ ns ∈ nss, Good ns) (hn : nss.length ≤ 800000)
    (r1 : ρ₀ "train" = some (.ref t)) (r2 : ρ₀ "head" = some (.ref head)) (r3 : ρ₀ "rows" = some (.ref c3)) (r4 : ρ₀ "last" = some (.int (-1)))
    (hbad : ∀ w ρ H', lookT a b c nss (fun _ _ => none) 0 [] = .error w → Ext H0 H' → Y (clsOf w) ρ H')
    (hok : ∀ ρ H' g RR rides, lookT a b c nss (fun _ _ => none) 0 [] = .ok (g, RR) → Tr H' t rd hl ra a b 0 rides g → RidesAt H' (Own t rd hl ra a) rides RR → Ext H0 H' → ρ "train" = some (.ref t) → ρ "head" = some (.ref head) → wSs (callW theP (m + 4)) false ss ρ H' N R Y) :
    wSs (callW theP (m + 4)) false (.cons (.for_ "numbers" (.var "rows")
      (.cons (.ite (.not (.cmp (.var "last") (.cons .lt (.sub (.var "numbers") (.int 0)) (.cons .lt (.sub (.var "head") (.int 2)) .nil)))) (.cons (.raise "NoTicket" "no such ticket") .nil) .nil)
      (.cons (.assign "last" (.sub (.var "numbers") (.int 0)))
      (.cons (.expr (.call "seat_ticket" (.cons (.var "train") (.cons (.var "numbers") .nil)))) .nil)))) ss) ρ₀ H1 N R Y := by
  have nown : ∀ {x : Addr} {o : MObj}, H0 x = some o → ¬ Own t rd hl ra a x := fun e z => by rw [hf _ z] at e; cases e
  refine ⟨rfl, (Ev.var r3 : Ev _ _ _ _ _ (.ref c3)) _ _ ⟨as.map .ref, .lst (.inl (E _ _ h3)), for_inv (SeatI H0 t rd hl head ra a b c nss)
    (fun vs ρ H' z => by obtain ⟨_, _, _, _, _, _, _, _, _, _, _, _, _, _, _, _, _, q⟩ := z; exact .lst (.inl (q _ _ h3))) ?_ ?_ ⟨as, nss, -1, _, [], [], rfl, ha, hg, r1, r2, r4, T, .nil, fun _ z => (by cases z), by rw [List.length_nil]; (first | lia | omega), rfl, E⟩⟩⟩
  · rintro v vs ρ H' k ⟨as', rest, last, g, RR, rides, ev, qa, qg, p1, p2, p3, T', RA, qr, ql, el, E'⟩ hk
    cases qa with
    | nil => cases ev
    | @cons x ns as' rest hx qa =>
      obtain ⟨rfl, rfl⟩ := List.cons.inj ev
      obtain ⟨q, ms, rfl, m3, m4, m5, m6⟩ := good_cons (qg _ (.head _))
      have hx' := E' _ _ hx
      have hh' := E' _ _ hh
      have el : (if q < last + 1 ∨ c ≤ q then Except.error "ticket" else match seatT a b q (trip ms) g [] with
        | .error w => .error w
        | .ok (g', ps) => lookT a b c rest g' (q + 1) (RR ++ [(q, ps)])) = lookT a b c nss (fun _ _ => none) 0 [] := el
      refine s_ite (c := !(decide (last < q) && decide (q < c))) (Ev.not (Ev.chain (by array_get_dec) (EvC.any (Ev.item (by array_get_dec) Ev.int hx' rfl) .lt (EvC.one (Ev.item (by array_get_dec) Ev.int hh' rfl) .lt)))) (fun z => ?_) fun z => ?_
      · refine s_raise (hbad "ticket" _ H' ?_ E')
        rw [← el]
        refine if_pos ?_
        rw [Bool.not_eq_true', Bool.and_eq_false_iff] at z
        rcases z with z | z
        · have := of_decide_eq_false z; (first | lia | omega)
        · have := of_decide_eq_false z; (first | lia | omega)
      · rw [Bool.not_eq_false', Bool.and_eq_true] at z
        have z1 := of_decide_eq_true z.1
        have z2 := of_decide_eq_true z.2
        rw [if_neg (by (first | lia | omega))] at el
        refine s_done (s_assign (v := .int q) (Ev.item (by array_get_dec) Ev.int hx' rfl) (s_expr (w_call (vs := [.ref t, .ref x]) (by array_get_dec) ?_)))
        rw [List.length_cons] at ql
        refine s_seat_ticket T' (by (first | lia | omega)) hx' (nown hx) (RA.miss fun ps hp => by have := qr _ hp; have this : q ≤ last := this; (first | lia | omega)) m3 m4 m5 (fun g' ps ta H'' es S f => ?_) fun w H'' es f => hbad w _ H'' (by rw [← el, es]) fun y o ey => f y o (nown ey) (E' y o ey)
        have E'' : Ext H0 H'' := fun y o ey => f y o (nown ey) (E' y o ey)
        have hps := seatT_parts es
        rw [es] at el
        rcases S with ⟨e0, _⟩ | ⟨c', T'', hc', hno', _⟩
        · rw [hps] at e0; exact absurd e0 m6
        · refine s_done (hk _ _ ⟨as', rest, q, g', RR ++ [(q, ps)], _, rfl, qa, fun ns hns => qg ns (.tail _ hns), by sizeOf_list_dec, by sizeOf_list_dec, by sizeOf_list_dec, T'', (RA.keep f).app hc' hno', fun y hy => ?_, by rw [List.length_append, List.length_cons, List.length_nil]; (first | lia | omega), el, E''⟩)
          rcases List.mem_append.mp hy with hy | hy
          · have := qr y hy; (first | lia | omega)
          · rw [List.mem_singleton.mp hy]; exact Int.le_refl _
  · rintro ρ H' ⟨as', rest, last, g, RR, rides, ev, qa, qg, p1, p2, p3, T', RA, qr, ql, el, E'⟩
    cases qa with
    | nil => exact hok ρ H' g RR rides el.symm T' RA E' p1 p2
    | cons hx qa => cases ev
end
end Mine
end
section
set_option autoImplicit false
set_option linter.unusedVariables false
namespace Mine
open PySem
section
variable {n : Nat} {hd : Bool} {H H' : MH} {Q : MV → MH → Prop} {X : String → MH → Prop}
theorem headT_is {l : Str} {ns : List Int} (h : numsIn l (Str.ofString "train") = some ns) : headT l = if ns.length = 3 then some ns else none := by unfold headT; rw [h]; rfl
theorem s_read {text : Str} (hl : text.length ≤ 800000 - 1)
    (hok : ∀ a b c rows g R t rd hl ra rides H', readR text = .ok ((a, b, c), rows, g, R) → Tr H' t rd hl ra a b c rides g → RidesAt H' (Own t rd hl ra a) rides R → (∀ x, Own t rd hl ra a x → H x = none) → Ext H H' → Q (.ref t) H')
    (hbad : ∀ w H', readR text = .error w → Ext H H' → X (clsOf w) H') : callW theP (n + 5) false "read" [.str text] H Q X := by
  refine call_of (d := f_read) rfl rfl ?_
  refine s_skip (Ev.not (b := true) (Ev.isi (Ev.var rfl) .ss)) ?_
  obtain ⟨l, ls, e⟩ := split_cons text nl
  obtain ⟨l1, l2⟩ := split_len (x := text) nl_one
  rw [e] at l1 l2
  rw [List.length_cons] at l1
  refine s_let (w_split (y := nl) (Ev.var rfl) Ev.str nl_one (Nat.lt_of_le_of_lt hl (by decide)) fun c1 hc1 => ?_)
  have E1 := Ext.new (H := H) (.lst ((Txt.split text nl).map MV.str)) hc1
  have h1 : (H.set c1 (.lst ((Txt.split text nl).map MV.str))) c1 = some (.lst (MV.str l :: ls.map .str)) := by rw [MH.set_selfE, e]; rfl
  generalize H.set c1 (.lst ((Txt.split text nl).map MV.str)) = H1 at E1 h1
  have ll := l2 l (.head _)
  refine s_let (w_call (vs := [.str l, .str (Str.ofString "train")]) (Evs.cons (Ev.item (by array_get_dec) Ev.int h1 rfl) (Evs.cons Ev.str Evs.nil)) (s_numbers_of (Nat.lt_of_le_of_lt ll (Nat.lt_of_le_of_lt hl (by decide))) (fun is c2 H2 en hc2 E2 h2 => ?_) fun H2 en E2 => hbad "text" H2 (read_head e (by unfold headT; rw [en]; rfl)) (E1.trans E2)))
  have ln : ((is.map MV.int).length : Int) = is.length := by rw [List.length_map]
  have hd3 := headT_is en
  refine s_ite (c := !decide (((is.map MV.int).length : Int) = 3)) (Ev.cmp (Ev.lenL (by array_get_dec) h2) Ev.int .nei) (fun q => ?_) fun q => ?_
  · rw [ln, Bool.not_eq_true'] at q
    have := of_decide_eq_false q
    exact s_raise (hbad "text" _ (read_head e (hd3.trans (if_neg (by (first | lia | omega))))) (E1.trans E2))
  rw [ln, Bool.not_eq_false'] at q
  have i3 : is.length = 3 := by have := of_decide_eq_true q; (first | lia | omega)
  rw [if_pos i3] at hd3
  obtain ⟨a, b, c, rfl⟩ : ∃ a b c, is = [a, b, c] := by
    match is, i3 with
    | [a, b, c], _ => exact ⟨a, b, c, rfl⟩
  refine s_done (s_let (w_list Evs.nil fun c3 hc3 => ?_))
  refine rows_loop (fun u hu => Nat.le_trans (l2 u (.tail _ hu)) (Nat.le_trans hl (by decide))) (by (first | lia | omega)) (E2 _ _ h1) h2 hc3 (by sizeOf_list_dec) (by sizeOf_list_dec) (by sizeOf_list_dec) (fun ρ H' hm E' => hbad "text" H' (read_rows e hm) ((E1.trans E2).trans E')) fun ρ H' as nss hm E' q3 qa qn p1 p2 => ?_
  have E3 := (E1.trans E2).trans E'
  have hr := read_is e hd3 hm
  have hh := E' _ _ h2
  obtain ⟨m1, m2⟩ := mapO_len hm
  have hg : ∀ ns ∈ nss, Good ns := fun ns hns => by
    obtain ⟨u, hu, e0⟩ := m2 ns hns
    obtain ⟨k1, k2⟩ := rowT_some e0
    obtain ⟨k3, k4⟩ := nums_in k1
    exact ⟨k2, k3, by have := l2 u (.tail _ hu); (first | lia | omega)⟩
  refine s_let ?_
  show wEs _ _ _ _ _ _ _
  refine w_cons (w_ev (v := .int a) (Ev.item (by array_get_dec) Ev.int hh rfl) (w_cons (w_ev (v := .int b) (Ev.item (by array_get_dec) Ev.int hh rfl) (w_evs Evs.nil fun t ht => ?_))))
  have Et := Ext.new (H := H') (.inst []) ht
  by_cases hs : ¬ (1 ≤ a ∧ a ≤ 60 ∧ 2 ≤ b ∧ b ≤ 60)
  · rw [if_neg hs] at hr
    exact init_bad hs (hbad "train" _ hr (E3.trans Et))
  have hs := Decidable.not_not.mp hs
  rw [if_pos hs] at hr
  refine t_init (MH.set_selfE _ _ _) ⟨hs.1, hs.2.1⟩ hs.2.2 fun H5 rd hl5 ra TT own5 keep5 => ⟨rfl, ?_⟩
  obtain ⟨rides, T5, RA5⟩ := TT.tr
  cases RA5
  have hf : ∀ x, Own t rd hl5 ra a x → H' x = none := fun x z => (own5 x z).elim (fun z => by rw [z]; exact ht) fun z => none_of_ext Et z
  have E5 : Ext H' H5 := fun x o ex => keep5 x o (mne ht ex) (Et _ _ ex)
  refine s_assign (v := .int (-1)) (Ev.neg Ev.int) (seat_loop hf T5 E5 q3 qa hh hg (by (first | lia | omega)) (by sizeOf_list_dec) (by sizeOf_list_dec) (by sizeOf_list_dec) (by sizeOf_list_dec) (fun w ρ' H6 el E6 => hbad w H6 (by rw [hr, el]) (E3.trans E6)) fun ρ' H6 g RR rides el T6 RA6 E6 u1 u2 => ?_)
  rw [el] at hr
  refine s_expr (w_meth (vs := [.int c]) (by array_get_dec) T6.at_ rfl (Evs.cons (Ev.item (by array_get_dec) Ev.int (E6 _ _ hh) rfl) Evs.nil) (call_of (d := f_Train_start_at) rfl rfl (s_setAttr (by array_get_dec) (by array_get_dec) T6.at_ (by show 5 < 100; decide) (s_done ?_))))
  have T7 := T6.setT c
  have own_none : ∀ x, Own t rd hl5 ra a x → H x = none := fun x z => none_of_ext E3 (hf x z)
  have keep7 : ∀ x o, H' x = some o → (H6.set t (.inst (trFs a b c rd hl5))) x = some o := fun x o ex => (MH.set_neE _ _ (mne ht ex)).trans (E6 _ _ ex)
  exact s_ret (by array_get_dec) (hok a b c nss g RR t rd hl5 ra rides _ hr T7 (RA6.keep fun x o hx ex => (MH.set_neE _ _ fun (z : x = t) => hx (z ▸ .inl rfl)).trans ex) own_none (E3.trans keep7))
end
end Mine
end
section
set_option autoImplicit false
set_option linter.unusedVariables false
namespace Mine
open PySem
section
variable {n : Nat} {hd : Bool} {H H' : MH} {Q : MV → MH → Prop} {X : String → MH → Prop} {ro : Addr} {rb : Int → Addr} {seats stops : Int} {g : Grid}
theorem w_compR2 {Δ : CallT} {elt it : ME} {x : String} {a b : Int} {ρ : Sto} {Y : String → MH → Prop} (f : Int → MV) (hit : Ev Δ false it ρ H (.rng a b 1)) (hb : b - a ≤ 100000)
    (hf : ∀ i, a ≤ i → i < b → Ev Δ false elt (ρ.set x (.int i)) H (f i)) (q : New H Q ((rangeL a b 1).map f)) : wE Δ false (.comp elt x it (.bool true)) ρ H Q Y := by
  refine ⟨rfl, hit _ _ ⟨_, .rng, comp_pure (fun _ => true) (fun v => match v with | .int i => f i | _ => .none) .rng _ _ (fun v hv k hk => hk) (fun v hv hp k hk => ?_) ?_ ?_⟩⟩
  · obtain ⟨i, hi, rfl⟩ := List.mem_map.mp hv
    have := rangeL_mem (by decide) hi
    exact hf i this.1 this.2 _ _ hk
  · rw [List.length_nil, List.length_map, rangeL_len1, Nat.zero_add]; unfold bigList; (first | lia | omega)
  · rw [List.nil_append, List.filter_eq_self.mpr fun _ _ => rfl, List.map_map]; exact q
theorem nil_mvo (o : Option Int) : isNil (mvo o) = o.isNone := by cases o <;> rfl
theorem s_part_word (G : Gd H ro rb seats stops g) {ta : Addr} {ah : List Part} {p : Part} (ha : H ta = some (.lst (ah.map partMV))) (p0 : 0 ≤ p.1) (p1 : 0 ≤ p.2.1) (h : ∀ H', Ext H H' → Q (.str (Str.ofString (partBad g seats stops ah p))) H') : callW theP (n + 1) false "_law_part_word" [.ref ro, .ref ta, partMV p] H Q X := by
  refine call_of (d := f__law_part_word) rfl rfl ?_
  have g1 := G.hl_
  have s1 := G.hseats
  have s2 := G.hstops
  have ls : ((refsOf rb seats.toNat).length : Int) = seats := by rw [refsOf, List.length_map, List.length_range]; (first | lia | omega)
  have w0 : ∀ {w : String} {H' : MH}, Ext H H' → partBad g seats stops ah p = w → Q (.str (Str.ofString w)) H' := fun e z => z ▸ h _ e
  have pt : ∀ {ρ : Sto} {H : MH}, ρ "_law_part" = some (partMV p) → Ev (callW theP n) false (.sub (.var "_law_part") (.int 0)) ρ H (.int p.1) ∧ Ev (callW theP n) false (.sub (.var "_law_part") (.int 1)) ρ H (.int p.2.1) ∧ Ev (callW theP n) false (.sub (.var "_law_part") (.int 2)) ρ H (.int p.2.2) := fun h => ⟨Ev.itemT (Ev.var h) Ev.int rfl, Ev.itemT (Ev.var h) Ev.int rfl, Ev.itemT (Ev.var h) Ev.int rfl⟩
  refine s_ite (c := decide (((refsOf rb seats.toNat).length : Int) ≤ p.1)) (Ev.cmp (pt rfl).1 (Ev.lenL (Ev.var rfl) g1) .ge) (fun q => ?_) fun q => ?_
  · rw [ls] at q
    exact s_ret Ev.str (w0 (.refl _) (by unfold partBad; rw [if_pos (of_decide_eq_true q)]))
  rw [ls] at q
  have h1 := of_decide_eq_false q
  have r0 := G.row 0 (by decide) (by (first | lia | omega))
  have a0 := refsOf_at (ra := rb) (n := seats) (i := 0) (by decide) (by (first | lia | omega))
  have lr : ((rowOf g 0 (stops - 1).toNat).length : Int) = stops - 1 := by rw [rowOf_length]; (first | lia | omega)
  refine s_done (s_ite (c := decide (p.2.2 ≤ p.2.1) || decide (((rowOf g 0 (stops - 1).toNat).length : Int) < p.2.2)) (Ev.or (EvO.any (Ev.cmp (pt rfl).2.1 (pt rfl).2.2 .ge) (EvO.one (Ev.cmp (pt rfl).2.2 (Ev.lenL (Ev.item (Ev.var rfl) Ev.int g1 a0) r0) .gt)))) (fun q => ?_) fun q => ?_)
  · rw [lr] at q
    refine s_ret Ev.str (w0 (.refl _) ?_)
    unfold partBad; rw [if_neg h1, if_pos ((Bool.or_eq_true_iff.mp q).imp (fun z => of_decide_eq_true z) fun z => of_decide_eq_true z)]
  rw [lr] at q
  obtain ⟨q1, q2⟩ := Bool.or_eq_false_iff.mp q
  have q1 := of_decide_eq_false q1
  have q2 := of_decide_eq_false q2
  have h2 : ¬ (p.2.2 ≤ p.2.1 ∨ stops - 1 < p.2.2) := by (first | lia | omega)
  have cond : Ev (callW theP n) false (.and (.cons (.cmp (.bi "len" (.cons (.var "_law_ahead") .nil)) (.cons .gt (.int 0) .nil)) (.cons (.or (.cons (.cmp (.sub (.sub (.var "_law_ahead") (.neg (.int 1))) (.int 2)) (.cons .ne (.sub (.var "_law_part") (.int 1)) .nil)) (.cons (.cmp (.sub (.sub (.var "_law_ahead") (.neg (.int 1))) (.int 0)) (.cons .eq (.sub (.var "_law_part") (.int 0)) .nil)) .nil))) .nil))) (Sto.ofArgs ["_law_rows_here", "_law_ahead", "_law_part"] [.ref ro, .ref ta, partMV p]) H (.bool (!behind ah p)) := by
    cases hq : ah.getLast? with
    | none =>
      have e : ah = [] := List.getLast?_eq_none_iff.mp hq
      subst e
      exact Ev.and (EvA.f (Ev.cmp (Ev.lenL (Ev.var rfl) ha) Ev.int (show CmpR H .gt (.int ((([] : List Part).map partMV).length : Int)) (.int 0) false from .gt)))
    | some z =>
      have hl := last_at hq
      have hbe : behind ah p = (decide (z.2.2 = p.2.1) && !decide (z.1 = p.1)) := by unfold behind; rw [hq]; rfl
      have pos : 0 < ah.length := by cases ah with | nil => cases hq | cons => exact Nat.succ_pos _
      have cg : CmpR H .gt (.int ((ah.map partMV).length : Int)) (.int 0) true := by have := CmpR.gt (H := H) (x := ((ah.map partMV).length : Int)) (y := 0); rwa [decide_eq_true (by rw [List.length_map]; (first | lia | omega))] at this
      have e2 : (!behind ah p) = ((!decide (z.2.2 = p.2.1)) || decide (z.1 = p.1)) := by rw [hbe, Bool.not_and, Bool.not_not]
      rw [e2]
      exact Ev.and (EvA.t (Ev.cmp (Ev.lenL (Ev.var rfl) ha) Ev.int cg) (EvA.one (Ev.or (EvO.any (Ev.cmp (Ev.itemT (Ev.item (Ev.var rfl) (Ev.neg Ev.int) ha hl) Ev.int rfl) (pt rfl).2.1 .nei) (EvO.one (Ev.cmp (Ev.itemT (Ev.item (Ev.var rfl) (Ev.neg Ev.int) ha hl) Ev.int rfl) (pt rfl).1 .eqi))))))
  refine s_done (s_ite cond (fun q => ?_) fun q => ?_)
  · rw [Bool.not_eq_true'] at q
    refine s_ret Ev.str (w0 (.refl _) ?_)
    unfold partBad; rw [if_neg h1, if_neg h2, if_pos q]
  rw [Bool.not_eq_false'] at q
  have h3 : ¬ behind ah p = false := by rw [q]; exact Bool.noConfusion
  have rp := G.row p.1 p0 (by (first | lia | omega))
  have ap := refsOf_at (ra := rb) (n := seats) (i := p.1) p0 (by (first | lia | omega))
  refine s_done (s_itew (w_not (w_bi1 (w_compR2 (fun l => .bool (g p.1 l).isNone) (Ev.range2 (pt rfl).2.1 (pt rfl).2.2 (smallOf p1 (by (first | lia | omega))) (smallOf (by (first | lia | omega)) (by (first | lia | omega)))) (by (first | lia | omega)) (fun i i0 i1 => ?_) fun c hc => ?_))))
  · have a5 := rowOf_at (g := g) (i := p.1) (m := stops - 1) (j := i) (by (first | lia | omega)) (by (first | lia | omega))
    have c5 : CmpR H .is_ (mvo (g p.1 i)) .none (g p.1 i).isNone := nil_mvo (g p.1 i) ▸ .isN
    exact Ev.cmp (Ev.item (Ev.item (by array_get_dec) (pt (by sizeOf_list_dec)).1 g1 ap) (by array_get_dec) rp a5) Ev.none c5
  have E := Ext.new (H := H) (.lst ((rangeL p.2.1 p.2.2 1).map fun l => MV.bool (g p.1 l).isNone)) hc
  refine .allL (bs := (rangeL p.2.1 p.2.2 1).map fun l => (g p.1 l).isNone) rfl (.inl (by rw [MH.set_selfE, List.map_map]; rfl)) ?_
  rw [List.all_map]
  cases hfr : (rangeL p.2.1 p.2.2 1).all (id ∘ fun l => (g p.1 l).isNone) with
  | false =>
    refine nt_t (s_ret Ev.str (w0 E ?_))
    unfold partBad; rw [if_neg h1, if_neg h2, if_neg h3, if_pos (show freeB g p.1 p.2.1 p.2.2 = false from hfr)]
  | true =>
    refine nt_f (s_done (s_ret Ev.str (w0 E ?_)))
    unfold partBad; rw [if_neg h1, if_neg h2, if_neg h3, if_neg (by rw [show freeB g p.1 p.2.1 p.2.2 = true from hfr]; exact Bool.noConfusion)]
end
end Mine
end
section
set_option autoImplicit false
set_option linter.unusedVariables false
namespace Mine
open PySem
section
variable {n : Nat} {hd : Bool} {H H' : MH} {Q : MV → MH → Prop} {X : String → MH → Prop} {ro : Addr} {rb : Int → Addr} {seats stops : Int} {g : Grid}
/-- as s_cells_set, with a value that is read from the heap -/
theorem s_cells_set2 {Δ : CallT} {ρ : Sto} {N : Sto → MH → Prop} {R : MV → MH → Prop} {Y : String → Sto → MH → Prop} {ss : MSs} {x : String} {it v e i : ME} {s b e' : Int} {kv : Option Int} (K : Sto → Prop) (G : Gd H ro rb seats stops g) (h0 : 0 ≤ s) (h1 : s < seats) (h2 : 0 ≤ b) (h3 : b ≤ e') (h4 : e' ≤ stops - 1) (hK : K ρ)
    (hit : Ev Δ false it ρ H (.rng b e' 1)) (hKs : ∀ ρ j, K ρ → K (ρ.set x (.int j))) (hv : ∀ ρ H', K ρ → Frm (Cel rb seats) H H' → Ev Δ false v ρ H' (mvo kv)) (hi : ∀ ρ H' j, K ρ → Ev Δ false i (ρ.set x (.int j)) H' (.int j))
    (he : ∀ ρ H' g', K ρ → Gd H' ro rb seats stops g' → Frm (Cel rb seats) H H' → Ev Δ false e ρ H' (.ref (rb s)))
    (fin : ∀ ρ H', K ρ → Gd H' ro rb seats stops (markP g (s, b, e') kv) → Frm (Cel rb seats) H H' → wSs Δ false ss ρ H' N R Y) : wSs Δ false (.cons (.for_ x it (.cons (.setIdx e i v) .nil)) ss) ρ H N R Y := by
  refine s_range (fun j ρ H' => K ρ ∧ j ≤ e' ∧ Gd H' ro rb seats stops (markP g (s, b, j) kv) ∧ Frm (Cel rb seats) H H') hit ⟨hK, h3, markP_nil ▸ G, fun _ _ _ q => q⟩ ?_ ?_
  · rintro j ρ H' k hj1 hj2 ⟨k1, _, G', f⟩ hk
    have j0 : 0 ≤ j := Int.le_trans h2 hj1
    exact s_setIdx (hv _ _ (hKs _ _ k1) f) (he _ _ _ (hKs _ _ k1) G' f) (hi _ _ _ k1) (G'.row s h0 h1) j0 (row_lt (Int.lt_of_lt_of_le hj2 h4) j0) (s_done (hk _ _ ⟨hKs _ _ k1, hj2, markP_step hj1 ▸ G'.setCell h0 h1 j0, f.trans (Cel.frm h0 h1)⟩))
  · rintro j ρ H' hj ⟨k1, hj2, G', f⟩
    obtain rfl := Int.le_antisymm hj2 hj
    exact fin _ _ k1 G' f
noncomputable def LV (ro one sa fa tk head : Addr) (least : Int) (ρ : Sto) : Prop := ρ "_law_rows_here" = some (.ref ro) ∧ ρ "_law_one" = some (.ref one) ∧ ρ "_law_some" = some (.ref sa) ∧ ρ "_law_found" = some (.ref fa) ∧ ρ "_law_head" = some (.ref head) ∧ ρ "_law_least" = some (.int least)
theorem LV.set {ro one sa fa tk head : Addr} {least : Int} {ρ : Sto} (h : LV ro one sa fa tk head least ρ) {x : String} {v : MV} (hx : decide ("_law_rows_here" = x) = false ∧ decide ("_law_one" = x) = false ∧ decide ("_law_some" = x) = false ∧ decide ("_law_found" = x) = false ∧ decide ("_law_head" = x) = false ∧ decide ("_law_least" = x) = false) : LV ro one sa fa tk head least (ρ.set x v) :=
  ⟨Sto.gn hx.1 h.1, Sto.gn hx.2.1 h.2.1, Sto.gn hx.2.2.1 h.2.2.1, Sto.gn hx.2.2.2.1 h.2.2.2.1, Sto.gn hx.2.2.2.2.1 h.2.2.2.2.1, Sto.gn hx.2.2.2.2.2 h.2.2.2.2.2⟩
inductive PartI (H : MH) (ro one sa fa tk head : Addr) (rb : Int → Addr) (seats stops least k : Int) (g : Grid) (ns : List Int) (vs : List MV) (ρ : Sto) (H' : MH) : Prop
  | mk (i : Int) (ah : List Part) (g' : Grid) (ev : vs = (rangeL i ((ns.length + 1 : Nat) : Int) 3).map .int) (A : At3 ns.length i ah.length) (V : LV ro one sa fa tk head least ρ) (h : H' sa = some (.lst (ah.map partMV))) (G : Gd H' ro rb seats stops g') (f : ∀ a o, H a = some o → ¬ Cel rb seats a → H' a = some o) (es : seatT seats stops k (trip ((k :: ns).drop i.toNat)) g' ah = seatT seats stops k (trip ns) g [])
/-- the parts of a row, looked at -/
theorem look_parts {m : Nat} {one sa fa tk head : Addr} {least : Int} {k : Int} {ns : List Int} {ρ₀ : Sto} {N : Sto → MH → Prop} {R : MV → MH → Prop} {Y : String → Sto → MH → Prop} {ss : MSs}
    (G : Gd H ro rb seats stops g) (h1 : H one = some (.lst ((k :: ns).map .int))) (hs : H sa = none) (nc : ¬ Cel rb seats one) (h3 : ns.length % 3 = 0) (hl0 : ns.length ≤ 900000) (hpos : ∀ i ∈ k :: ns, 0 ≤ i) (hv : LV ro one sa fa tk head least ρ₀)
    (hbad : ∀ w res H', seatT seats stops k (trip ns) g [] = .error w → H res = none → (∀ a o, H a = some o → ¬ Cel rb seats a → H' a = some o) → H' res = some (.lst [.str (Str.ofString w)]) → R (.ref res) H')
    (hok : ∀ ρ H' g' ps, seatT seats stops k (trip ns) g [] = .ok (g', ps) → Gd H' ro rb seats stops g' → H' sa = some (.lst (ps.map partMV)) → (∀ a o, H a = some o → ¬ Cel rb seats a → H' a = some o) → LV ro one sa fa tk head least ρ → wSs (callW theP (m + 1)) false ss ρ H' N R Y) :
    wSs (callW theP (m + 1)) false (.cons (.for_ "_law_k" (.bi "range" (.cons (.int 1) (.cons (.bi "len" (.cons (.var "_law_one") .nil)) (.cons (.int 3) .nil))))
      (.cons (.assign "_law_part" (.tup (.cons (.sub (.var "_law_one") (.var "_law_k")) (.cons (.sub (.var "_law_one") (.bin .add (.var "_law_k") (.int 1))) (.cons (.sub (.var "_law_one") (.bin .add (.var "_law_k") (.int 2))) .nil)))))
      (.cons (.assign "_law_word_here" (.call "_law_part_word" (.cons (.var "_law_rows_here") (.cons (.var "_law_some") (.cons (.var "_law_part") .nil)))))
      (.cons (.ite (.cmp (.var "_law_word_here") (.cons .ne (.str "") .nil)) (.cons (.ret (.list (.cons (.var "_law_word_here") .nil))) .nil) .nil)
      (.cons (.expr (.bm (.var "_law_some") "append" (.cons (.var "_law_part") .nil)))
      (.cons (.for_ "_law_leg" (.bi "range" (.cons (.sub (.var "_law_part") (.int 1)) (.cons (.sub (.var "_law_part") (.int 2)) .nil)))
      (.cons (.setIdx (.sub (.var "_law_rows_here") (.sub (.var "_law_part") (.int 0))) (.var "_law_leg") (.sub (.var "_law_one") (.int 0))) .nil)) .nil)))))) ss) ρ₀ (H.set sa (.lst [])) N R Y := by
  have E1 := Ext.new (H := H) (.lst []) hs
  have nsa : ∀ {a : Addr}, (a = ro ∨ Cel rb seats a) → a ≠ sa := fun z q => by
    subst q
    rcases z with rfl | ⟨i, i0, i1, rfl⟩
    · exact mne hs G.hl_ rfl
    · exact mne hs (G.row i i0 i1) rfl
  have h2 : (H.set sa (.lst [])) sa = some (.lst []) := MH.set_selfE _ _ _
  have G1 : Gd (H.set sa (.lst [])) ro rb seats stops g := G.keep fun a o _ ea => E1 _ _ ea
  have h1' := E1 _ _ h1
  have fr1 : ∀ a o, H a = some o → ¬ Cel rb seats a → (H.set sa (.lst [])) a = some o := fun a o ea _ => E1 _ _ ea
  generalize H.set sa (.lst []) = H1 at E1 h2 G1 h1' fr1
  have hlen : ((k :: ns).map MV.int).length = ns.length + 1 := by rw [List.length_map]; rfl
  refine ⟨rfl, Ev.range3 Ev.int (Ev.lenL (Ev.var hv.2.1) h1') Ev.int (smallOf (by decide) (by decide)) (by rw [hlen]; exact small_len hl0) (smallOf (by decide) (by decide)) (by decide) _ _ ⟨_, .rng, ?_⟩⟩
  rw [hlen]
  have ncs : ¬ Cel rb seats sa := fun z => nsa (.inr z) rfl
  refine for_inv (PartI H ro one sa fa tk head rb seats stops least k g ns)
    (fun vs ρ H i => .rng) ?_ ?_ ⟨1, [], g, rfl, at3_one h3, hv, h2, G1, fr1, rfl⟩
  · rintro v vs ρ H2 kk ⟨i, ah, g2, ev, A, V, ht2, G2, f2, es⟩ hkk
    by_cases hi : ¬ i < ((ns.length + 1 : Nat) : Int)
    · rw [rangeL_nil (by decide) (Int.not_lt.mp hi)] at ev; cases ev
    have hi := Decidable.not_not.mp hi
    rw [rangeL_cons (by decide) hi, List.map_cons] at ev
    obtain ⟨rfl, rfl⟩ := List.cons.inj ev
    obtain ⟨A2, i4, i0, al⟩ := at3_next A hi hl0
    obtain ⟨a, b, c, ed, x1, x2, x3, ma, mb⟩ := drop3 (ns := k :: ns) i0 i4
    have hna2 := f2 one _ h1 nc
    rw [ed] at es
    have es : (if partBad g2 seats stops ah (a, b, c) = "" then seatT seats stops k (trip ((k :: ns).drop (i + 3).toNat)) (markP g2 (a, b, c) (some k)) (ah ++ [(a, b, c)]) else .error (partBad g2 seats stops ah (a, b, c))) = seatT seats stops k (trip ns) g [] := es
    have V1 := V.set (x := "_law_k") (v := .int i) (by decide)
    refine s_assign (v := partMV (a, b, c)) (Ev.tup (Evs.cons (Ev.item (Ev.var V1.2.1) (by array_get_dec) hna2 x1) (Evs.cons (Ev.item (Ev.var V1.2.1) (by array_get_dec) hna2 x2) (Evs.cons (Ev.item (Ev.var V1.2.1) (by array_get_dec) hna2 x3) Evs.nil)))) ?_
    have V2 := V1.set (x := "_law_part") (v := partMV (a, b, c)) (by decide)
    refine s_let (w_call (vs := [.ref ro, .ref sa, partMV (a, b, c)]) (Evs.cons (Ev.var V2.1) (Evs.cons (Ev.var V2.2.2.1) (Evs.cons (by array_get_dec) Evs.nil))) (s_part_word G2 ht2 (hpos a ma) (hpos b mb) fun H3 E3 => ?_))
    have V3 := V2.set (x := "_law_word_here") (v := .str (Str.ofString (partBad g2 seats stops ah (a, b, c)))) (by decide)
    have f3 : ∀ x o, H x = some o → ¬ Cel rb seats x → H3 x = some o := fun x o ex hx => E3 _ _ (f2 x o ex hx)
    have none3 : ∀ {x : Addr}, H3 x = none → H x = none := fun {x} hx => by
      cases q : H x with
      | none => rfl
      | some o =>
        by_cases z : Cel rb seats x
        · obtain ⟨j, j0, j1, rfl⟩ := z
          have := E3 _ _ (G2.row j j0 j1)
          rw [hx] at this; cases this
        · have := f3 x o q z; rw [hx] at this; cases this
    refine s_ite (Ev.cmp (by array_get_dec) Ev.str .nes) (fun q => ?_) fun q => ?_
    · rw [Bool.not_eq_true'] at q
      have hne : partBad g2 seats stops ah (a, b, c) ≠ "" := fun z => of_decide_eq_false q (by rw [z])
      refine s_retw (w_list (Evs.cons (by array_get_dec) Evs.nil) fun c9 hc9 => hbad _ c9 _ (by rw [← es]; exact if_neg hne) (none3 hc9) (fun x o ex hx => Ext.new _ hc9 _ _ (f3 x o ex hx)) (MH.set_selfE _ _ _))
    · rw [Bool.not_eq_false'] at q
      have hb : partBad g2 seats stops ah (a, b, c) = "" := ofString_inj (of_decide_eq_true q)
      rw [if_pos hb] at es
      obtain ⟨q1, q2, q3, _⟩ := bad_in hb
      have q1 : a < seats := q1
      have q2 : b < c := q2
      have q3 : c ≤ stops - 1 := q3
      have ht3 := E3 _ _ ht2
      have G3 := G2.keep (H' := H3) fun x o _ ex => E3 _ _ ex
      refine s_done (s_expr (w_append (Ev.var V3.2.2.1) ht3 (by array_get_dec) (by rw [List.length_map]; exact Nat.lt_of_le_of_lt al (by decide)) ?_))
      have h4 : (H3.set sa (.lst (ah.map partMV ++ [partMV (a, b, c)]))) sa = some (.lst ((ah ++ [(a, b, c)]).map partMV)) := by rw [MH.set_selfE, List.map_append]; rfl
      have G4 : Gd (H3.set sa (.lst (ah.map partMV ++ [partMV (a, b, c)]))) ro rb seats stops g2 := G3.keep fun x o hx ex => (MH.set_neE _ _ (nsa hx)).trans ex
      have f4 : ∀ x o, H x = some o → ¬ Cel rb seats x → (H3.set sa (.lst (ah.map partMV ++ [partMV (a, b, c)]))) x = some o := fun x o ex hx => (MH.set_neE _ _ (mne hs ex)).trans (f3 x o ex hx)
      generalize H3.set sa (.lst (ah.map partMV ++ [partMV (a, b, c)])) = H4 at h4 G4 f4
      have s2 := G.hstops
      refine s_cells_set2 (kv := some k) (fun ρ => LV ro one sa fa tk head least ρ ∧ ρ "_law_part" = some (partMV (a, b, c))) G4 (hpos a ma) q1 (hpos b mb) (Int.le_of_lt q2) q3 ⟨V3, by sizeOf_list_dec⟩ (Ev.range2 (Ev.itemT (by array_get_dec) Ev.int rfl) (Ev.itemT (by array_get_dec) Ev.int rfl) (smallOf (hpos b mb) (by (first | lia | omega))) (smallOf (by have := hpos b mb; (first | lia | omega)) (by (first | lia | omega)))) (fun ρ j z => ⟨z.1.set (by decide), Sto.gn rfl z.2⟩)
        (fun ρ H' z f => Ev.item (Ev.var z.1.2.1) Ev.int (f _ _ nc (f4 _ _ h1 nc)) rfl) (fun ρ H' j z => Ev.var (Sto.gets _ _ _)) (fun ρ H' g' z G' f => Ev.item (Ev.var z.1.1) (Ev.itemT (Ev.var z.2) Ev.int rfl) G'.hl_ (refsOf_at (hpos a ma) q1)) fun ρ' H5 z G5 f5 => ?_
      exact s_done (hkk _ _ ⟨i + 3, ah ++ [(a, b, c)], _, rfl, by rw [List.length_append]; exact A2, z.1, f5 _ _ ncs h4, G5, fun x o ex hx => f5 x o hx (f4 x o ex hx), es⟩)
  · rintro ρ H2 ⟨i, ah, g2, ev, A, V, ht2, G2, f2, es⟩
    have hi : ¬ i < ((ns.length + 1 : Nat) : Int) := fun z => by rw [rangeL_cons (by decide) z] at ev; cases ev
    have e : i.toNat = (k :: ns).length := at3_end A hi
    rw [e, List.drop_of_length_le (Nat.le_refl _)] at es
    exact hok ρ H2 g2 ah es.symm G2 ht2 f2 V
end
end Mine
end
section
set_option autoImplicit false
set_option linter.unusedVariables false
namespace Mine
open PySem
section
variable {n : Nat} {hd : Bool} {H H' : MH} {Q : MV → MH → Prop} {X : String → MH → Prop}
/-- what the law's own reader says of a head and its rows -/
noncomputable def lookR (a b c : Int) (nss : List (List Int)) : Except String (Grid × Rides) := if 1 ≤ a ∧ a ≤ 60 ∧ 2 ≤ b ∧ b ≤ 60 then lookT a b c nss (fun _ _ => none) 0 [] else .error "train"
inductive LookI (H : MH) (ro fa head : Addr) (rb : Int → Addr) (a b c : Int) (nss : List (List Int)) (vs : List MV) (ρ : Sto) (H' : MH) : Prop
  | mk (as' : List Addr) (rest : List (List Int)) (least : Int) (g : Grid) (RR : Rides) (cs : List Addr) (ev : vs = as'.map MV.ref) (qa : All2 (fun x ns => H x = some (.lst (ns.map .int))) as' rest) (qg : ∀ ns ∈ rest, Good ns) (p1 : ρ "_law_rows_here" = some (.ref ro)) (p2 : ρ "_law_found" = some (.ref fa)) (p3 : ρ "_law_head" = some (.ref head)) (p4 : ρ "_law_least" = some (.int least)) (G : Gd H' ro rb a b g) (q2 : H' fa = some (.lst (cs.map .ref))) (qc : All2 (fun x (y : Int × List Part) => H' x = some (.lst (y.2.map partMV))) cs RR) (qn : ∀ x ∈ cs, x ≠ fa ∧ ¬ Cel rb a x ∧ H x = none) (ql : cs.length + rest.length ≤ 800000) (el : lookT a b c rest g least RR = lookT a b c nss (fun _ _ => none) 0 []) (E : Ext H H')
theorem s_looked_at {a b c : Int} {head tk : Addr} {as : List Addr} {nss : List (List Int)} (hh : H head = some (.lst ([a, b, c].map .int))) (ht : H tk = some (.lst (as.map .ref))) (ha : All2 (fun x ns => H x = some (.lst (ns.map .int))) as nss) (hg : ∀ ns ∈ nss, Good ns) (hn : nss.length ≤ 800000)
    (hok : ∀ g RR res fa cs H', lookR a b c nss = .ok (g, RR) → H res = none → Ext H H' → H' res = some (.lst [.str (Str.ofString ""), .ref fa]) → H' fa = some (.lst (cs.map .ref)) → All2 (fun x (y : Int × List Part) => H' x = some (.lst (y.2.map partMV))) cs RR → Q (.ref res) H')
    (hbad : ∀ w res H', lookR a b c nss = .error w → H res = none → Ext H H' → H' res = some (.lst [.str (Str.ofString w)]) → Q (.ref res) H') : callW theP (n + 2) false "_law_looked_at" [.ref head, .ref tk] H Q X := by
  refine call_of (d := f__law_looked_at) rfl rfl ?_
  refine s_ite (c := decide (a < 1) || (decide (60 < a) || (decide (b < 2) || decide (60 < b)))) (Ev.or (EvO.any (Ev.cmp (Ev.item (Ev.var rfl) Ev.int hh rfl) Ev.int .lt) (EvO.any (Ev.cmp (Ev.item (Ev.var rfl) Ev.int hh rfl) Ev.int .gt) (EvO.any (Ev.cmp (Ev.item (Ev.var rfl) Ev.int hh rfl) Ev.int .lt) (EvO.one (Ev.cmp (Ev.item (Ev.var rfl) Ev.int hh rfl) Ev.int .gt)))))) (fun q => ?_) fun q => ?_
  · simp only [Bool.or_eq_true, decide_eq_true_eq] at q
    exact s_retw (w_list (Evs.cons Ev.str Evs.nil) fun c1 hc1 => hbad "train" c1 _ (if_neg (by omega)) hc1 (Ext.new _ hc1) (MH.set_selfE _ _ _))
  simp only [Bool.or_eq_false_iff, decide_eq_false_iff_not] at q
  have hs : 1 ≤ a ∧ a ≤ 60 ∧ 2 ≤ b ∧ b ≤ 60 := by omega
  have hL : lookR a b c nss = lookT a b c nss (fun _ _ => none) 0 [] := if_pos hs
  refine s_done (s_let (w_grid (seats := a) (stops := b) (Ev.range1 (Ev.item (Ev.var rfl) Ev.int hh rfl) (smallOf (by omega) (by omega))) ⟨hs.1, hs.2.1⟩ hs.2.2 (fun v H' e => Ev.sub (Ev.item (by array_get_dec) Ev.int (e _ _ hh) rfl) Ev.int) fun ro rb H1 E1 G1 hro hrb => ?_))
  have cel : ∀ {x : Addr} {o : MObj}, H x = some o → ¬ Cel rb a x := fun e z => by obtain ⟨i, i0, i1, rfl⟩ := z; rw [hrb i i0 i1] at e; cases e
  refine s_assign Ev.int (s_let (w_list Evs.nil fun fa hfa => ?_))
  have E2 := Ext.new (H := H1) (.lst []) hfa
  have h2 : (H1.set fa (.lst [])) fa = some (.lst []) := MH.set_selfE _ _ _
  have G2 : Gd (H1.set fa (.lst [])) ro rb a b (fun _ _ => none) := G1.keep fun x o _ ex => E2 _ _ ex
  have hfa0 := none_of_ext E1 hfa
  have nfa : ¬ Cel rb a fa := fun z => by obtain ⟨i, i0, i1, rfl⟩ := z; have := G1.row i i0 i1; rw [hfa] at this; cases this
  have nfr : fa ≠ ro := fun z => by have := G1.hl_; rw [← z, hfa] at this; cases this
  generalize H1.set fa (.lst []) = H2 at E2 h2 G2
  have E12 := E1.trans E2
  refine ⟨rfl, (Ev.var rfl : Ev _ _ _ _ _ (.ref tk)) _ _ ⟨as.map .ref, .lst (.inl (E12 _ _ ht)), for_inv (LookI H ro fa head rb a b c nss)
    (fun vs ρ H' z => by obtain ⟨_, _, _, _, _, _, _, _, _, _, _, _, _, _, _, _, _, _, _, q⟩ := z; exact .lst (.inl (q _ _ ht))) ?_ ?_ ⟨as, nss, 0, _, [], [], rfl, ha, hg, by sizeOf_list_dec, by sizeOf_list_dec, by sizeOf_list_dec, by sizeOf_list_dec, G2, h2, .nil, fun _ z => (by cases z), by rw [List.length_nil]; omega, rfl, E12⟩⟩⟩
  · rintro v vs ρ H' k ⟨as', rest, least, g, RR, cs, ev, qa, qg, p1, p2, p3, p4, G', q2, qc, qn, ql, el, E'⟩ hk
    cases qa with
    | nil => cases ev
    | @cons x ns as' rest hx qa =>
      obtain ⟨rfl, rfl⟩ := List.cons.inj ev
      obtain ⟨q, ms, rfl, m3, m4, m5, m6⟩ := good_cons (qg _ (.head _))
      have hx' := E' _ _ hx
      have hh' := E' _ _ hh
      have el : (if q < least ∨ c ≤ q then Except.error "ticket" else match seatT a b q (trip ms) g [] with
        | .error w => .error w
        | .ok (g', ps) => lookT a b c rest g' (q + 1) (RR ++ [(q, ps)])) = lookT a b c nss (fun _ _ => none) 0 [] := el
      refine s_ite (c := decide (q < least) || decide (c ≤ q)) (Ev.or (EvO.any (Ev.cmp (Ev.item (by array_get_dec) Ev.int hx' rfl) (by array_get_dec) .lt) (EvO.one (Ev.cmp (Ev.item (by array_get_dec) Ev.int hx' rfl) (Ev.item (by array_get_dec) Ev.int hh' rfl) .ge)))) (fun z => ?_) fun z => ?_
      · simp only [Bool.or_eq_true, decide_eq_true_eq] at z
        rw [if_pos z] at el
        exact s_retw (w_list (Evs.cons Ev.str Evs.nil) fun c1 hc1 => hbad "ticket" c1 _ (hL.trans el.symm) (none_of_ext E' hc1) (E'.trans (Ext.new _ hc1)) (MH.set_selfE _ _ _))
      · simp only [Bool.or_eq_false_iff, decide_eq_false_iff_not] at z
        rw [if_neg (by omega)] at el
        refine s_done (s_assign (v := .int (q + 1)) (Ev.add (Ev.item (by array_get_dec) Ev.int hx' rfl) Ev.int) (s_let (w_list Evs.nil fun sa hsa => ?_)))
        rw [List.length_cons] at ql
        have hsa0 := none_of_ext E' hsa
        refine look_parts (fa := fa) (tk := tk) (head := head) (least := q + 1) G' hx' hsa (cel hx) m3 m4 m5 ⟨by sizeOf_list_dec, by sizeOf_list_dec, by sizeOf_list_dec, by sizeOf_list_dec, by sizeOf_list_dec, by sizeOf_list_dec⟩ (fun w res H3 es hres f3 hr3 => hbad w res H3 ?_ (none_of_ext E' hres) (fun y o ey => f3 y o (E' _ _ ey) (cel ey)) hr3) fun ρ3 H3 g3 ps es G3 hs3 f3 V3 => ?_
        · rw [hL, ← el, es]
        have E3 : Ext H H3 := fun y o ey => f3 y o (E' _ _ ey) (cel ey)
        have q23 := f3 _ _ q2 nfa
        have csf : ¬ Cel rb a sa := fun z => by obtain ⟨i, i0, i1, rfl⟩ := z; have := G'.row i i0 i1; rw [hsa] at this; cases this
        have sfa : sa ≠ fa := fun z => by rw [z, q2] at hsa; cases hsa
        rw [es] at el
        refine s_expr (w_append (Ev.var V3.2.2.2.1) q23 (Ev.var V3.2.2.1) (by rw [List.length_map]; unfold bigList; omega) (s_done (hk _ _ ⟨as', rest, q + 1, g3, RR ++ [(q, ps)], cs ++ [sa], rfl, qa, fun ns hns => qg ns (.tail _ hns), V3.1, V3.2.2.2.1, V3.2.2.2.2.1, V3.2.2.2.2.2, ?_, by rw [MH.set_selfE, List.map_append]; rfl, ?_, fun y hy => ?_, by rw [List.length_append, List.length_cons, List.length_nil]; omega, el, fun y o ey => (MH.set_neE _ _ (mne hfa0 ey)).trans (E3 y o ey)⟩)))
        · exact G3.keep fun y o hy ey => (MH.set_neE _ _ fun (z : y = fa) => by subst z; exact hy.elim nfr nfa).trans ey
        · have keep : ∀ (y : Addr) (r : Int × List Part), (y ≠ fa ∧ H3 y = some (.lst (r.2.map partMV))) → (H3.set fa (.lst (cs.map MV.ref ++ [.ref sa]))) y = some (.lst (r.2.map partMV)) := fun y r z => (MH.set_neE _ _ z.1).trans z.2
          exact (all2_mem qc fun y r hy z => keep y r ⟨(qn y hy).1, f3 _ _ z (qn y hy).2.1⟩).append (.cons (keep sa (q, ps) ⟨sfa, hs3⟩) .nil)
        · rcases List.mem_append.mp hy with hy | hy
          · exact qn y hy
          · rw [List.mem_singleton.mp hy]; exact ⟨sfa, csf, hsa0⟩
  · rintro ρ H' ⟨as', rest, least, g, RR, cs, ev, qa, qg, p1, p2, p3, p4, G', q2, qc, qn, ql, el, E'⟩
    cases qa with
    | nil =>
      exact s_retw (w_list (Evs.cons Ev.str (Evs.cons (by array_get_dec) Evs.nil)) fun c1 hc1 => hok g RR c1 fa cs _ (hL.trans el.symm) (none_of_ext E' hc1) (E'.trans (Ext.new _ hc1)) (MH.set_selfE _ _ _) (Ext.new _ hc1 _ _ q2) (qc.mono fun y r z => Ext.new _ hc1 _ _ z))
    | cons hx qa => cases ev
end
end Mine
end
section
set_option autoImplicit false
set_option linter.unusedVariables false
namespace Mine
open PySem
section
variable {n : Nat} {hd : Bool} {H H' : MH} {Q : MV → MH → Prop} {X : String → MH → Prop}
noncomputable def tkt : Str := Str.ofString "ticket"
noncomputable def numsD (u : Str) : List Int := (numsIn u tkt).getD []
theorem rowT_of {u : Str} (h : okRow (numsD u) = true) : rowT u = some (numsD u) := by
  unfold numsD at h ⊢
  unfold rowT
  show (numsIn u tkt).bind _ = _
  cases e : numsIn u tkt with
  | none => rw [e] at h; exact absurd h (by decide)
  | some ns => rw [e] at h; exact if_pos h
theorem rows_all {ls : List Str} (h : ∀ u ∈ ls, okRow (numsD u) = true) : mapO rowT ls = some (ls.map numsD) := by
  induction ls with
  | nil => rfl
  | cons u ls ih =>
    show (rowT u).bind _ = _
    rw [rowT_of (h u (.head _)), ih fun v hv => h v (.tail _ hv)]; rfl
theorem rowT_none {u : Str} (h : okRow (numsD u) = false) : rowT u = none := by
  cases e : rowT u with
  | none => rfl
  | some ns =>
    obtain ⟨k1, k2⟩ := rowT_some e
    have : numsD u = ns := by unfold numsD tkt; rw [k1]; rfl
    rw [this, k2] at h; cases h
theorem read_look {text l : Str} {ls : List Str} {a b c : Int} {rows : List (List Int)} (e : Txt.split text nl = l :: ls) (h : headT l = some [a, b, c]) (hr : mapO rowT ls = some rows) : readR text = match lookR a b c rows with
    | .error w => .error w
    | .ok (g, R) => .ok ((a, b, c), rows, g, R) := by
  rw [read_is e h hr]
  unfold lookR
  split <;> rfl
/-- how long the list is at a place, as a row's test -/
noncomputable def okAt (H : MH) : MV → MV
  | .ref x => (match H x with | some (.lst vs) => .bool (decide ((3 : Int) < vs.length) && decide (Int.fmod vs.length 3 = 1)) | _ => .none)
  | _ => .none
noncomputable def headAt (H : MH) : MV → MV
  | .ref x => (match H x with | some (.lst (v :: _)) => v | _ => .none)
  | _ => .none
theorem okAt_of {x : Addr} {vs : List MV} (h : H x = some (.lst vs)) : okAt H (.ref x) = .bool (decide ((3 : Int) < vs.length) && decide (Int.fmod vs.length 3 = 1)) := by
  show (match H x with | some (.lst vs) => MV.bool (decide ((3 : Int) < vs.length) && decide (Int.fmod vs.length 3 = 1)) | _ => .none) = _
  rw [h]
theorem headAt_of {x : Addr} {v : MV} {vs : List MV} (h : H x = some (.lst (v :: vs))) : headAt H (.ref x) = v := by
  show (match H x with | some (.lst (v :: _)) => v | _ => MV.none) = _
  rw [h]
theorem ok_len {ns : List Int} : (decide ((3 : Int) < (ns.map MV.int).length) && decide (Int.fmod ((ns.map MV.int).length : Int) 3 = 1)) = okRow ns := by
  unfold okRow
  rw [List.length_map, Int.fmod_eq_emod_of_nonneg _ (by decide), Bool.eq_iff_iff]
  simp only [Bool.and_eq_true, decide_eq_true_eq]
  omega
theorem okAt_map {as : List Addr} {nss : List (List Int)} (h : All2 (fun x ns => H x = some (.lst (ns.map MV.int))) as nss) : (as.map MV.ref).map (okAt H) = (nss.map okRow).map MV.bool := by
  induction h with
  | nil => rfl
  | @cons x ns as nss hx _ ih =>
    rw [List.map_cons, List.map_cons, List.map_cons, List.map_cons, ih]
    refine congrArg (· :: _) ?_
    rw [okAt_of hx]; exact congrArg MV.bool ok_len
theorem headAt_map {as : List Addr} {nss : List (List Int)} (h : All2 (fun x ns => H x = some (.lst (ns.map MV.int))) as nss) (hg : ∀ ns ∈ nss, ns ≠ []) : (as.map MV.ref).map (headAt H) = (nss.map fun ns => ns.headD 0).map MV.int := by
  induction h with
  | nil => rfl
  | @cons x ns as nss hx _ ih =>
    rw [List.map_cons, List.map_cons, List.map_cons, List.map_cons, ih fun m hm => hg m (.tail _ hm)]
    refine congrArg (· :: _) ?_
    cases ns with
    | nil => exact absurd rfl (hg _ (.head _))
    | cons k ms => exact headAt_of hx
theorem all2_at {α β : Type} {R : α → β → Prop} {l : List α} {r : List β} (h : All2 R l r) {a : α} (ha : a ∈ l) : ∃ b ∈ r, R a b := by
  induction h with
  | nil => cases ha
  | cons h _ ih =>
    cases ha with
    | head => exact ⟨_, .head _, h⟩
    | tail _ ha => exact (ih ha).imp fun b z => ⟨.tail _ z.1, z.2⟩
theorem all2_maps {α β γ : Type} {R : α → γ → Prop} {f : β → γ} {l : List α} {r : List β} (h : All2 (fun a b => R a (f b)) l r) : All2 R l (r.map f) := by
  induction h with
  | nil => exact .nil
  | cons h _ ih => exact .cons h ih
theorem s_due {text : Str} (hl : text.length ≤ 800000 - 1)
    (hok : ∀ a b c rows g RR res fa cs head tks H', readR text = .ok ((a, b, c), rows, g, RR) → Ext H H' → H' res = some (.lst [.str (Str.ofString ""), .ref fa, .ref head, .ref tks]) → H' fa = some (.lst (cs.map .ref)) → All2 (fun x (y : Int × List Part) => H' x = some (.lst (y.2.map partMV))) cs RR → H' head = some (.lst ([a, b, c].map .int)) → H' tks = some (.lst ((rows.map fun ns => ns.headD 0).map .int)) → Q (.ref res) H')
    (hbad : ∀ w tl res H', readR text = .error w → Ext H H' → H' res = some (.lst (.str (Str.ofString w) :: tl)) → Q (.ref res) H') : callW theP (n + 3) false "_law_due" [.str text] H Q X := by
  refine call_of (d := f__law_due) rfl rfl ?_
  obtain ⟨l, ls, e⟩ := split_cons text nl
  obtain ⟨l1, l2⟩ := split_len (x := text) nl_one
  rw [e] at l1 l2
  rw [List.length_cons] at l1
  refine s_let (w_split (y := nl) (Ev.var rfl) Ev.str nl_one (Nat.lt_of_le_of_lt hl (by decide)) fun c1 hc1 => ?_)
  have E1 := Ext.new (H := H) (.lst ((Txt.split text nl).map MV.str)) hc1
  have h1 : (H.set c1 (.lst ((Txt.split text nl).map MV.str))) c1 = some (.lst (MV.str l :: ls.map .str)) := by rw [MH.set_selfE, e]; rfl
  generalize H.set c1 (.lst ((Txt.split text nl).map MV.str)) = H1 at E1 h1
  refine s_let (w_call (vs := [.str l, .str (Str.ofString "train")]) (Evs.cons (Ev.item (by array_get_dec) Ev.int h1 rfl) (Evs.cons Ev.str Evs.nil)) (s_law_numbers_of (Nat.lt_of_le_of_lt (l2 l (.head _)) (Nat.lt_of_le_of_lt hl (by decide))) fun c2 H2 hc2 E2 h2 => ?_))
  have h12 := E2 _ _ h1
  refine s_let ⟨rfl, w_slice (Ev.var (by sizeOf_list_dec)) (.inl h12) Ev.int Ev.none .int .none fun c4 hc4 => ?_⟩
  rw [cut_tail]
  have E4 := Ext.new (H := H2) (.lst (ls.map MV.str)) hc4
  have h4 : (H2.set c4 (.lst (ls.map MV.str))) c4 = some (.lst (ls.map MV.str)) := MH.set_selfE _ _ _
  generalize H2.set c4 (.lst (ls.map MV.str)) = H4 at E4 h4
  refine ⟨_, .lst (.inl h4), comp_inv (fun vs acc H' => Ext H4 H' ∧ ∃ pre rest as, ls = pre ++ rest ∧ vs = rest.map MV.str ∧ acc = as.map MV.ref ∧ All2 (fun x u => H' x = some (.lst ((numsD u).map .int))) as pre) (fun vs acc H' i => .lst (.inl (i.1 _ _ h4))) (fun v H k hk => hk) ?_ ?_ _ _ _ (by rw [List.length_nil, List.length_map]; unfold bigList; (first | lia | omega)) ⟨.refl _, [], ls, [], rfl, rfl, rfl, .nil⟩⟩
  · rintro v vs acc H' k ⟨E5, pre, rest, as, ew, ev, rfl, qa⟩ hk
    cases rest with
    | nil => cases ev
    | cons u rest =>
      obtain ⟨rfl, rfl⟩ := List.cons.inj ev
      refine w_call (vs := [.str u, .str tkt]) (Evs.cons (by array_get_dec) (Evs.cons Ev.str Evs.nil)) (s_law_numbers_of (Nat.lt_of_le_of_lt (l2 u (.tail _ (by rw [ew]; exact List.mem_append.mpr (.inr (.head _))))) (Nat.lt_of_le_of_lt hl (by decide))) fun c6 H6 hc6 E6 h6 => hk _ _ ⟨E5.trans E6, pre ++ [u], rest, as ++ [c6], by rw [ew, List.append_assoc]; rfl, rfl, by rw [List.map_append]; rfl, (qa.mono fun x y z => E6 _ _ z).append (.cons h6 .nil)⟩)
  rintro acc H5 c5 ⟨E5, pre, rest, as, ew, ev, rfl, qa⟩ hc5
  have hr : rest = [] := by cases rest with | nil => rfl | cons => cases ev
  subst hr
  rw [List.append_nil] at ew
  subst ew
  have E6 := Ext.new (H := H5) (.lst (as.map MV.ref)) hc5
  have h6 : (H5.set c5 (.lst (as.map MV.ref))) c5 = some (.lst (as.map MV.ref)) := MH.set_selfE _ _ _
  generalize H5.set c5 (.lst (as.map MV.ref)) = H6 at E6 h6
  have E26 := (E4.trans E5).trans E6
  have E06 := (E1.trans E2).trans E26
  have h26 := E26 _ _ h2
  have qa6 : All2 (fun x ns => H6 x = some (.lst (ns.map MV.int))) as (ls.map numsD) := all2_maps (qa.mono fun x y z => E6 _ _ z)
  have al : as.length = ls.length := qa.length_eq
  have ln : ((((numsIn l (Str.ofString "train")).getD []).map MV.int).length : Int) = ((numsIn l (Str.ofString "train")).getD []).length := by rw [List.length_map]
  refine s_itew (w_or2 (w_ev (Ev.cmp (Ev.lenL (by array_get_dec) h26) Ev.int .nei) ?_))
  by_cases h3 : ((numsIn l (Str.ofString "train")).getD []).length = 3
  case neg =>
    refine it_t (by rw [ln]; rw [decide_eq_false (by (first | lia | omega))]; rfl) (it_t rfl (s_retw (w_list (Evs.cons Ev.str Evs.nil) fun c9 hc9 => hbad "text" [] c9 _ (read_head e ?_) (E06.trans (Ext.new _ hc9)) (MH.set_selfE _ _ _))))
    cases en : numsIn l (Str.ofString "train") with
    | none => unfold headT; rw [en]; rfl
    | some ns => rw [headT_is en]; rw [en] at h3; exact if_neg h3
  obtain ⟨is, en⟩ : ∃ is, numsIn l (Str.ofString "train") = some is := by
    cases en : numsIn l (Str.ofString "train") with
    | none => rw [en] at h3; cases h3
    | some is => exact ⟨is, rfl⟩
  rw [en] at h26 h3
  have h3 : is.length = 3 := h3
  have hd3 := (headT_is en).trans (if_pos h3)
  obtain ⟨a, b, c, rfl⟩ : ∃ a b c, is = [a, b, c] := by
    match is, h3 with
    | [a, b, c], _ => exact ⟨a, b, c, rfl⟩
  refine it_f (by rw [ln, en]; rfl) (w_not (w_bi1 (w_compL (fun _ => true) (okAt H6) (by array_get_dec) h6 (by rw [List.length_map]; unfold bigList; (first | lia | omega)) (fun v hv => Ev.bool) (fun v hv _ => ?_) fun c7 hc7 => ?_)))
  · obtain ⟨x, hx, rfl⟩ := List.mem_map.mp hv
    obtain ⟨ns, _, hns⟩ := all2_at qa6 hx
    have : okAt H6 (.ref x) = .bool (decide ((3 : Int) < (ns.map MV.int).length) && decide (Int.fmod ((ns.map MV.int).length : Int) 3 = 1)) := okAt_of hns
    rw [this]
    exact Ev.and (EvA.any (Ev.cmp (Ev.lenL (by array_get_dec) hns) Ev.int .gt) (EvA.one (Ev.cmp (Ev.mod (Ev.lenL (by array_get_dec) hns) Ev.int (by decide)) Ev.int .eqi)))
  rw [List.filter_eq_self.mpr fun _ _ => rfl, okAt_map qa6]
  have E7 := Ext.new (H := H6) (.lst (((ls.map numsD).map okRow).map MV.bool)) hc7
  refine .allL rfl (.inl (MH.set_selfE _ _ _)) ?_
  generalize H6.set c7 (.lst (((ls.map numsD).map okRow).map MV.bool)) = H7 at E7
  have E07 := E06.trans E7
  cases hall : ((ls.map numsD).map okRow).all id with
  | false =>
    refine nt_t (s_retw (w_list (Evs.cons Ev.str Evs.nil) fun c9 hc9 => hbad "text" [] c9 _ (read_rows e ?_) (E07.trans (Ext.new _ hc9)) (MH.set_selfE _ _ _)))
    rw [List.map_map, List.all_map] at hall
    obtain ⟨u, hu, hz⟩ := List.all_eq_false.mp hall
    exact mapO_none hu (rowT_none (Bool.eq_false_iff.mpr hz))
  | true =>
    refine nt_f (s_done ?_)
    rw [List.map_map, List.all_map] at hall
    have hrows := rows_all (ls := ls) fun u hu => List.all_eq_true.mp hall u hu
    have hg : ∀ ns ∈ ls.map numsD, Good ns := fun ns hns => by
      obtain ⟨u, hu, rfl⟩ := List.mem_map.mp hns
      have k := List.all_eq_true.mp hall u hu
      obtain ⟨k1, k2⟩ := rowT_some (rowT_of k)
      obtain ⟨k3, k4⟩ := nums_in k1
      exact ⟨k2, k3, by have := l2 u (.tail _ hu); (first | lia | omega)⟩
    have hne : ∀ ns ∈ ls.map numsD, ns ≠ [] := fun ns hns z => by
      obtain ⟨k, ms, e0, _⟩ := good_cons (hg ns hns); rw [z] at e0; cases e0
    have hrl := read_look e hd3 hrows
    have qa7 : All2 (fun x ns => H7 x = some (.lst (ns.map MV.int))) as (ls.map numsD) := qa6.mono fun x y z => E7 _ _ z
    have tail : ∀ {H8 : MH} {res : Addr} {xs : List MV} {w : MV → Prop}, Ext H7 H8 → H8 res = some (.lst xs) → xs.length ≤ 5 → (∀ r tks H9, Ext H8 H9 → H9 r = some (.lst (xs ++ [.ref c2, .ref tks])) → H9 tks = some (.lst (((ls.map numsD).map fun ns => ns.headD 0).map .int)) → Q (.ref r) H9) → ∀ (ρ : Sto), ρ "_law_head" = some (.ref c2) → ρ "_law_tickets" = some (.ref c5) → ∀ Y : String → MH → Prop, wE (callW theP (n + 2)) false (.list (.cons (.var "_law_head") (.cons (.comp (.sub (.var "_law_one") (.int 0)) "_law_one" (.var "_law_tickets") (.bool true)) .nil))) ρ H8 (fun b H₂ => BinR H₂ Q .add (.ref res) b) Y := fun {H8 res xs w} E8 h8 hx hq ρ r1 r2 Y => by
      have qa8 : All2 (fun x ns => H8 x = some (.lst (ns.map MV.int))) as (ls.map numsD) := qa7.mono fun x y z => E8 _ _ z
      refine w_cons (w_ev (Ev.var r1) (w_cons (w_compL (fun _ => true) (headAt H8) (Ev.var r2) (E8 _ _ (E7 _ _ h6)) (by rw [List.length_map]; unfold bigList; (first | lia | omega)) (fun v hv => Ev.bool) (fun v hv _ => ?_) fun c8 hc8 => w_evs Evs.nil fun c9 hc9 => ?_)))
      · obtain ⟨x, hx, rfl⟩ := List.mem_map.mp hv
        obtain ⟨ns, hns0, hns⟩ := all2_at qa8 hx
        cases ns with
        | nil => exact absurd rfl (hne _ hns0)
        | cons k ms =>
          have : headAt H8 (.ref x) = .int k := headAt_of hns
          rw [this]
          exact Ev.item (by array_get_dec) Ev.int hns rfl
      · rw [List.filter_eq_self.mpr fun _ _ => rfl, headAt_map qa8 hne] at hc9 ⊢
        have E8' := Ext.new (H := H8) (.lst (((ls.map numsD).map fun ns => ns.headD 0).map MV.int)) hc8
        have E9 := Ext.new (H := H8.set c8 (.lst (((ls.map numsD).map fun ns => ns.headD 0).map MV.int))) (.lst [.ref c2, .ref c8]) hc9
        refine .app (E9 _ _ (E8' _ _ h8)) (MH.set_selfE _ _ _) (by simp only [List.length_cons, List.length_nil]; unfold bigList; (first | lia | omega)) fun c10 hc10 => hq c10 c8 _ ((E8'.trans E9).trans (Ext.new _ hc10)) (MH.set_selfE _ _ _) (Ext.new _ hc10 _ _ (E9 _ _ (MH.set_selfE _ _ _)))
    refine s_retw (w_bin (w_call (vs := [.ref c2, .ref c5]) (by array_get_dec) (s_looked_at (E7 _ _ h26) (E7 _ _ h6) qa7 hg (by rw [List.length_map]; (first | lia | omega)) (fun g RR res fa cs H8 el hres E8 r1 r2 r3 => ?_) fun w res H8 el hres E8 r1 => ?_)))
    · refine tail (w := fun _ => True) E8 r1 (by simp) (fun r tks H9 E9 q1 q2 => hok a b c _ g RR r fa cs c2 tks H9 (by rw [hrl, el]) ((E07.trans E8).trans E9) q1 (E9 _ _ r2) (r3.mono fun x y z => E9 _ _ z) (E9 _ _ (E8 _ _ (E7 _ _ h26))) q2) _ (by sizeOf_list_dec) (by sizeOf_list_dec) _
    · refine tail (w := fun _ => True) E8 r1 (by simp) (fun r tks H9 E9 q1 q2 => hbad w _ r H9 (by rw [hrl, el]) ((E07.trans E8).trans E9) q1) _ (by sizeOf_list_dec) (by sizeOf_list_dec) _
end
end Mine
end
section
set_option autoImplicit false
set_option linter.unusedVariables false
namespace Mine
open PySem
noncomputable def badWords : List String := ["text", "train", "ticket", "seat", "stretch", "shared"]
theorem bad_word {g : Grid} {seats stops : Int} {ah : List Part} {p : Part} (h : partBad g seats stops ah p ≠ "") : partBad g seats stops ah p ∈ badWords := by
  unfold partBad at h ⊢
  split
  · decide
  split
  · decide
  split
  · decide
  split
  · decide
  · rename_i h1 h2 h3 h4
    rw [if_neg h1, if_neg h2, if_neg h3, if_neg h4] at h
    exact absurd rfl h
theorem seatT_word {seats stops k : Int} {ps : List Part} {w : String} : ∀ {g : Grid} {ah : List Part}, seatT seats stops k ps g ah = .error w → w ∈ badWords := by
  induction ps with
  | nil => intro g ah h; cases h
  | cons p ps ih =>
    intro g ah h
    have h : (if partBad g seats stops ah p = "" then seatT seats stops k ps (markP g p (some k)) (ah ++ [p]) else .error (partBad g seats stops ah p)) = .error w := h
    split at h
    · exact ih h
    · cases h; exact bad_word ‹_›
theorem lookT_word {seats stops limit : Int} {rows : List (List Int)} {w : String} : ∀ {g : Grid} {least : Int} {R : Rides}, lookT seats stops limit rows g least R = .error w → w ∈ badWords := by
  induction rows with
  | nil => intro g l R h; cases h
  | cons ns rest ih =>
    intro g l R h
    have h : (if ns.headD 0 < l ∨ limit ≤ ns.headD 0 then Except.error "ticket" else match seatT seats stops (ns.headD 0) (trip ns.tail) g [] with
      | .error w => .error w
      | .ok (g', ps) => lookT seats stops limit rest g' (ns.headD 0 + 1) (R ++ [(ns.headD 0, ps)])) = .error w := h
    split at h
    · cases h; decide
    · cases e : seatT seats stops (ns.headD 0) (trip ns.tail) g [] with
      | error w' => rw [e] at h; cases h; exact seatT_word e
      | ok z => rw [e] at h; exact ih h
theorem read_word {text w} (h : readR text = .error w) : w ∈ badWords := by
  unfold readR at h
  split at h
  · cases h; decide
  split at h
  · split at h
    · split at h
      · cases h; exact lookT_word ‹_›
      · cases h
    · cases h; decide
  · cases h; decide
theorem word_back : (badWords.all fun w => (wordOf (clsOf w) == w) && excNames.contains (clsOf w)) = true := by decide
theorem word_cls {w : String} (h : w ∈ badWords) : wordOf (clsOf w) = w ∧ excNames.contains (clsOf w) = true := by
  obtain ⟨a, b⟩ := Bool.and_eq_true_iff.mp (List.all_eq_true.mp word_back w h)
  exact ⟨eq_of_beq a, b⟩
section
variable {n : Nat} {hd : Bool} {H H' : MH} {Q : MV → MH → Prop} {X : String → MH → Prop}
theorem s_law_read {text : Str} (hl : text.length ≤ 800000 - 1)
    (hok : ∀ a b c rows g R t rd hl ra rides res H', readR text = .ok ((a, b, c), rows, g, R) → Tr H' t rd hl ra a b c rides g → RidesAt H' (Own t rd hl ra a) rides R → (∀ x, Own t rd hl ra a x → H x = none) → Ext H H' → H' res = some (.lst [.str (Str.ofString ""), .ref t]) → Q (.ref res) H')
    (hbad : ∀ w res H', readR text = .error w → Ext H H' → H' res = some (.lst [.str (Str.ofString w)]) → Q (.ref res) H') : callW theP (n + 6) false "_law_read" [.str text] H Q X := by
  refine call_of (d := f__law_read) rfl rfl (s_try (s_retw ?_))
  refine w_cons (w_ev Ev.str (w_cons (w_call (vs := [.str text]) (by array_get_dec) (s_read hl (fun a b c rows g R t rd hl5 ra rides H' hr T RA ho E => w_evs Evs.nil fun c1 hc1 => ?_) fun w H' hr E => ?_))))
  · have E1 := Ext.new (H := H') (.lst [.str (Str.ofString ""), .ref t]) hc1
    exact hok a b c rows g R t rd hl5 ra rides c1 _ hr (T.ext E1) (RA.keep fun x o _ => E1 x o) ho (E.trans E1) (MH.set_selfE _ _ _)
  · obtain ⟨w1, w2⟩ := word_cls (read_word hr)
    refine s_retw (w_cons (w_call (vs := [.exc (clsOf w)]) (by array_get_dec) (s_class w2 fun H'' E2 => w_evs Evs.nil fun c1 hc1 => ?_)))
    have := Ext.new (H := H'') (.lst [.str (Str.ofString (wordOf (clsOf w)))]) hc1
    exact hbad w c1 _ hr ((E.trans E2).trans this) (by rw [MH.set_selfE, w1])
/-! how the notes are written -/
theorem w_joinE {Δ : CallT} {ρ : Sto} {e s : ME} {x : Str} {Y : String → MH → Prop} (he : Ev Δ hd e ρ H (.str x)) (h : wE Δ hd s ρ H (fun v H₁ => KindR H₁ (.str x) "join" 2 ∧ BmR H₁ Q "join" (.str x) [v]) Y) : wE Δ hd (.bm e "join" (.cons s .nil)) ρ H Q Y := he _ _ ⟨2, .str rfl, h⟩
/-- a row as it is written -/
noncomputable def lineOf (w : Str) (is : List Int) : Str := Txt.join sp (w :: is.map shown)
theorem s_line_of {word : Str} {na : Addr} {is : List Int} (hn : H na = some (.lst (is.map .int))) (hl : is.length ≤ 500000) (hb : ∀ i ∈ is, i.natAbs < 2 ^ 64) (hj : JoinOk sp (word :: is.map shown) = true) (h : ∀ H', Ext H H' → Q (.str (lineOf word is)) H') : callW theP (n + 1) false "line_of" [.str word, .ref na] H Q X := by
  refine call_of (d := f_line_of) rfl rfl (s_retw (w_joinE (x := sp) Ev.str (w_bin (w_list (Evs.cons (by array_get_dec) Evs.nil) fun c1 hc1 => ?_))))
  have E1 := Ext.new (H := H) (.lst [.str word]) hc1
  have h1 : (H.set c1 (.lst [.str word])) c1 = some (.lst [.str word]) := MH.set_selfE _ _ _
  generalize H.set c1 (.lst [.str word]) = H1 at E1 h1
  refine w_compL (fun _ => true) (fun v => match v with | .int i => .str (shown i) | _ => .none) (by array_get_dec) (E1 _ _ hn) (by rw [List.length_map]; unfold bigList; (first | lia | omega)) (fun v hv => Ev.bool) (fun v hv _ => ?_) fun c2 hc2 => ?_
  · obtain ⟨i, hi, rfl⟩ := List.mem_map.mp hv
    exact Ev.strI (by array_get_dec) (hb i hi)
  rw [List.filter_eq_self.mpr fun _ _ => rfl, List.map_map]
  have E2 := Ext.new (H := H1) (.lst (is.map fun i => MV.str (shown i))) hc2
  have h2 : (H1.set c2 (.lst (is.map fun i => MV.str (shown i)))) c2 = some (.lst (is.map fun i => MV.str (shown i))) := MH.set_selfE _ _ _
  show BinR (H1.set c2 (.lst (is.map fun i => MV.str (shown i)))) _ _ _ _
  generalize H1.set c2 (.lst (is.map fun i => MV.str (shown i))) = H2 at E2 h2
  refine .app (E2 _ _ h1) h2 (by rw [List.length_cons, List.length_nil, List.length_map]; unfold bigList; (first | lia | omega)) fun c3 hc3 => ⟨.str rfl, .join (ts := word :: is.map shown) (.inl ?_) hj (h _ ((E1.trans E2).trans (Ext.new _ hc3)))⟩
  rw [MH.set_selfE, List.map_cons, List.map_map]; rfl
end
end Mine
end
section
set_option autoImplicit false
set_option linter.unusedVariables false
namespace Mine
open PySem
/-! what is read is what is written -/
theorem mapO_shown {ws : List Str} : ∀ {is : List Int}, mapO numOf ws = some is → is.map shown = ws := by
  induction ws with
  | nil => intro is h; cases h; rfl
  | cons w ws ih =>
    intro is h
    have h' : (numOf w).bind (fun u => (mapO numOf ws).map (u :: ·)) = some is := h
    cases e : numOf w with
    | none => rw [e] at h'; cases h'
    | some u =>
      rw [e] at h'
      cases e2 : mapO numOf ws with
      | none => rw [e2] at h'; cases h'
      | some us =>
        rw [e2] at h'
        obtain rfl := Option.some.inj h'
        rw [List.map_cons, shown_num e, ih e2]
theorem nums_line {line word : Str} {ns : List Int} (h : numsIn line word = some ns) : lineOf word ns = line := by
  obtain ⟨w, ws, e⟩ := split_cons line sp
  unfold numsIn at h
  rw [e] at h
  have h' : (if w = word then mapO numOf ws else none) = some ns := h
  clear h
  split at h'
  · rename_i hw
    subst hw
    unfold lineOf
    rw [mapO_shown h', ← e]
    exact (StrLaws.glued_eq_join _ _).trans (StrLaws.join_split _ _)
  · cases h'
noncomputable def rowIs (x : Int × List Part) : List Int := x.1 :: x.2.flatMap fun p => [p.1, p.2.1, p.2.2]
noncomputable def textOf (seats stops coming : Int) (R : Rides) : Str := Txt.join nl (lineOf (Str.ofString "train") [seats, stops, coming] :: R.map fun x => lineOf (Str.ofString "ticket") (rowIs x))
theorem trip_flat : ∀ (m : Nat) (ns : List Int), ns.length = 3 * m → ((trip ns).flatMap fun p => [p.1, p.2.1, p.2.2]) = ns := fun m => by
  induction m with
  | zero => intro ns h; rw [List.eq_nil_of_length_eq_zero h]; rfl
  | succ m ih =>
    intro ns h
    match ns, h with
    | a :: b :: c :: r, h =>
      simp only [List.length_cons] at h
      show [a, b, c] ++ ((trip r).flatMap fun p => [p.1, p.2.1, p.2.2]) = _
      rw [ih r (by (first | lia | omega))]; rfl
    | [], h => simp at h
    | [_], h => simp at h; (first | lia | omega)
    | [_, _], h => simp at h; (first | lia | omega)
theorem row_back {ns : List Int} (h : okRow ns = true) : rowIs (ns.headD 0, trip ns.tail) = ns := by
  obtain ⟨a, b⟩ := Bool.and_eq_true_iff.mp h
  have a := of_decide_eq_true a
  have b := of_decide_eq_true b
  cases ns with
  | nil => simp at a
  | cons k ms =>
    unfold rowIs
    rw [List.length_cons] at b
    show k :: ((trip ms).flatMap _) = _
    rw [trip_flat (ms.length / 3) ms (by (first | lia | omega))]
theorem lookT_rides {seats stops limit : Int} {rows : List (List Int)} : ∀ {g g' : Grid} {least : Int} {R R' : Rides}, lookT seats stops limit rows g least R = .ok (g', R') → R' = R ++ rows.map fun ns => (ns.headD 0, trip ns.tail) := by
  induction rows with
  | nil => intro g g' l R R' h; cases h; rw [List.map_nil, List.append_nil]
  | cons ns rest ih =>
    intro g g' l R R' h
    have h : (if ns.headD 0 < l ∨ limit ≤ ns.headD 0 then Except.error "ticket" else match seatT seats stops (ns.headD 0) (trip ns.tail) g [] with
      | .error w => .error w
      | .ok (g', ps) => lookT seats stops limit rest g' (ns.headD 0 + 1) (R ++ [(ns.headD 0, ps)])) = .ok (g', R') := h
    split at h
    · cases h
    · cases e : seatT seats stops (ns.headD 0) (trip ns.tail) g [] with
      | error w' => rw [e] at h; cases h
      | ok z =>
        obtain ⟨g1, ps⟩ := z
        rw [e] at h
        have hp := seatT_parts e
        rw [List.nil_append] at hp
        rw [ih h, hp, List.append_assoc]; rfl
theorem rows_back {ls : List Str} : ∀ {rows : List (List Int)}, mapO rowT ls = some rows → (rows.map fun ns => lineOf (Str.ofString "ticket") (rowIs (ns.headD 0, trip ns.tail))) = ls := by
  induction ls with
  | nil => intro rows h; cases h; rfl
  | cons u ls ih =>
    intro rows h
    have h' : (rowT u).bind (fun x => (mapO rowT ls).map (x :: ·)) = some rows := h
    cases e : rowT u with
    | none => rw [e] at h'; cases h'
    | some ns =>
      rw [e] at h'
      cases e2 : mapO rowT ls with
      | none => rw [e2] at h'; cases h'
      | some us =>
        rw [e2] at h'
        obtain rfl := Option.some.inj h'
        obtain ⟨k1, k2⟩ := rowT_some e
        rw [List.map_cons, ih e2, row_back k2, nums_line k1]
/-- a text that is read is the text of its train -/
theorem text_back {text : Str} {a b c : Int} {rows : List (List Int)} {g : Grid} {R : Rides} (h : readR text = .ok ((a, b, c), rows, g, R)) : textOf a b c R = text := by
  obtain ⟨l, ls, e⟩ := split_cons text nl
  cases hh : headT l with
  | none => rw [read_head e hh] at h; cases h
  | some hd =>
    cases hm : mapO rowT ls with
    | none => rw [read_rows e hm] at h; cases h
    | some rs =>
      unfold headT at hh
      cases en : numsIn l (Str.ofString "train") with
      | none => rw [en] at hh; cases hh
      | some ns =>
        rw [en] at hh
        have hh : (if ns.length = 3 then some ns else none) = some hd := hh
        split at hh
        · rename_i h3
          obtain rfl := Option.some.inj hh
          obtain ⟨a', b', c', rfl⟩ : ∃ a b c, ns = [a, b, c] := by
            match ns, h3 with
            | [a, b, c], _ => exact ⟨a, b, c, rfl⟩
          have hd3 := (headT_is en).trans (if_pos h3)
          rw [read_is e hd3 hm] at h
          split at h
          · cases el : lookT a' b' c' rs (fun _ _ => none) 0 [] with
            | error w => rw [el] at h; cases h
            | ok z =>
              obtain ⟨g', R'⟩ := z
              rw [el] at h
              cases h
              have hR := lookT_rides el
              rw [List.nil_append] at hR
              unfold textOf
              rw [hR, List.map_map, nums_line en]
              have hb := rows_back hm
              show Txt.join nl (l :: (rows.map fun ns => lineOf (Str.ofString "ticket") (rowIs (ns.headD 0, trip ns.tail)))) = text
              rw [hb, ← e]
              exact (StrLaws.glued_eq_join _ _).trans (StrLaws.join_split _ _)
          · cases h
        · cases hh
end Mine
end
section
set_option autoImplicit false
set_option linter.unusedVariables false
namespace Mine
open PySem
/-! the books of a train that was read are right -/
theorem goes_end {seats b e : Int} {ps : List Part} (h : Goes seats b ps e) : ∃ q, ps.getLast? = some q ∧ q.2.2 = e := by
  induction h with
  | one _ _ _ => exact ⟨_, rfl, rfl⟩
  | cons _ _ _ _ _ ih => exact ih.imp fun q z => ⟨by rw [List.getLast?_cons_cons]; exact z.1, z.2⟩
theorem goes_snoc {seats b m : Int} {ah : List Part} (h : Goes seats b ah m) : ∀ {p q : Part}, ah.getLast? = some q → 0 ≤ p.1 → p.1 < seats → p.2.1 = m → p.2.1 < p.2.2 → q.1 ≠ p.1 → Goes seats b (ah ++ [p]) p.2.2 := by
  induction h with
  | @one s b e h0 h1 h2 =>
    intro p q hq p0 p1 e1 p2 hn
    cases hq
    obtain ⟨x, y, z⟩ := p
    have e1 : y = e := e1
    subst e1
    exact .cons h0 h1 h2 hn (.one p0 p1 p2)
  | @cons s b m e p' ps h0 h1 h2 hs t ih =>
    intro p q hq p0 p1 e1 p2 hn
    rw [List.getLast?_cons_cons] at hq
    exact .cons h0 h1 h2 hs (ih hq p0 p1 e1 p2 hn)
theorem marks_snoc' {g : Grid} {ah : List Part} {p : Part} {k : Option Int} : marks g (ah ++ [p]) k = markP (marks g ah k) p k := List.foldl_append
theorem seat_ok {seats stops k : Int} {g₀ : Grid} {ps : List Part} : ∀ {ah qs : List Part} {g' : Grid}, (∀ p ∈ ps, 0 ≤ p.1 ∧ 0 ≤ p.2.1) → (ah = [] ∨ ∃ b m, 0 ≤ b ∧ m ≤ stops - 1 ∧ Goes seats b ah m) → (∀ s l, Covs ah s l → g₀ s l = none) → seatT seats stops k ps (marks g₀ ah (some k)) ah = .ok (g', qs) →
    g' = marks g₀ qs (some k) ∧ (qs = [] ∨ ∃ b m, 0 ≤ b ∧ m ≤ stops - 1 ∧ Goes seats b qs m) ∧ ∀ s l, Covs qs s l → g₀ s l = none := by
  induction ps with
  | nil => intro ah qs g' _ hg hf h; cases h; exact ⟨rfl, hg, hf⟩
  | cons p ps ih =>
    intro ah qs g' hp hg hf h
    have h : (if partBad (marks g₀ ah (some k)) seats stops ah p = "" then seatT seats stops k ps (markP (marks g₀ ah (some k)) p (some k)) (ah ++ [p]) else .error (partBad (marks g₀ ah (some k)) seats stops ah p)) = .ok (g', qs) := h
    split at h
    · rename_i hb
      obtain ⟨q1, q2, q3, q4, q5⟩ := bad_in hb
      obtain ⟨p0, p1⟩ := hp p (.head _)
      rw [← marks_snoc'] at h
      refine ih (fun x hx => hp x (.tail _ hx)) (.inr ?_) (fun s l hc => ?_) h
      · rcases hg with rfl | ⟨b, m, b0, m0, G⟩
        · exact ⟨p.2.1, p.2.2, p1, q3, .one p0 q1 q2⟩
        · obtain ⟨q, hq, e⟩ := goes_end G
          unfold behind at q4
          rw [hq] at q4
          obtain ⟨z1, z2⟩ := Bool.and_eq_true_iff.mp (show (decide (q.2.2 = p.2.1) && !decide (q.1 = p.1)) = true from q4)
          rw [Bool.not_eq_true'] at z2
          exact ⟨b, p.2.2, b0, q3, goes_snoc G hq p0 q1 ((of_decide_eq_true z1).symm.trans e) q2 (of_decide_eq_false z2)⟩
      · by_cases hc' : Covs ah s l
        · exact hf s l hc'
        · obtain ⟨x, hx, hc⟩ := hc
          rcases List.mem_append.mp hx with hx | hx
          · exact absurd ⟨x, hx, hc⟩ hc'
          · obtain rfl := List.mem_singleton.mp hx
            have := free_at.mp q5 l hc.2.1 hc.2.2
            rw [← hc.1, marks_out hc'] at this
            exact this
    · cases h
theorem Inv.later {seats stops c c' : Int} {R : Rides} {g : Grid} (I : Inv seats stops c R g) (h : c ≤ c') : Inv seats stops c' R g := ⟨I.asc, fun x hx => ⟨(I.rng x hx).1, Int.lt_of_lt_of_le (I.rng x hx).2 h⟩, I.goes, I.cov⟩
theorem trip_pos : ∀ {ns : List Int}, (∀ i ∈ ns, 0 ≤ i) → ∀ p ∈ trip ns, 0 ≤ p.1 ∧ 0 ≤ p.2.1
  | a :: b :: c :: r, h, p, hp => by
    have hp : p ∈ (a, b, c) :: trip r := hp
    cases hp with
    | head => exact ⟨h a (.head _), h b (.tail _ (.head _))⟩
    | tail _ hp => exact trip_pos (fun i hi => h i (.tail _ (.tail _ (.tail _ hi)))) p hp
  | [], _, _, hp => by cases hp
  | [_], _, _, hp => by cases hp
  | [_, _], _, _, hp => by cases hp
theorem look_inv {seats stops limit : Int} {rows : List (List Int)} : ∀ {g g' : Grid} {least : Int} {R R' : Rides}, (∀ ns ∈ rows, Good ns) → 0 ≤ least → least ≤ limit ∨ rows = [] ∨ least < limit → Inv seats stops least R g → lookT seats stops limit rows g least R = .ok (g', R') → ∃ top, Inv seats stops top R' g' ∧ (top ≤ limit ∨ top = least) := by
  induction rows with
  | nil => intro g g' l R R' _ _ _ I h; cases h; exact ⟨l, I, .inr rfl⟩
  | cons ns rest ih =>
    intro g g' l R R' hg h0 _ I h
    have h : (if ns.headD 0 < l ∨ limit ≤ ns.headD 0 then Except.error "ticket" else match seatT seats stops (ns.headD 0) (trip ns.tail) g [] with
      | .error w => .error w
      | .ok (g', ps) => lookT seats stops limit rest g' (ns.headD 0 + 1) (R ++ [(ns.headD 0, ps)])) = .ok (g', R') := h
    obtain ⟨k, ms, rfl, m3, m4, m5, m6⟩ := good_cons (hg _ (.head _))
    split at h
    · cases h
    · rename_i hk
      have hk : ¬ (k < l ∨ limit ≤ k) := hk
      have h : (match seatT seats stops k (trip ms) g [] with
        | .error w => Except.error w
        | .ok (g', ps) => lookT seats stops limit rest g' (k + 1) (R ++ [(k, ps)])) = .ok (g', R') := h
      cases e : seatT seats stops k (trip ms) g [] with
      | error w' => rw [e] at h; cases h
      | ok z =>
        obtain ⟨g1, ps⟩ := z
        rw [e] at h
        obtain ⟨e1, e2, e3⟩ := seat_ok (g₀ := g) (ah := []) (trip_pos fun i hi => m5 i (.tail _ hi)) (.inl rfl) (fun s l hc => by obtain ⟨_, hx, _⟩ := hc; cases hx) e
        have hps := seatT_parts e
        rcases e2 with e2 | ⟨b, m, b0, m0, G⟩
        · rw [hps] at e2; exact absurd e2 m6
        · have I2 := inv_sell (I.later (show l ≤ k by (first | lia | omega))) (by (first | lia | omega)) G b0 m0 e3
          subst e1
          obtain ⟨top, I3, ht⟩ := ih (fun x hx => hg x (.tail _ hx)) (by (first | lia | omega)) (.inl (by (first | lia | omega))) I2 h
          exact ⟨top, I3, .inl (ht.elim id fun z => by (first | lia | omega))⟩
theorem read_inv {seats stops limit : Int} {rows : List (List Int)} {g : Grid} {R : Rides} (hg : ∀ ns ∈ rows, Good ns) (hl : 0 ≤ limit) (h : lookT seats stops limit rows (fun _ _ => none) 0 [] = .ok (g, R)) : Inv seats stops limit R g := by
  obtain ⟨top, I, ht⟩ := look_inv hg (Int.le_refl 0) (.inl hl) inv_init h
  exact I.later (ht.elim id fun z => z ▸ hl)
end Mine
end
section
set_option autoImplicit false
set_option linter.unusedVariables false
namespace Mine
open PySem
section
variable {n : Nat} {hd : Bool} {H H' : MH} {Z : Addr → Prop} {Q : MV → MH → Prop} {X : String → MH → Prop} {t rd hl : Addr} {ra : Int → Addr} {seats stops coming : Int} {R : Rides} {g : Grid}
theorem flat_len (ps : List Part) : (ps.flatMap fun p => [p.1, p.2.1, p.2.2]).length = 3 * ps.length := by
  induction ps with
  | nil => rfl
  | cons p ps ih => rw [List.flatMap_cons, List.length_append, ih, List.length_cons]; simp only [List.length_cons, List.length_nil]; (first | lia | omega)
theorem w_bmA {Δ : CallT} {ρ : Sto} {e : ME} {es : MEs} {a : Addr} {l : List MV} {Y : String → MH → Prop} (he : Ev Δ hd e ρ H (.ref a)) (ha : H a = some (.lst l)) (h : wEs Δ hd es ρ H (fun vs H₂ => KindR H₂ (.ref a) "append" 1 ∧ BmR H₂ Q "append" (.ref a) vs) Y) : wE Δ hd (.bm e "append" es) ρ H Q Y := he _ _ ⟨1, .lst ha rfl, h⟩
/-- the rows that are written fit -/
structure Fits (seats stops coming : Int) (R : Rides) : Prop where
  nums : ∀ x ∈ R, ∀ i ∈ rowIs x, i.natAbs < 2 ^ 64
  com : coming.natAbs < 2 ^ 64
  parts : ∀ x ∈ R, x.2.length ≤ 10000
  line : ∀ x ∈ R, JoinOk sp (Str.ofString "ticket" :: (rowIs x).map shown) = true
  head : JoinOk sp (Str.ofString "train" :: [seats, stops, coming].map shown) = true
  all : JoinOk nl (lineOf (Str.ofString "train") [seats, stops, coming] :: R.map fun x => lineOf (Str.ofString "ticket") (rowIs x)) = true
/-- the numbers of a ticket's row are put together -/
theorem part_loop {m : Nat} {pa na : Addr} {k : Int} {ps : List Part} {ss : MSs} {ρ₀ : Sto} {H1 : MH} {lines train : MV} {N : Sto → MH → Prop} {RR : MV → MH → Prop} {Y : String → Sto → MH → Prop} (hp : H1 pa = some (.lst (ps.map partMV))) (hn : H1 na = some (.lst [.int k])) (hl : ps.length ≤ 10000) (r1 : ρ₀ "numbers" = some (.ref na)) (r2 : ρ₀ "lines" = some lines) (r3 : ρ₀ "train" = some train)
    (hok : ∀ ρ H' c, Ext H1 H' → H' c = some (.lst ((rowIs (k, ps)).map .int)) → ρ "numbers" = some (.ref c) → ρ "lines" = some lines → ρ "train" = some train → wSs (callW theP m) false ss ρ H' N RR Y) :
    forW (.ref pa) (ps.map partMV) (fun v ρ H k => wSs (callW theP m) false (.cons (.assign "numbers" (.bin .add (.var "numbers") (.bi "list" (.cons (.var "part") .nil)))) .nil) (ρ.set "part" v) H k RR Y) (fun ρ H => wSs (callW theP m) false ss ρ H N RR Y) (ps.map partMV) ρ₀ H1 := by
  refine for_inv (fun vs ρ H' => ∃ pre rest c, ps = pre ++ rest ∧ vs = rest.map partMV ∧ Ext H1 H' ∧ H' c = some (.lst ((rowIs (k, pre)).map .int)) ∧ ρ "numbers" = some (.ref c) ∧ ρ "lines" = some lines ∧ ρ "train" = some train)
    (fun vs ρ H' z => by obtain ⟨_, _, _, _, _, q, _⟩ := z; exact .lst (.inl (q _ _ hp))) ?_ ?_ ⟨[], ps, na, rfl, rfl, .refl _, hn, r1, r2, r3⟩
  · rintro v vs ρ H' kk ⟨pre, rest, c, e, ev, E, hc, q1, q2, q3⟩ hk
    cases rest with
    | nil => cases ev
    | cons p rest =>
      obtain ⟨rfl, rfl⟩ := List.cons.inj ev
      refine s_let (w_bin (w_ev (v := .ref c) (by array_get_dec) (w_bi1 (w_ev (v := partMV p) (by array_get_dec) (.listT rfl fun c2 hc2 => ?_)))))
      have E2 := Ext.new (H := H') (.lst [.int p.1, .int p.2.1, .int p.2.2]) hc2
      have el : pre.length ≤ 10000 := by have := congrArg List.length e; rw [List.length_append] at this; (first | lia | omega)
      have lf := flat_len pre
      refine .app (E2 _ _ hc) (MH.set_selfE _ _ _) (by rw [List.length_map]; unfold rowIs; rw [List.length_cons, lf]; simp only [List.length_cons, List.length_nil]; unfold bigList; (first | lia | omega)) fun c3 hc3 => s_done (hk _ _ ⟨pre ++ [p], rest, c3, by rw [e, List.append_assoc]; rfl, rfl, (E.trans E2).trans (Ext.new _ hc3), ?_, by sizeOf_list_dec, by sizeOf_list_dec, by sizeOf_list_dec⟩)
      rw [MH.set_selfE]
      unfold rowIs
      rw [List.flatMap_append, List.map_cons, List.map_cons, List.map_append]; rfl
  · rintro ρ H' ⟨pre, rest, c, e, ev, E, hc, q1, q2, q3⟩
    have hr : rest = [] := by cases rest with | nil => rfl | cons => cases ev
    subst hr
    rw [List.append_nil] at e
    subst e
    exact hok ρ H' c E hc q1 q2 q3
inductive LineI (H : MH) (c6 la t : Addr) (l0 : Str) (R : Rides) (vs : List MV) (ρ : Sto) (H' : MH) : Prop
  | mk (pre rest : Rides) (e : R = pre ++ rest) (ev : vs = (rest.map Prod.fst).map MV.int) (E : Ext H H') (q6 : H' c6 = some (.lst ((R.map Prod.fst).map .int))) (q5 : H' la = some (.lst ((l0 :: pre.map fun x => lineOf (Str.ofString "ticket") (rowIs x)).map .str))) (r1 : ρ "lines" = some (.ref la)) (r2 : ρ "train" = some (.ref t))
theorem s_written (T : Trn H Z t rd hl ra seats stops coming R g) (F : Fits seats stops coming R) (h : ∀ H', Ext H H' → Q (.str (textOf seats stops coming R)) H') : callW theP (n + 3) false "written" [.ref t] H Q X := by
  have a1 := T.at_
  have s1 := T.hseats
  have s2 := T.hstops
  refine call_of (d := f_written) rfl rfl ?_
  refine s_let (w_cons (w_callw (w_cons (w_ev Ev.str (w_cons (w_bin (w_bi1 (w_meth (by array_get_dec) a1 rfl Evs.nil (s_size T (.listT rfl fun c1 hc1 => ?_))))))))))
  have E1 := Ext.new (H := H) (.lst [.int seats, .int stops]) hc1
  have h1 : (H.set c1 (.lst [.int seats, .int stops])) c1 = some (.lst [.int seats, .int stops]) := MH.set_selfE _ _ _
  generalize H.set c1 (.lst [.int seats, .int stops]) = H1 at E1 h1
  refine w_list (Evs.cons (Ev.attr (by array_get_dec) (E1 _ _ a1) rfl) Evs.nil) fun c2 hc2 => ?_
  have E2 := Ext.new (H := H1) (.lst [.int coming]) hc2
  refine .app (E2 _ _ h1) (MH.set_selfE _ _ _) (by show 2 + 1 ≤ bigList; decide) fun c3 hc3 => w_evs Evs.nil ?_
  have E3 := (E1.trans E2).trans (Ext.new (H := H1.set c2 (.lst [.int coming])) (.lst ([.int seats, .int stops] ++ [.int coming])) hc3)
  refine s_line_of (is := [seats, stops, coming]) (MH.set_selfE _ _ _) (by show 3 ≤ 500000; decide) (fun i hi => ?_) F.head fun H4 E4 => w_evs Evs.nil fun la hla => ?_
  · simp only [List.mem_cons, List.not_mem_nil, or_false] at hi
    have := F.com
    rcases hi with rfl | rfl | rfl <;> (first | lia | omega)
  have E4' := E3.trans E4
  have E5 := Ext.new (H := H4) (.lst [.str (lineOf (Str.ofString "train") [seats, stops, coming])]) hla
  have h5 : (H4.set la (.lst [.str (lineOf (Str.ofString "train") [seats, stops, coming])])) la = some (.lst [.str (lineOf (Str.ofString "train") [seats, stops, coming])]) := MH.set_selfE _ _ _
  generalize H4.set la (.lst [.str (lineOf (Str.ofString "train") [seats, stops, coming])]) = H5 at E5 h5
  have hla0 := none_of_ext E4' hla
  have E05 := E4'.trans E5
  have T5 := T.ext E05
  refine ⟨rfl, w_meth (by array_get_dec) T5.at_ rfl Evs.nil (s_tickets T5 fun c6 H6 hc6 E6 h6 => ⟨_, .lst (.inl h6), ?_⟩)⟩
  have n6 : c6 ≠ la := fun z => by rw [z, h5] at hc6; cases hc6
  refine for_inv (LineI H c6 la t (lineOf (Str.ofString "train") [seats, stops, coming]) R)
    (fun vs ρ H' z => by obtain ⟨_, _, _, _, _, q, _⟩ := z; exact .lst (.inl q)) ?_ ?_ ⟨[], R, rfl, rfl, E05.trans E6, h6, E6 _ _ h5, by sizeOf_list_dec, by sizeOf_list_dec⟩
  · rintro v vs ρ H' kk ⟨pre, rest, e, ev, E, q6, q5, r1, r2⟩ hk
    cases rest with
    | nil => cases ev
    | cons x rest =>
      obtain ⟨k, ps⟩ := x
      obtain ⟨rfl, rfl⟩ := List.cons.inj ev
      have hx : (k, ps) ∈ R := by rw [e]; exact List.mem_append.mpr (.inr (.head _))
      have T' := T.ext E
      refine s_let (w_list (Evs.cons (by array_get_dec) Evs.nil) fun na hna => ?_)
      have En := Ext.new (H := H') (.lst [.int k]) hna
      have hn' : (H'.set na (.lst [.int k])) na = some (.lst [.int k]) := MH.set_selfE _ _ _
      generalize H'.set na (.lst [.int k]) = Hn at En hn'
      have Tn := T'.ext En
      refine ⟨rfl, w_meth (vs := [.int k]) (by array_get_dec) Tn.at_ rfl (by array_get_dec) (s_parts Tn hx fun pa Hp hpa Ep hp => ⟨_, .lst (.inl hp), part_loop (lines := .ref la) (train := .ref t) hp (Ep _ _ hn') (F.parts _ hx) (by sizeOf_list_dec) (by sizeOf_list_dec) (by sizeOf_list_dec) fun ρ2 H2 c2 E2 hc2 u1 u2 u3 => ?_⟩)⟩
      have Ef := (En.trans Ep).trans E2
      refine s_expr (w_bmA (Ev.var u2) (Ef _ _ q5) (w_cons (w_call (vs := [.str (Str.ofString "ticket"), .ref c2]) (Evs.cons Ev.str (Evs.cons (Ev.var u1) Evs.nil)) (s_line_of hc2 (by unfold rowIs; rw [List.length_cons, flat_len]; have := F.parts _ hx; have this : ps.length ≤ 10000 := this; show 3 * ps.length + 1 ≤ _; (first | lia | omega)) (F.nums _ hx) (F.line _ hx) fun H3 E3' => w_evs Evs.nil ⟨.lst (E3' _ _ (Ef _ _ q5)) rfl, .append (E3' _ _ (Ef _ _ q5)) ?_ (s_done (hk _ _ ⟨pre ++ [(k, ps)], rest, by rw [e, List.append_assoc]; rfl, rfl, fun y o ey => (MH.set_neE _ _ (mne hla0 ey)).trans (E3' _ _ (Ef _ _ (E _ _ ey))), (MH.set_neE _ _ n6).trans (E3' _ _ (Ef _ _ q6)), ?_, u2, u3⟩))⟩))))
      · have := T.len
        have l2 := congrArg List.length e
        rw [List.length_append] at l2
        rw [List.length_map, List.length_cons, List.length_map]; unfold bigList; (first | lia | omega)
      · rw [MH.set_selfE, List.map_append, ← List.cons_append, List.map_append]; rfl
  · rintro ρ H' ⟨pre, rest, e, ev, E, q6, q5, r1, r2⟩
    have hr : rest = [] := by cases rest with | nil => rfl | cons => cases ev
    subst hr
    rw [List.append_nil] at e
    subst e
    exact s_ret (Ev.join (x := nl) Ev.str (by array_get_dec) (.inl q5) F.all) (h _ E)
end
end Mine
end
section
set_option autoImplicit false
set_option linter.unusedVariables false
namespace Mine
open PySem
section
variable {n : Nat} {hd : Bool} {H H' : MH} {Q : MV → MH → Prop} {X : String → MH → Prop}
theorem char_some {x : Str} {k : Int} (h0 : 0 ≤ k) (h1 : k < x.length) : (Txt.charAt x k).isSome = true := by
  unfold Txt.charAt
  have hk : k.toNat < x.length := by (first | lia | omega)
  rw [seqIndex_pos h0 hk]
  show (x.cps[k.toNat]?).isSome = true
  rw [getElem?_pos x.cps k.toNat hk]; rfl
theorem fmod_in {c m : Int} (h : 0 < m) : 0 ≤ c.fmod m ∧ c.fmod m < m := by
  rw [Int.fmod_eq_emod_of_nonneg _ (Int.le_of_lt h)]
  exact ⟨Int.emod_nonneg _ (by (first | lia | omega)), Int.emod_lt_of_pos _ h⟩
theorem s_sign_by {c : Int} (h : ∀ w : Str, w.length = 1 → Q (.str w) H) : callW theP (n + 1) hd "_law_sign_by" [.int c] H Q X := by
  refine call_of (d := f__law_sign_by) rfl rfl ?_
  refine s_assign Ev.str (s_assign (Ev.cat (by array_get_dec) Ev.str (by decide +kernel)) ?_)
  obtain ⟨m0, m1⟩ := fmod_in (c := c) (m := 96) (by decide)
  refine s_ret (Ev.sign (by array_get_dec) (Ev.mod (by array_get_dec) Ev.int (by decide)) (smallOf m0 (by (first | lia | omega))) (char_some m0 ?_)) (h _ rfl)
  rw [Str.length_append]
  exact Int.lt_of_lt_of_le m1 (by decide +kernel)
noncomputable def oddA : List Str := [Str.ofString "", Str.ofString " ", Str.ofString "ticket", Str.ofString "ticket 0", Str.ofString "ticket 1 0 0", Str.ofString "Ticket 0 0 0 1", Str.ofString "ticket  0 0 0 1", Str.ofString "ticket 0 0 0 1 "]
noncomputable def oddB : List Str := [Str.ofString "train 1 2 0", Str.ofString "ticket 00 0 0 1", Str.ofString "ticket 0 0 0 +1", Str.ofString "seat 0 0 0 1"]
theorem odd_len : ((oddA ++ oddB).all fun w => decide (w.length ≤ 100)) = true := by decide +kernel
theorem str_at {l : List Str} {k : Int} (h0 : 0 ≤ k) (h1 : k < l.length) : ∃ w ∈ l, atIdx (l.map MV.str) k = some (.str w) := by
  have hk : k.toNat < l.length := by (first | lia | omega)
  exact ⟨l[k.toNat], List.getElem_mem _, atIdx_nn h0 (by rw [List.getElem?_map, List.getElem?_eq_getElem hk]; rfl)⟩
theorem s_odd_row {c : Int} (h : ∀ (w : Str) H', w.length ≤ 100 → Ext H H' → Q (.str w) H') : callW theP (n + 1) hd "_law_odd_row" [.int c] H Q X := by
  refine call_of (d := f__law_odd_row) rfl rfl ?_
  obtain ⟨m0, m1⟩ := fmod_in (c := c) (m := 12) (by decide)
  refine s_let (w_list (vs := oddA.map .str) (by show Evs _ _ _ _ _ [MV.str _, .str _, .str _, .str _, .str _, .str _, .str _, .str _]; array_get_dec) fun c1 hc1 => ?_)
  have E1 := Ext.new (H := H) (.lst (oddA.map .str)) hc1
  have h1 : (H.set c1 (.lst (oddA.map .str))) c1 = some (.lst (oddA.map .str)) := MH.set_selfE _ _ _
  generalize H.set c1 (.lst (oddA.map .str)) = H1 at E1 h1
  refine s_retw (w_sub (w_bin (w_ev (v := .ref c1) (by array_get_dec) (w_list (vs := oddB.map .str) (by show Evs _ _ _ _ _ [MV.str _, .str _, .str _, .str _]; array_get_dec) fun c2 hc2 => ?_))))
  have E2 := Ext.new (H := H1) (.lst (oddB.map .str)) hc2
  refine .app (E2 _ _ h1) (MH.set_selfE _ _ _) (by show 8 + 4 ≤ bigList; decide) fun c3 hc3 => w_ev (v := .int (c.fmod 12)) (Ev.mod (by array_get_dec) Ev.int (by decide)) ?_
  obtain ⟨w, hw, hx⟩ := str_at (l := oddA ++ oddB) m0 m1
  refine ⟨.str w, .lst (.inl (by rw [MH.set_selfE, ← List.map_append])) hx, h w _ (of_decide_eq_true (List.all_eq_true.mp odd_len w hw)) ((E1.trans E2).trans (Ext.new _ hc3))⟩
end
end Mine
end
section
set_option autoImplicit false
set_option linter.unusedVariables false
namespace Mine
open PySem
/-! how long numbers and rows are -/
theorem digits_lt : ∀ (cs : List Nat) (a : Nat), PySem.NumText.AllDigits cs → cs.foldl (fun acc c => acc * 10 + (c - 48)) a < (a + 1) * 10 ^ cs.length := fun cs => by
  induction cs with
  | nil => intro a _; rw [List.foldl_nil, List.length_nil, Nat.pow_zero, Nat.mul_one]; exact Nat.lt_succ_self a
  | cons c cs ih =>
    intro a h
    rw [List.foldl_cons, List.length_cons]
    have h1 := h.head
    refine Nat.lt_of_lt_of_le (ih (a * 10 + (c - 48)) h.tail) ?_
    rw [Nat.pow_succ, Nat.mul_comm (10 ^ cs.length) 10, ← Nat.mul_assoc]
    exact Nat.mul_le_mul_right _ (by (first | lia | omega))
theorem num_lt {w : Str} {n : Int} (h : numOf w = some n) : n < 1000000000 := by
  obtain ⟨hc, rfl⟩ := num_some h
  obtain ⟨h1, _, h3⟩ := canon_of hc
  have h2 : PySem.NumText.digitsVal w.cps.toList < (0 + 1) * 10 ^ w.cps.toList.length := digits_lt w.cps.toList 0 h3
  have h4 : 10 ^ w.cps.toList.length ≤ 10 ^ 9 := Nat.pow_le_pow_right (by decide) h1.2
  (first | lia | omega)
theorem shown_len {i : Int} (h0 : 0 ≤ i) {k : Nat} (hk : 1 ≤ k) (h1 : i < 10 ^ k) : (shown i).length ≤ k := by
  obtain ⟨m, rfl⟩ := Int.eq_ofNat_of_zero_le h0
  have e : (shown ((m : Nat) : Int)).length = (Nat.toDigits 10 m).length := by
    show (shown ((m : Nat) : Int)).cps.toList.length = _
    unfold shown
    rw [PySem.W.KIN.signs_num, List.length_map]
  rw [e]
  exact PyProof.Rows.digits10_le hk (by have : ((m : Nat) : Int) < ((10 ^ k : Nat) : Int) := by rw [Int.natCast_pow]; exact h1
                                        (first | lia | omega))
/-- the length of all words -/
noncomputable def tot (ws : List Str) : Nat := (ws.map fun w => w.length).sum
theorem tot_set {ws : List Str} {w : Str} : ∀ {i : Nat}, tot (ws.set i w) ≤ tot ws + w.length := by
  induction ws with
  | nil => intro i; exact Nat.zero_le _
  | cons x ws ih =>
    intro i
    cases i with
    | zero => rw [List.set_cons_zero]; unfold tot; rw [List.map_cons, List.map_cons, List.sum_cons, List.sum_cons]; (first | lia | omega)
    | succ i =>
      have := ih (i := i)
      rw [List.set_cons_succ]; unfold tot at this ⊢; rw [List.map_cons, List.map_cons, List.sum_cons, List.sum_cons]; (first | lia | omega)
theorem tot_mem {ws : List Str} {w : Str} (h : w ∈ ws) : w.length ≤ tot ws := by
  induction ws with
  | nil => cases h
  | cons x ws ih =>
    unfold tot; rw [List.map_cons, List.sum_cons]
    cases h with
    | head => exact Nat.le_add_right _ _
    | tail _ h => exact Nat.le_trans (ih h) (Nat.le_add_left _ _)
end Mine
end
section
set_option autoImplicit false
set_option linter.unusedVariables false
namespace Mine
open PySem
section
variable {n : Nat} {hd : Bool} {H H' : MH} {Q : MV → MH → Prop} {X : String → MH → Prop}
noncomputable def Mk (c was : Int) : List Int := [was + 1, was + 1, maxI 0 (was - 1), 0, 1, 59, 60, 61, c.fmod (10 ^ 12)]
theorem mk_ok {c was : Int} (h0 : 0 ≤ was) (h1 : was < 1000000000) : ∀ i ∈ Mk c was, 0 ≤ i ∧ i < 10 ^ 12 := by
  have m := fmod_in (c := c) (m := 10 ^ 12) (by decide)
  intro i hi
  unfold Mk maxI at hi
  simp only [List.mem_cons, List.not_mem_nil, or_false] at hi
  rcases hi with rfl | rfl | rfl | rfl | rfl | rfl | rfl | rfl | rfl <;> first | exact m | (split <;> (first | lia | omega)) | (first | lia | omega)
theorem set_str {ws : List Str} {i : Nat} {w : Str} : (ws.map MV.str).set i (.str w) = (ws.set i w).map MV.str := (List.map_set ..).symm
theorem s_figure_spoilt {wa : Addr} {ws : List Str} {c : Int} (hw : H wa = some (.lst (ws.map .str))) (hl : ws.length ≤ 500000) (hb : tot ws ≤ 400000)
    (h : ∀ ws' H', ws'.length = ws.length → (ws.length < 2 → ws' = ws) → tot ws' ≤ 2 * tot ws + 100 → H' wa = some (.lst (ws'.map .str)) → (∀ x o, x ≠ wa → H x = some o → H' x = some o) → Q (.ref wa) H') : callW theP (n + 2) false "_law_figure_spoilt" [.ref wa, .int c] H Q X := by
  refine call_of (d := f__law_figure_spoilt) rfl rfl ?_
  have ln : ((ws.map MV.str).length : Int) = ws.length := by rw [List.length_map]
  refine s_ite (Ev.cmp (Ev.lenL (by array_get_dec) hw) Ev.int .lt) (fun q => s_ret (by array_get_dec) (h ws H rfl (fun _ => rfl) (by (first | lia | omega)) hw fun x o _ e => e)) fun q => s_done ?_
  rw [ln] at q
  have l2 := of_decide_eq_false q
  refine s_let (w_bin (w_ev Ev.int (w_call (vs := [.int c, .int 3, .int ((ws.length : Int) - 1)]) (Evs.cons (by array_get_dec) (Evs.cons Ev.int (Evs.cons (ln ▸ Ev.sub (Ev.lenL (by array_get_dec) hw) Ev.int) Evs.nil))) (s_mixed (by decide) (by (first | lia | omega)) fun v H1 v0 v1 E1 => .add ?_))))
  have hw1 := E1 _ _ hw
  obtain ⟨u, hu, eu⟩ := str_at (l := ws) (k := 1 + v) (by (first | lia | omega)) (by (first | lia | omega))
  refine s_let (w_bi2 (w_ev Ev.int (w_call (vs := [.str u]) (Evs.cons (Ev.item (by array_get_dec) (by array_get_dec) hw1 eu) Evs.nil) (s_figures (Nat.le_trans (tot_mem hu) (Nat.le_trans hb (by decide))) fun H2 E2 => .max2 rfl ?_))))
  have w0 : 0 ≤ maxI 0 ((numOf u).getD (-1)) ∧ maxI 0 ((numOf u).getD (-1)) < 1000000000 := by
    cases e : numOf u with
    | none => decide
    | some i => have a := num_pos e; have b := num_lt e; show 0 ≤ maxI 0 i ∧ maxI 0 i < _; unfold maxI; split <;> (first | lia | omega)
  generalize maxI 0 ((numOf u).getD (-1)) = was at w0
  have hw2 := E2 _ _ hw1
  refine s_let (w_sub (w_list (vs := (Mk c was).map .int) (Evs.cons (by array_get_dec) (Evs.cons (by array_get_dec) (Evs.cons (Ev.max Ev.int (by array_get_dec)) (Evs.cons Ev.int (Evs.cons Ev.int (Evs.cons Ev.int (Evs.cons Ev.int (Evs.cons Ev.int (Evs.cons (Ev.mod (by array_get_dec) (fun Q X q => .pow (by decide) (by decide) (by decide) q) (by decide)) Evs.nil))))))))) fun c3 hc3 => ?_))
  have E3 := Ext.new (H := H2) (.lst ((Mk c was).map .int)) hc3
  have h3 : (H2.set c3 (.lst ((Mk c was).map .int))) c3 = some (.lst ((Mk c was).map .int)) := MH.set_selfE _ _ _
  generalize H2.set c3 (.lst ((Mk c was).map .int)) = H3 at E3 h3
  refine w_call (vs := [.int c, .int 4, .int 9]) (by array_get_dec) (s_mixed (by decide) (by decide) fun y H4 y0 y1 E4 => ?_)
  have hy : y.toNat < (Mk c was).length := by show y.toNat < 9; (first | lia | omega)
  obtain ⟨x0, x1⟩ := mk_ok (c := c) w0.1 w0.2 _ (List.getElem_mem hy)
  have hx : atIdx ((Mk c was).map MV.int) y = some (.int (Mk c was)[y.toNat]) := atIdx_nn y0 (by rw [List.getElem?_map, List.getElem?_eq_getElem hy]; rfl)
  generalize (Mk c was)[y.toNat] = x at x0 x1 hx
  refine ⟨.int x, .lst (.inl (E4 _ _ h3)) hx, ?_⟩
  have E14 := ((E1.trans E2).trans E3).trans E4
  have hw4 := E14 _ _ hw
  have sl : (shown x).length ≤ 12 := shown_len x0 (by decide) x1
  have last : ∀ (ws2 : List Str) (H5 : MH) (ρ : Sto), ws2.length = ws.length → tot ws2 ≤ tot ws + 50 → H5 wa = some (.lst (ws2.map .str)) → (∀ z o, z ≠ wa → H z = some o → H5 z = some o) → ρ "_law_words" = some (.ref wa) → ρ "_law_cell" = some (.int c) →
      wSs (callW theP (n + 1)) false (.cons (.ite (.and (.cons (.cmp (.call "_law_mixed" (.cons (.var "_law_cell") (.cons (.int 8) (.cons (.int 3) .nil)))) (.cons .eq (.int 1) .nil)) (.cons (.cmp (.bi "len" (.cons (.var "_law_words") .nil)) (.cons .gt (.int 6) .nil)) .nil))) (.cons (.setIdx (.var "_law_words") (.int 5) (.sub (.var "_law_words") (.int 2))) .nil) .nil) (.cons (.ret (.var "_law_words")) .nil)) ρ H5 (fun _ H' => Q .none H') Q (fun c _ H' => X c H') := fun ws2 H5 ρ k1 k2 k3 k4 r1 r2 => by
    refine s_itew (w_and2 (w_cmpw (w_call (vs := [.int c, .int 8, .int 3]) (by array_get_dec) (s_mixed (by decide) (by decide) fun z H6 z0 z1 E6 => w_ev Ev.int ⟨_, .eqi, ?_⟩))))
    have k3' := E6 _ _ k3
    have k4' : ∀ z o, z ≠ wa → H z = some o → H6 z = some o := fun z o hz e => E6 _ _ (k4 z o hz e)
    have ret : wSs (callW theP (n + 1)) false (.cons (.ret (.var "_law_words")) .nil) ρ H6 (fun _ H' => Q .none H') Q (fun c _ H' => X c H') := s_ret (Ev.var r1) (h ws2 H6 k1 (fun z => by (first | lia | omega)) (by (first | lia | omega)) k3' k4')
    by_cases q1 : z = 1
    · refine it_t (decide_eq_true q1) (w_ev (Ev.cmp (Ev.lenL (Ev.var r1) k3') Ev.int .gt) ?_)
      by_cases q2 : (6 : Int) < ((ws2.map MV.str).length : Int)
      · rw [decide_eq_true q2]
        rw [List.length_map] at q2
        obtain ⟨u2, hu2, eu2⟩ := str_at (l := ws2) (k := 2) (by decide) (by (first | lia | omega))
        refine it_t rfl (s_setIdx (Ev.item (Ev.var r1) Ev.int k3' eu2) (Ev.var r1) Ev.int k3' (by decide) (by rw [List.length_map]; (first | lia | omega)) (s_done (s_ret (Ev.var r1) (h (ws2.set 5 u2) _ (by rw [List.length_set]; exact k1) (fun z => by (first | lia | omega)) ?_ (by rw [MH.set_selfE]; exact congrArg (fun l => some (MObj.lst l)) set_str) fun z o hz e => (MH.set_neE _ _ hz).trans (k4' z o hz e)))))
        have a1 := tot_set (ws := ws2) (w := u2) (i := 5)
        have a2 := tot_mem hu2
        (first | lia | omega)
      · rw [decide_eq_false q2]
        exact it_f rfl (s_done ret)
    · exact it_f (decide_eq_false q1) (it_f rfl (s_done ret))
  have t1 := tot_set (ws := ws) (w := shown x) (i := (1 + v).toNat)
  refine s_setIdx (x := .str (shown x)) (Ev.strI (by array_get_dec) (by (first | lia | omega))) (by array_get_dec) (by array_get_dec) hw4 (by (first | lia | omega)) (by rw [List.length_map]; (first | lia | omega)) ?_
  have h5 : (H4.set wa (.lst ((ws.map MV.str).set (1 + v).toNat (.str (shown x))))) wa = some (.lst ((ws.set (1 + v).toNat (shown x)).map .str)) := by rw [MH.set_selfE]; exact congrArg (fun l => some (MObj.lst l)) set_str
  have f5 : ∀ z o, z ≠ wa → H z = some o → (H4.set wa (.lst ((ws.map MV.str).set (1 + v).toNat (.str (shown x))))) z = some o := fun z o hz e => (MH.set_neE _ _ hz).trans (E14 _ _ e)
  generalize H4.set wa (.lst ((ws.map MV.str).set (1 + v).toNat (.str (shown x)))) = H5 at h5 f5
  refine s_itew (w_cmpw (w_call (vs := [.int c, .int 7, .int 4]) (by array_get_dec) (s_mixed (by decide) (by decide) fun z H6 z0 z1 E6 => w_ev Ev.int ⟨_, .eqi, ?_⟩)))
  have h6 := E6 _ _ h5
  have f6 : ∀ z o, z ≠ wa → H z = some o → H6 z = some o := fun z o hz e => E6 _ _ (f5 z o hz e)
  by_cases q1 : z = 1
  · have ea : atIdx ((ws.set (1 + v).toNat (shown x)).map MV.str) (1 + v) = some (.str (shown x)) := atIdx_nn (by (first | lia | omega)) (by rw [List.getElem?_map, List.getElem?_set_self (by (first | lia | omega))]; rfl)
    have l0 : (Str.ofString "0").length = 1 := by decide +kernel
    have t2 := tot_set (ws := ws.set (1 + v).toNat (shown x)) (w := Str.ofString "0" ++ shown x) (i := (1 + v).toNat)
    rw [Str.length_append, l0] at t2
    refine it_t (decide_eq_true q1) (s_setIdx (x := .str (Str.ofString "0" ++ shown x)) (Ev.cat Ev.str (Ev.item (by array_get_dec) (by array_get_dec) h6 ea) (by rw [l0]; unfold bigList; (first | lia | omega))) (by array_get_dec) (by array_get_dec) h6 (by (first | lia | omega)) (by rw [List.length_map, List.length_set]; (first | lia | omega)) (s_done (last ((ws.set (1 + v).toNat (shown x)).set (1 + v).toNat (Str.ofString "0" ++ shown x)) _ _ (by rw [List.length_set, List.length_set]) (by (first | lia | omega)) (by rw [MH.set_selfE]; exact congrArg (fun l => some (MObj.lst l)) set_str) (fun z o hz e => (MH.set_neE _ _ hz).trans (f6 z o hz e)) (by sizeOf_list_dec) (by sizeOf_list_dec))))
  · exact it_f (decide_eq_false q1) (s_done (last _ H6 _ (by rw [List.length_set]) (by (first | lia | omega)) h6 f6 (by sizeOf_list_dec) (by sizeOf_list_dec)))
end
end Mine
end
section
set_option autoImplicit false
set_option linter.unusedVariables false
namespace Mine
open PySem
/-! how long texts are -/
theorem nl_len : nl.length = 1 := by decide +kernel
theorem sp_len : sp.length = 1 := by decide +kernel
theorem join_len {y t : Str} {ts : List Str} (hy : y.length = 1) : (Txt.join y (t :: ts)).length = tot (t :: ts) + ts.length := by
  show (Builtin.Str.glued y (t :: ts)).length = _
  rw [StrLaws.glued_eq_join, PyProof.Rows.len_join_cons, hy, Nat.mul_one]; rfl
theorem join_le {y : Str} {ts : List Str} (hy : y.length = 1) : (Txt.join y ts).length ≤ tot ts + ts.length := by
  show (Builtin.Str.glued y ts).length ≤ _
  rw [StrLaws.glued_eq_join]
  have := StrLaws.join_length_le y ts
  rw [hy, Nat.mul_one] at this
  exact this
theorem split_tot {x y : Str} (hy : y.length = 1) : tot (Txt.split x y) + (Txt.split x y).length = x.length + 1 := by
  have h := congrArg Str.length (StrLaws.join_split x y)
  obtain ⟨w, ws, e⟩ := split_cons x y
  rw [e] at h ⊢
  rw [PyProof.Rows.len_join_cons, hy, Nat.mul_one] at h
  rw [List.length_cons, ← Nat.add_assoc]
  exact congrArg (· + 1) h
theorem join_ok {y : Str} {ts : List Str} (hy : y.length = 1) (h : tot ts + ts.length ≤ 1048576) : JoinOk y ts = true := PyProof.Rows.joinOk_of_weight h (by rw [hy]; decide)
theorem tot_cons {w : Str} {ws : List Str} : tot (w :: ws) = w.length + tot ws := rfl
theorem tot_append {a b : List Str} : tot (a ++ b) = tot a + tot b := by
  induction a with
  | nil => exact (Nat.zero_add _).symm
  | cons w a ih => rw [List.cons_append, tot_cons, tot_cons, ih, Nat.add_assoc]
theorem tot_insert {ws : List Str} {w : Str} {i : Nat} : tot (ws.take i ++ w :: ws.drop i) = tot ws + w.length := by
  have h : tot (ws.take i) + tot (ws.drop i) = tot ws := by rw [← tot_append, List.take_append_drop]
  rw [tot_append, tot_cons]; (first | lia | omega)
theorem tot_take {ws : List Str} {i : Nat} : tot (ws.take i) ≤ tot ws := by
  have h : tot (ws.take i) + tot (ws.drop i) = tot ws := by rw [← tot_append, List.take_append_drop]
  (first | lia | omega)
theorem tot_set_eq {ws : List Str} {w : Str} : ∀ {i : Nat} (h : i < ws.length), tot (ws.set i w) + (ws[i]).length = tot ws + w.length := by
  induction ws with
  | nil => intro i h; exact absurd h (Nat.not_lt_zero _)
  | cons u ws ih =>
    intro i h
    cases i with
    | zero => show w.length + tot ws + u.length = u.length + tot ws + w.length; (first | lia | omega)
    | succ i =>
      have := ih (i := i) (Nat.lt_of_succ_lt_succ h)
      show u.length + tot (ws.set i w) + (ws[i]'(Nat.lt_of_succ_lt_succ h)).length = u.length + tot ws + w.length
      (first | lia | omega)
theorem cut_str {ws : List Str} {lo hi : Option Int} : cut (ws.map MV.str) lo hi = (cut ws lo hi).map MV.str := by
  unfold cut
  rw [List.length_map, ← List.map_drop, ← List.map_take]
theorem cut_none {ws : List Str} {hi : Option Int} : tot (cut ws none hi) ≤ tot ws ∧ (cut ws none hi).length ≤ ws.length := by
  unfold cut
  show tot ((ws.drop 0).take _) ≤ _ ∧ ((ws.drop 0).take _).length ≤ _
  rw [List.drop_zero]
  exact ⟨tot_take, by rw [List.length_take]; exact Nat.min_le_right _ _⟩
theorem tot_le {ws : List Str} {B : Nat} (h : ∀ w ∈ ws, w.length ≤ B) : tot ws ≤ ws.length * B := StrLaws.sumLen_le ws h
section
variable {n : Nat} {hd : Bool} {H H' : MH} {Q : MV → MH → Prop} {X : String → MH → Prop}
theorem w_bmI {Δ : CallT} {ρ : Sto} {e : ME} {es : MEs} {a : Addr} {l : List MV} {Y : String → MH → Prop} (he : Ev Δ hd e ρ H (.ref a)) (ha : H a = some (.lst l)) (h : wEs Δ hd es ρ H (fun vs H₂ => KindR H₂ (.ref a) "insert" 1 ∧ BmR H₂ Q "insert" (.ref a) vs) Y) : wE Δ hd (.bm e "insert" es) ρ H Q Y := he _ _ ⟨1, .lst ha rfl, h⟩
theorem ins_str {ws : List Str} {w : Str} {i : Nat} : (ws.map MV.str).take i ++ MV.str w :: (ws.map MV.str).drop i = (ws.take i ++ w :: ws.drop i).map MV.str := by
  rw [List.map_append, List.map_cons, List.map_take, List.map_drop]
end
end Mine
end
section
set_option autoImplicit false
set_option linter.unusedVariables false
namespace Mine
open PySem
/-- a number of one or two figures -/
noncomputable def Two (i : Int) : Prop := 0 ≤ i ∧ i < 100
theorem two_up {i m : Int} (h0 : 0 ≤ i) (h1 : i < m) (hm : Two m) : Two i ∧ Two (i + 1) := by unfold Two at *; omega
theorem two_len {i : Int} (h : Two i) : (shown i).length ≤ 20 := Nat.le_trans (shown_len h.1 (k := 2) (by decide) h.2) (by decide)
theorem two_nat {i : Int} (h : Two i) : i.natAbs < 2 ^ 64 := by unfold Two at h; (first | lia | omega)
theorem two_small {i : Int} (h : Two i) : smallI i := smallOf h.1 (Int.le_trans (Int.le_of_lt h.2) (by decide))
theorem two_many {s z y x : Int} (a0 : 0 ≤ s) (a1 : s < 3) (b0 : 0 ≤ z) (b1 : z < 7) (d0 : 0 ≤ y) (d1 : y < 2 + s) (e0 : 0 ≤ x) (e1 : x < 3) : Two (2 + s) ∧ Two (3 + z) ∧ Two (1 + y) ∧ Two (1 + y + x) ∧ Two (3 + z - 1) ∧ 1 + y ≤ 4 ∧ 3 + z - 1 ≤ 8 ∧ 2 + s ≠ 0 ∧ 0 < 2 + s ∧ 0 ≤ 1 + y ∧ 0 ≤ 3 + z - 1 := by unfold Two; omega
/-- short words -/
noncomputable def Short (m : Nat) (ws : List Str) : Prop := ws.length ≤ m ∧ ∀ w ∈ ws, w.length ≤ 20
theorem ar_short {t k m j : Nat} (a : t ≤ k * 20) (b : k ≤ m) (hm : m ≤ 30) (c : j ≤ t + k) : t + k ≤ 1048576 ∧ j ≤ 630 := by (first | lia | omega)
theorem Short.ok {m : Nat} {ws : List Str} (h : Short m ws) (hm : m ≤ 30) : JoinOk sp ws = true ∧ (Txt.join sp ws).length ≤ 630 := by
  obtain ⟨a, b⟩ := ar_short (tot_le h.2) h.1 hm (join_le (ts := ws) sp_len)
  exact ⟨join_ok sp_len a, b⟩
theorem Short.cons {m : Nat} {w : Str} {ws : List Str} (h : w.length ≤ 20) (hs : Short m ws) : Short (m + 1) (w :: ws) := ⟨Nat.succ_le_succ hs.1, fun u hu => by
  cases hu with
  | head => exact h
  | tail _ hu => exact hs.2 u hu⟩
theorem Short.nil : Short 0 [] := ⟨Nat.le_refl _, fun _ h => by cases h⟩
theorem Short.app {m k : Nat} {ws us : List Str} (h : Short m ws) (hs : Short k us) : Short (m + k) (ws ++ us) := ⟨by rw [List.length_append]; exact Nat.add_le_add h.1 hs.1, fun u hu => (List.mem_append.mp hu).elim (h.2 u) (hs.2 u)⟩
theorem ar_leg {j b : Int} (h0 : 0 ≤ j) (h1 : j < b) : j + 1 ≤ b ∧ 2 + 3 * (j + 1).toNat = 2 + 3 * j.toNat + 3 := by (first | lia | omega)
theorem ar_legs {j b : Int} (h1 : j ≤ b) (hb : b ≤ 8) : 2 + 3 * j.toNat ≤ 30 := by (first | lia | omega)
theorem ar_rows {t k j : Nat} {i b : Int} (a : t ≤ k * 630) (c : j ≤ t + k) (h : (k : Int) = 1 + i) (hi : i ≤ b) (hb : b ≤ 4) : t + k ≤ 1048576 ∧ j ≤ 10000 := by (first | lia | omega)
theorem ar_row {k : Nat} {i b : Int} (h : (k : Int) = 1 + i) (hi : i < b) (hb : b ≤ 4) : i + 1 ≤ b ∧ k < bigList ∧ ((k + 1 : Nat) : Int) = 1 + (i + 1) := by unfold bigList; (first | lia | omega)
section
variable {n : Nat} {hd : Bool} {H H' : MH} {Q : MV → MH → Prop} {X : String → MH → Prop}
theorem len_train : (Str.ofString "train").length = 5 := by decide +kernel
theorem len_ticket : (Str.ofString "ticket").length = 6 := by decide +kernel
theorem ev_shown {Δ : CallT} {ρ : Sto} {e : ME} {i : Int} (he : Ev Δ hd e ρ H (.int i)) (h : Two i) : Ev Δ hd (.bi "str" (.cons e .nil)) ρ H (.str (shown i)) := Ev.strI he (two_nat h)
theorem s_changing {c : Int} (h : ∀ (w : Str) H', 2 ≤ w.length → w.length ≤ 10000 → Ext H H' → Q (.str w) H') : callW theP (n + 1) false "_law_changing" [.int c] H Q X := by
  refine call_of (d := f__law_changing) rfl rfl ?_
  obtain ⟨a0, a1⟩ := fmod_in (c := c) (m := 3) (by decide)
  have s0 : 0 < 2 + c.fmod 3 := Int.lt_of_lt_of_le (by decide) (Int.add_le_add_left a0 2)
  obtain ⟨b0, b1⟩ := fmod_in (c := c.fdiv 3) (m := 7) (by decide)
  obtain ⟨d0, d1⟩ := fmod_in (c := c.fdiv 21) (m := 2 + c.fmod 3) s0
  obtain ⟨e0, e1⟩ := fmod_in (c := c.fdiv 63) (m := 3) (by decide)
  refine s_assign (Ev.add Ev.int (Ev.mod (by array_get_dec) Ev.int (by decide))) (s_assign (Ev.add Ev.int (Ev.mod (Ev.fdiv (by array_get_dec) Ev.int (by decide) (by decide)) Ev.int (by decide))) (s_assign (Ev.add Ev.int (Ev.mod (Ev.fdiv (by array_get_dec) Ev.int (by decide) (by decide)) (by array_get_dec) (Int.ne_of_gt s0))) ?_))
  have hm : Ev (callW theP n) false (.bin .add (.var "_law_many") (.bin .mod (.bin .fdiv (.var "_law_cell") (.int 63)) (.int 3))) ((((Sto.ofArgs ["_law_cell"] [.int c]).set "_law_seats_here" (.int (2 + c.fmod 3))).set "_law_stops_here" (.int (3 + (c.fdiv 3).fmod 7))).set "_law_many" (.int (1 + (c.fdiv 21).fmod (2 + c.fmod 3)))) H (.int (1 + (c.fdiv 21).fmod (2 + c.fmod 3) + (c.fdiv 63).fmod 3)) := Ev.add (by array_get_dec) (Ev.mod (Ev.fdiv (by array_get_dec) Ev.int (by decide) (by decide)) Ev.int (by decide))
  obtain ⟨t1, t2, t3, t4, t5, t6, t7, t8, t9, t10, t11⟩ := two_many a0 a1 b0 b1 d0 d1 e0 e1
  clear a0 a1 b0 b1 d0 d1 e0 e1 s0
  generalize 1 + (c.fdiv 21).fmod (2 + c.fmod 3) + (c.fdiv 63).fmod 3 = x at t4 hm
  generalize 1 + (c.fdiv 21).fmod (2 + c.fmod 3) = y at t3 t6 t10 hm
  generalize 3 + (c.fdiv 3).fmod 7 = z at t2 t5 t7 t11 hm
  generalize 2 + c.fmod 3 = s at t1 t8 t9 hm
  refine s_let (w_cons (w_joinE (x := sp) Ev.str (w_list (vs := [Str.ofString "train", shown s, shown z, shown x].map .str) (Evs.cons Ev.str (Evs.cons (ev_shown (by array_get_dec) t1) (Evs.cons (ev_shown (by array_get_dec) t2) (Evs.cons (ev_shown hm t4) Evs.nil)))) fun c1 hc1 => ?_)))
  obtain ⟨k1, k2⟩ := (Short.cons (w := Str.ofString "train") (by rw [len_train]; decide) (.cons (two_len t1) (.cons (two_len t2) (.cons (two_len t4) .nil)))).ok (by decide)
  have k3 := join_len (y := sp) (t := Str.ofString "train") (ts := [shown s, shown z, shown x]) sp_len
  have E1 := Ext.new (H := H) (.lst ([Str.ofString "train", shown s, shown z, shown x].map .str)) hc1
  refine ⟨.str rfl, .join (.inl (MH.set_selfE _ _ _)) k1 (w_evs Evs.nil fun c2 hc2 => ?_)⟩
  generalize Txt.join sp [Str.ofString "train", shown s, shown z, shown x] = l0 at k2 k3
  have k3 : 2 ≤ l0.length := by rw [k3]; exact Nat.le_trans (by decide) (Nat.le_add_left 3 _)
  generalize H.set c1 (.lst ([Str.ofString "train", shown s, shown z, shown x].map .str)) = H1 at E1 hc2
  have hc20 := none_of_ext E1 hc2
  have E2 := E1.newer (.lst [.str l0]) hc20
  refine s_range (fun i ρ H' => i ≤ y ∧ (ρ "_law_many" = some (.int y) ∧ ρ "_law_seats_here" = some (.int s) ∧ ρ "_law_stops_here" = some (.int z) ∧ ρ "_law_rows_here" = some (.ref c2)) ∧ Ext H H' ∧ ∃ ts : List Str, H' c2 = some (.lst (ts.map .str)) ∧ (ts.length : Int) = 1 + i ∧ 2 ≤ tot ts ∧ ∀ w ∈ ts, w.length ≤ 630) (Ev.range1 (by array_get_dec) (two_small t3)) ⟨t10, ⟨by sizeOf_list_dec, by sizeOf_list_dec, by sizeOf_list_dec, by sizeOf_list_dec⟩, E2, [l0], MH.set_selfE _ _ _, rfl, k3, fun w hw => by obtain rfl := List.mem_singleton.mp hw; exact k2⟩ ?_ ?_
  · rintro i ρ H3 k i0 i1 ⟨_, ⟨r1, r2, r3, r4⟩, E3, ts, u1, u2, u3, u4⟩ hk
    obtain ⟨hi, _⟩ := two_up i0 i1 t3
    refine s_let (w_list (vs := [Str.ofString "ticket", shown i].map .str) (Evs.cons Ev.str (Evs.cons (ev_shown (by array_get_dec) hi) Evs.nil)) fun c4 hc4 => ?_)
    refine s_range (fun j ρ' H' => j ≤ z - 1 ∧ (ρ' "_law_many" = some (.int y) ∧ ρ' "_law_seats_here" = some (.int s) ∧ ρ' "_law_stops_here" = some (.int z) ∧ ρ' "_law_rows_here" = some (.ref c2) ∧ ρ' "_law_ticket" = some (.int i)) ∧ Ext H3 H' ∧ ∃ cw ws, ρ' "_law_words" = some (.ref cw) ∧ H' cw = some (.lst (ws.map .str)) ∧ Short (2 + 3 * j.toNat) ws) (Ev.range1 (by array_get_dec) (two_small t5)) ⟨t11, ⟨by sizeOf_list_dec, by sizeOf_list_dec, by sizeOf_list_dec, by sizeOf_list_dec, by sizeOf_list_dec⟩, Ext.new _ hc4, c4, _, by sizeOf_list_dec, MH.set_selfE _ _ _, .cons (by rw [len_ticket]; decide) (.cons (two_len hi) .nil)⟩ ?_ ?_
    · rintro j ρ' H5 k' j0 j1 ⟨_, ⟨q1, q2, q3, q4, q5⟩, E5, cw, ws, q6, q7, S5⟩ hk'
      obtain ⟨m0, m1⟩ := fmod_in (c := j + i) (m := s) t9
      obtain ⟨hm, _⟩ := two_up m0 m1 t1
      obtain ⟨hj, hj'⟩ := two_up j0 j1 t5
      obtain ⟨v1, v2⟩ := ar_leg j0 j1
      refine s_let (w_bin (w_ev (v := .ref cw) (by array_get_dec) (w_list (vs := [shown ((j + i).fmod s), shown j, shown (j + 1)].map .str) (Evs.cons (ev_shown (Ev.mod (by array_get_dec) (by array_get_dec) t8) hm) (Evs.cons (ev_shown (by array_get_dec) hj) (Evs.cons (ev_shown (by array_get_dec) hj') Evs.nil))) fun c6 hc6 => ?_)))
      have E6 := Ext.new (H := H5) (.lst ([shown ((j + i).fmod s), shown j, shown (j + 1)].map .str)) hc6
      have S6 := S5.app (.cons (two_len hm) (.cons (two_len hj) (.cons (two_len hj') .nil)))
      rw [← v2] at S6
      exact .app (E6 _ _ q7) (MH.set_selfE _ _ _) (by rw [← List.length_append, ← List.map_append, List.length_map]; exact Nat.le_trans S6.1 (Nat.le_trans (ar_legs v1 t7) (by decide))) fun c7 hc7 => s_done (hk' _ _ ⟨v1, ⟨by sizeOf_list_dec, by sizeOf_list_dec, by sizeOf_list_dec, by sizeOf_list_dec, by sizeOf_list_dec⟩, (E5.trans E6).trans (Ext.new _ hc7), c7, _, by sizeOf_list_dec, by rw [MH.set_selfE, ← List.map_append], S6⟩)
    · rintro j ρ' H5 j1 ⟨j2, ⟨q1, q2, q3, q4, q5⟩, E5, cw, ws, q6, q7, S5⟩
      obtain ⟨g1, g2⟩ := S5.ok (ar_legs j2 t7)
      obtain ⟨v1, v2, v3⟩ := ar_row u2 i1 t6
      refine s_expr (w_append (Ev.var q4) (E5 _ _ u1) (Ev.join (x := sp) Ev.str (Ev.var q6) (.inl q7) g1) (by rw [List.length_map]; exact v2) (s_done (hk _ _ ⟨v1, ⟨q1, q2, q3, q4⟩, (E3.trans E5).newer _ hc20, ts ++ [Txt.join sp ws], ?_, ?_, ?_, fun w hw => ?_⟩)))
      · rw [MH.set_selfE, List.map_append]; rfl
      · rw [List.length_append]; exact v3
      · rw [tot_append]; exact Nat.le_trans u3 (Nat.le_add_right _ _)
      · rcases List.mem_append.mp hw with hw | hw
        · exact u4 w hw
        · obtain rfl := List.mem_singleton.mp hw; exact g2
  · rintro i ρ H3 i1 ⟨i2, ⟨r1, r2, r3, r4⟩, E3, ts, u1, u2, u3, u4⟩
    obtain ⟨v1, v2⟩ := ar_rows (tot_le u4) (join_le (ts := ts) nl_len) u2 i2 t6
    have m : 2 ≤ (Txt.join nl ts).length := by
      cases ts with
      | nil => exact absurd u3 (by decide)
      | cons t ts => rw [join_len nl_len]; exact Nat.le_trans u3 (Nat.le_add_right _ _)
    exact s_ret (Ev.join (x := nl) Ev.str (Ev.var r4) (.inl u1) (join_ok nl_len v1)) (h _ _ m v2 E3)
end
end Mine
end
section
set_option autoImplicit false
set_option linter.unusedVariables false
namespace Mine
open PySem
theorem le_big {x : Nat} (h : x ≤ 1000000) : x ≤ bigList := Nat.le_trans h (by decide)
theorem lt_big {x : Nat} (h : x ≤ 1000000) : x < bigList := Nat.lt_of_le_of_lt h (by decide)
theorem no_lt {m w : Int} (q : w = m) (z : m < w) : False := by subst q; exact Int.lt_irrefl _ z
theorem npos {k : Nat} (h : 1 ≤ k) : (0 : Int) < k := Int.ofNat_lt.mpr h
theorem len_pred {k : Nat} (h : 1 ≤ k) : 0 ≤ (k : Int) - 1 ∧ (k : Int) - 1 < k := by (first | lia | omega)
/-- how long a spoilt text may be -/
noncomputable def Okay (L : Nat) (ts : List Str) : Prop := tot ts + ts.length ≤ 2 * L + 301 ∧ (2 ≤ L → 2 ≤ tot ts + ts.length) ∧ ts ≠ []
theorem ne_len {ts : List Str} {k : Nat} (h : ts.length = k) (hk : 1 ≤ k) : ts ≠ [] := fun z => by rw [z] at h; rw [← h] at hk; exact absurd hk (by decide)
theorem ar_set {t k L r t' w : Nat} (W : t + k = L + 1) (rl : r ≤ t) (x : t' + r = t + w) (hk : 1 ≤ k) (hw : w ≤ 2 * r + 110) (h2 : 1 ≤ w ∨ r ≤ w) : t' + k ≤ 2 * L + 301 ∧ (2 ≤ L → 2 ≤ t' + k) := by (first | lia | omega)
theorem ar_ins {t k L r t' w : Nat} (W : t + k = L + 1) (rl : r ≤ t) (x : t' ≤ t + w) (hk : 1 ≤ k) (hw : w ≤ r + 101) : t' + (k + 1) ≤ 2 * L + 301 ∧ (2 ≤ L → 2 ≤ t' + (k + 1)) := by (first | lia | omega)
theorem okay_set {rows : List Str} {L i : Nat} {w : Str} (W : tot rows + rows.length = L + 1) (h : i < rows.length) (hw : w.length ≤ 2 * (rows[i]).length + 110) (h2 : 1 ≤ w.length ∨ (rows[i]).length ≤ w.length) : Okay L (rows.set i w) := by
  have hk : 1 ≤ rows.length := Nat.lt_of_le_of_lt (Nat.zero_le _) h
  have := ar_set W (tot_mem (List.getElem_mem h)) (tot_set_eq (w := w) h) hk hw h2
  refine ⟨?_, ?_, ne_len List.length_set hk⟩ <;> rw [List.length_set]
  · exact this.1
  · exact this.2
theorem okay_ins {rows ts : List Str} {L r : Nat} {w : Nat} (W : tot rows + rows.length = L + 1) (hk : 1 ≤ rows.length) (rl : r ≤ tot rows) (h : tot ts ≤ tot rows + w) (hl : ts.length = rows.length + 1) (hw : w ≤ r + 101) : Okay L ts := by
  have := ar_ins W rl h hk hw
  refine ⟨?_, ?_, ne_len hl (Nat.le_add_left _ _)⟩ <;> rw [hl]
  · exact this.1
  · exact this.2
theorem okay_same {rows ts : List Str} {L : Nat} (W : tot rows + rows.length = L + 1) (hk : 1 ≤ rows.length) (h : tot ts = tot rows) (hl : ts.length = rows.length) : Okay L ts := by
  refine ⟨?_, ?_, ne_len hl hk⟩ <;> rw [hl, h, W]
  · (first | lia | omega)
  · exact fun z => Nat.le_succ_of_le z
theorem ar_ws {t k L r t' k' : Nat} (W : t + k = L + 1) (rl : r ≤ t) (V : t' + k' = r + 1) (h : L ≤ 398000) : r ≤ 398001 ∧ k ≤ 398001 ∧ t' + k' ≤ 398002 := by (first | lia | omega)
theorem ar_fs {r t k t' j : Nat} (V : t + k = r + 1) (h : t' ≤ 2 * t + 100) (hj : j ≤ t' + k) (hs : t + k ≤ 398002) (hk : 1 ≤ k) : j ≤ 2 * r + 110 ∧ t' + k ≤ 1048576 := by (first | lia | omega)
theorem ar_cut {r t k t' k' j : Nat} (V : t + k = r + 1) (h : t' ≤ t) (h' : k' ≤ k) (hj : j ≤ t' + k') (hs : t + k ≤ 398002) : j ≤ r + 101 ∧ t' + k' ≤ 1048576 := by (first | lia | omega)
theorem ar_sl {A B L : Nat} {s : Int} (f1 : (A : Int) = s) (f2 : (B : Int) = L - (s + 1)) (h : L ≤ 398000) : A + B ≤ 1000000 ∧ A + B ≤ 2 * L + 300 ∧ (2 ≤ L → 1 ≤ A + B) := by (first | lia | omega)
theorem ar_sd {A B L : Nat} {s d : Int} (f1 : (A : Int) = s) (f2 : (B : Int) = L - (s + d)) (d0 : 0 ≤ d) (h : L ≤ 398000) : A + 1 ≤ 1000000 ∧ A + 1 + B ≤ 1000000 ∧ A + 1 + B ≤ 2 * L + 300 ∧ (2 ≤ L → 1 ≤ A + 1 + B) := by (first | lia | omega)
theorem ar_sp {L : Nat} {s d : Int} (s0 : 0 ≤ s) (s1 : s < L) (d0 : 0 ≤ d) (d1 : d < 2) : s ≤ L ∧ 0 ≤ s + d ∧ s + d ≤ L := by (first | lia | omega)
theorem ar_fin {L k t : Nat} (h : t + (k + 1) ≤ 2 * L + 301) (hl : L ≤ 398000) (h2 : 2 ≤ L → 2 ≤ t + (k + 1)) : t + (k + 1) ≤ 1048576 ∧ t + k ≤ 2 * L + 300 ∧ (2 ≤ L → 1 ≤ t + k) := by (first | lia | omega)
theorem ar_at {k : Nat} {a y : Int} (a0 : 0 ≤ a) (a1 : a < k) (y0 : 0 ≤ y) (y1 : y < 3) (h : k ≤ 398001) : 0 ≤ a + y ∧ a + y ≤ (bigList : Int) := by unfold bigList; (first | lia | omega)
theorem ins_len {ws : List Str} {w : Str} {i : Nat} : (ws.take i ++ w :: ws.drop i).length = ws.length + 1 := by
  have : (ws.take i).length + (ws.drop i).length = ws.length := by rw [← List.length_append, List.take_append_drop]
  rw [List.length_append, List.length_cons, ← Nat.add_assoc, this]
section
variable {n : Nat} {hd : Bool} {H H' : MH} {Q : MV → MH → Prop} {X : String → MH → Prop}
theorem w_slicew {Δ : CallT} {ρ : Sto} {e lo hi : ME} {Y : String → MH → Prop} (h : wE Δ hd e ρ H (fun v H₁ => wE Δ hd lo ρ H₁ (fun l H₂ => wE Δ hd hi ρ H₂ (fun h' H₃ => SliceR H₃ Q v l h') Y) Y) Y) : wE Δ hd (.slice e lo hi) ρ H Q Y := h
/-- the rows while they are being spoilt: ways up to m are done -/
inductive SpoilN (ra wa : Addr) (c way at_ : Int) (ρ : Sto) : Prop
  | mk (n1 : ρ "_law_rows_here" = some (.ref ra)) (n2 : ρ "_law_words" = some (.ref wa)) (n3 : ρ "_law_cell" = some (.int c)) (n4 : ρ "_law_way" = some (.int way)) (n5 : ρ "_law_at" = some (.int at_))
noncomputable def Okays (H' : MH) (ra : Addr) (L : Nat) : Prop := ∃ ts : List Str, H' ra = some (.lst (ts.map .str)) ∧ Okay L ts
noncomputable def Unspoilt (H' : MH) (ra wa : Addr) (rows ws : List Str) : Prop := H' ra = some (.lst (rows.map .str)) ∧ H' wa = some (.lst (ws.map .str))
inductive Spoil (H : MH) (ra wa : Addr) (rows ws : List Str) (c way at_ : Int) (L : Nat) (m : Int) (ρ : Sto) (H' : MH) : Prop
  | mk (N : SpoilN ra wa c way at_ ρ) (E : Ext H H') (ok : Okays H' ra L) (un : m < way → Unspoilt H' ra wa rows ws)
theorem s_spoilt {text : Str} {c way : Int} (h1 : 1 ≤ text.length) (h2 : text.length ≤ 398000) (h : ∀ (w : Str) H', w.length ≤ 2 * text.length + 300 → (2 ≤ text.length → 1 ≤ w.length) → Ext H H' → Q (.str w) H') : callW theP (n + 3) false "_law_spoilt" [.str text, .int c, .int way] H Q X := by
  refine call_of (d := f__law_spoilt) rfl rfl ?_
  have W := split_tot (x := text) nl_len
  have hne : Txt.split text nl ≠ [] := by obtain ⟨w, ws, e⟩ := split_cons text nl; rw [e]; exact List.cons_ne_nil _ _
  refine s_let (w_split (y := nl) (Ev.var rfl) Ev.str nl_one (Nat.lt_of_le_of_lt h2 (by decide)) fun ra hra => ?_)
  generalize Txt.split text nl = rows at W hne
  have hrl : 1 ≤ rows.length := List.length_pos_iff.mpr hne
  have E1 := Ext.new (H := H) (.lst (rows.map MV.str)) hra
  have g1 : (H.set ra (.lst (rows.map MV.str))) ra = some (.lst (rows.map .str)) := MH.set_selfE _ _ _
  generalize H.set ra (.lst (rows.map MV.str)) = H1 at E1 g1
  have ln : ((rows.map MV.str).length : Int) = rows.length := by rw [List.length_map]
  refine s_let (w_call (vs := [.int c, .int 1, .int (rows.length : Int)]) (Evs.cons (by array_get_dec) (Evs.cons Ev.int (Evs.cons (ln ▸ Ev.lenL (by array_get_dec) g1) Evs.nil))) (s_mixed (by decide) (npos hrl) fun v H2 v0 v1 E2 => ?_))
  have g2 := E2 _ _ g1
  have E02 := E1.trans E2
  have tb : text.length ≤ bigList := Nat.le_trans h2 (by decide)
  refine s_ite (Ev.cmp (by array_get_dec) Ev.int .lt) (fun q => ?_) (fun q => s_done ?_)
  · refine s_let (w_call (vs := [.int c, .int 2, .int (text.length : Int)]) (Evs.cons (by array_get_dec) (Evs.cons Ev.int (Evs.cons (Ev.lenS (by array_get_dec) tb) Evs.nil))) (s_mixed (by decide) (npos h1) fun s H3 s0 s1 E3 => ?_))
    have E03 := E02.trans E3
    have f1 := (PyProof.Rows.fact_slice_ns text s).1 s0 (Int.le_of_lt s1)
    refine s_ite (Ev.cmp (by array_get_dec) Ev.int .eqi) (fun q => ?_) (fun q => s_done ?_)
    · obtain ⟨_, x2, x3⟩ := ar_sp (d := 1) s0 s1 (by decide) (by decide)
      obtain ⟨y1, y2, y3⟩ := ar_sl f1 ((PyProof.Rows.fact_slice_sn text (s + 1)).1 x2 x3) h2
      exact s_ret (Ev.cat (Ev.part (by array_get_dec) tb Ev.none (by array_get_dec) .none .int) (Ev.part (by array_get_dec) tb (by array_get_dec) Ev.none .int .none) (le_big y1)) (h _ _ (by rw [Str.length_append]; exact y2) (by rw [Str.length_append]; exact y3) E03)
    · obtain ⟨m0, m1⟩ := fmod_in (c := c.fdiv 96) (m := 2) (by decide)
      have hev : ∀ {ρ : Sto} {H : MH}, ρ "_law_cell" = some (.int c) → ρ "_law_spot" = some (.int s) → Ev (callW theP (n + 2)) false (.bin .add (.var "_law_spot") (.bin .mod (.bin .fdiv (.var "_law_cell") (.int 96)) (.int 2))) ρ H (.int (s + (c.fdiv 96).fmod 2)) := fun r1 r2 => Ev.add (Ev.var r2) (Ev.mod (Ev.fdiv (Ev.var r1) Ev.int (by decide) (by decide)) Ev.int (by decide))
      generalize (c.fdiv 96).fmod 2 = d at m0 m1 hev
      obtain ⟨_, x2, x3⟩ := ar_sp s0 s1 m0 m1
      obtain ⟨y0, y1, y2, y3⟩ := ar_sd f1 ((PyProof.Rows.fact_slice_sn text (s + d)).1 x2 x3) m0 h2
      refine s_retw (w_bin (w_bin (w_ev (Ev.part (by array_get_dec) tb Ev.none (by array_get_dec) .none .int) (w_call (vs := [.int c]) (by array_get_dec) (s_sign_by fun w hw => .cat (by rw [hw]; exact le_big y0) (w_ev (Ev.part (by array_get_dec) tb (hev (by sizeOf_list_dec) (by sizeOf_list_dec)) Ev.none .int .none) (.cat (by rw [Str.length_append, hw]; exact le_big y1) (h _ _ (by rw [Str.length_append, Str.length_append, hw]; exact y2) (by rw [Str.length_append, Str.length_append, hw]; exact y3) E03))))))))
  -- the row that is spoilt
  refine s_join (fun ρ H' => ∃ at_ : Int, (0 ≤ at_ ∧ at_ < rows.length) ∧ (ρ "_law_rows_here" = some (.ref ra) ∧ ρ "_law_cell" = some (.int c) ∧ ρ "_law_way" = some (.int way) ∧ ρ "_law_at" = some (.int at_)) ∧ Ext H H' ∧ H' ra = some (.lst (rows.map .str))) (fun k hk => ?_) ?_
  · refine s_itew (w_cmpw (w_call (vs := [.int c, .int 9, .int 2]) (by array_get_dec) (s_mixed (by decide) (by decide) fun z H3 z0 z1 E3 => w_ev Ev.int ⟨_, .eqi, ?_⟩)))
    have g3 := E3 _ _ g2
    by_cases q1 : z = 1
    · refine it_t (decide_eq_true q1) (s_assign (Ev.sub (Ev.lenL (by array_get_dec) g3) Ev.int) (s_done (s_done (hk _ _ ⟨((rows.map MV.str).length : Int) - 1, ln.symm ▸ len_pred hrl, ⟨by sizeOf_list_dec, by sizeOf_list_dec, by sizeOf_list_dec, by sizeOf_list_dec⟩, E02.trans E3, g3⟩))))
    · exact it_f (decide_eq_false q1) (s_done (s_done (hk _ _ ⟨v, ⟨v0, v1⟩, ⟨by sizeOf_list_dec, by sizeOf_list_dec, by sizeOf_list_dec, by sizeOf_list_dec⟩, E02.trans E3, g3⟩)))
  clear g1 g2 E1 E2 E02 v0 v1
  rintro ρ3 H3 ⟨at_, ⟨a0, a1⟩, ⟨r1, r2, r3, r4⟩, E3, g3⟩
  have hat : at_.toNat < rows.length := (Int.toNat_lt a0).mpr a1
  have erow : atIdx (rows.map MV.str) at_ = some (.str rows[at_.toNat]) := atIdx_nn a0 (by rw [List.getElem?_map, List.getElem?_eq_getElem hat]; rfl)
  have rl := tot_mem (List.getElem_mem hat)
  have V := split_tot (x := rows[at_.toNat]) sp_len
  obtain ⟨z1, z2, z3⟩ := ar_ws W rl V h2
  have hwne : Txt.split rows[at_.toNat] sp ≠ [] := by obtain ⟨w, ws, e⟩ := split_cons rows[at_.toNat] sp; rw [e]; exact List.cons_ne_nil _ _
  refine s_let (w_split (y := sp) (Ev.item (Ev.var r1) (Ev.var r4) g3 erow) Ev.str sp_one (lt_big (Nat.le_trans z1 (by decide))) fun wa hwa => ?_)
  generalize Txt.split rows[at_.toNat] sp = ws at V hwne z3
  have hwl : 1 ≤ ws.length := List.length_pos_iff.mpr hwne
  have nwr : wa ≠ ra := fun z => by rw [z, g3] at hwa; cases hwa
  have E4 := Ext.new (H := H3) (.lst (ws.map MV.str)) hwa
  have g4 := E4 _ _ g3
  have w4 : (H3.set wa (.lst (ws.map MV.str))) wa = some (.lst (ws.map .str)) := MH.set_selfE _ _ _
  have E04 := E3.trans E4
  have hwa0 := none_of_ext E3 hwa
  generalize H3.set wa (.lst (ws.map MV.str)) = H4 at E4 g4 w4 E04
  have hset : ∀ (w : Str) (H' : MH), (H'.set ra (.lst ((rows.map MV.str).set at_.toNat (.str w)))) ra = some (.lst ((rows.set at_.toNat w).map .str)) := fun w H' => by rw [MH.set_selfE]; exact congrArg (fun l => some (MObj.lst l)) set_str
  have a1' : at_ < ((rows.map MV.str).length : Int) := ln.symm ▸ a1
  have big1 : (rows.map MV.str).length < bigList := by rw [List.length_map]; exact lt_big (Nat.le_trans z2 (by decide))
  have start : Spoil H ra wa rows ws c way at_ text.length 1 (ρ3.set "_law_words" (.ref wa)) H4 := ⟨⟨by sizeOf_list_dec, by sizeOf_list_dec, by sizeOf_list_dec, by sizeOf_list_dec, by sizeOf_list_dec⟩, E04, ⟨rows, g4, okay_same W hrl rfl rfl⟩, fun _ => ⟨g4, w4⟩⟩
  clear g3 hwa E4 g4 w4 E04 E3 hne hwne z1
  -- a figure
  refine s_join (Spoil H ra wa rows ws c way at_ text.length 2) (fun k hk => ?_) ?_
  · obtain ⟨⟨n1, n2, n3, n4, n5⟩, E, hts, hun⟩ := start
    refine s_ite (Ev.cmp (Ev.var n4) Ev.int .eqi) (fun q => ?_) (fun q => s_done (s_done (hk _ _ ⟨⟨n1, n2, n3, n4, n5⟩, E, hts, fun z => hun (Int.lt_trans (by decide) z)⟩)))
    have q := of_decide_eq_true q
    obtain ⟨u1, u2⟩ := hun (q ▸ by decide)
    refine s_setIdxw (w_joinE (x := sp) Ev.str (w_call (vs := [.ref wa, .int c]) (by array_get_dec) (s_figure_spoilt u2 (Nat.le_trans (Nat.le_trans (Nat.le_add_left _ _) z3) (by decide)) (Nat.le_trans (Nat.le_trans (Nat.le_add_right _ _) z3) (by decide)) fun ws' H5 k1 k2 k3 k4 k5 => ?_)))
    have u1' := k5 ra _ (Ne.symm nwr) u1
    have hj := join_le (ts := ws') sp_len
    rw [k1] at hj
    obtain ⟨y1, y2⟩ := ar_fs V k3 hj z3 hwl
    refine ⟨.str rfl, .join (.inl k4) (join_ok sp_len (by rw [k1]; exact y2)) (w_ev (v := .ref ra) (by array_get_dec) (w_ev (v := .int at_) (by array_get_dec) (.lst u1' a0 a1' (s_done (s_done (hk _ _ ⟨⟨n1, n2, n3, n4, n5⟩, fun x o e => (MH.set_neE _ _ (mne hra e)).trans (k5 x o (mne hwa0 e) (E x o e)), ⟨_, hset _ _, okay_set W hat y1 ?_⟩, fun z => (no_lt q z).elim⟩))))))⟩
    cases ws' with
    | nil => rw [← k1] at hwl; exact absurd hwl (by decide)
    | cons t ts =>
      rw [join_len sp_len]
      cases ts with
      | cons u us => exact .inl (Nat.le_trans (Nat.le_add_left 1 _) (Nat.le_add_left _ _))
      | nil =>
        have e := k2 (k1 ▸ (show [t].length < 2 from Nat.lt_succ_self 1))
        rw [← e] at V
        exact .inr (Nat.le_of_eq (Nat.succ.inj V).symm)
  clear start
  -- two rows change places
  intro ρ5 H5 start
  refine s_join (Spoil H ra wa rows ws c way at_ text.length 3) (fun k hk => ?_) ?_
  · obtain ⟨⟨n1, n2, n3, n4, n5⟩, E, hts, hun⟩ := start
    refine s_ite (Ev.cmp (Ev.var n4) Ev.int .eqi) (fun q => ?_) (fun q => s_done (s_done (hk _ _ ⟨⟨n1, n2, n3, n4, n5⟩, E, hts, fun z => hun (Int.lt_trans (by decide) z)⟩)))
    have q := of_decide_eq_true q
    obtain ⟨u1, u2⟩ := hun (q ▸ by decide)
    refine s_let (w_call (vs := [.int c, .int 5, .int (rows.length : Int)]) (Evs.cons (by array_get_dec) (Evs.cons Ev.int (Evs.cons (ln ▸ Ev.lenL (by array_get_dec) u1) Evs.nil))) (s_mixed (by decide) (npos hrl) fun o H6 o0 o1 E6 => ?_))
    have u6 := E6 _ _ u1
    have ho : o.toNat < rows.length := (Int.toNat_lt o0).mpr o1
    have erow2 : atIdx (rows.map MV.str) o = some (.str rows[o.toNat]) := atIdx_nn o0 (by rw [List.getElem?_map, List.getElem?_eq_getElem ho]; rfl)
    refine s_assign (Ev.item (by array_get_dec) (by array_get_dec) u6 erow) (s_setIdx (x := .str rows[o.toNat]) (Ev.item (by array_get_dec) (by array_get_dec) u6 erow2) (by array_get_dec) (by array_get_dec) u6 a0 a1' ?_)
    have g7 := hset rows[o.toNat] H6
    have E7 := (E.trans E6).newer (.lst ((rows.map MV.str).set at_.toNat (.str rows[o.toNat]))) hra
    generalize H6.set ra (.lst ((rows.map MV.str).set at_.toNat (.str rows[o.toNat]))) = H7 at g7 E7
    have ho' : o.toNat < (rows.set at_.toNat rows[o.toNat]).length := by rw [List.length_set]; exact ho
    have x1 := tot_set_eq (w := rows[o.toNat]) hat
    have x2 := tot_set_eq (w := rows[at_.toNat]) ho'
    have x3 : (rows.set at_.toNat rows[o.toNat])[o.toNat] = rows[o.toNat] := by
      rw [List.getElem_set]
      split <;> rfl
    rw [x3, x1] at x2
    exact s_setIdx (x := .str rows[at_.toNat]) (by array_get_dec) (by array_get_dec) (by array_get_dec) g7 o0 (by rw [List.length_map, List.length_set]; exact o1) (s_done (s_done (hk _ _ ⟨⟨by sizeOf_list_dec, by sizeOf_list_dec, by sizeOf_list_dec, by sizeOf_list_dec, by sizeOf_list_dec⟩, E7.newer _ hra, ⟨(rows.set at_.toNat rows[o.toNat]).set o.toNat rows[at_.toNat], by rw [MH.set_selfE]; exact congrArg (fun l => some (MObj.lst l)) set_str, okay_same W hrl (Nat.add_right_cancel x2) (by rw [List.length_set, List.length_set])⟩, fun z => (no_lt q z).elim⟩)))
  clear start
  -- a row twice
  intro ρ6 H6 start
  refine s_join (Spoil H ra wa rows ws c way at_ text.length 4) (fun k hk => ?_) ?_
  · obtain ⟨⟨n1, n2, n3, n4, n5⟩, E, hts, hun⟩ := start
    refine s_ite (Ev.cmp (Ev.var n4) Ev.int .eqi) (fun q => ?_) (fun q => s_done (s_done (hk _ _ ⟨⟨n1, n2, n3, n4, n5⟩, E, hts, fun z => hun (Int.lt_trans (by decide) z)⟩)))
    have q := of_decide_eq_true q
    obtain ⟨u1, u2⟩ := hun (q ▸ by decide)
    obtain ⟨y1, y2⟩ := ar_at (y := 1) a0 a1 (by decide) (by decide) z2
    refine s_expr (w_bmI (by array_get_dec) u1 (w_cons (w_ev (v := .int (at_ + 1)) (by array_get_dec) (w_cons (w_ev (v := .str rows[at_.toNat]) (Ev.item (by array_get_dec) (by array_get_dec) u1 erow) (w_evs Evs.nil ⟨.lst u1 rfl, .insert u1 y1 y2 big1 ?_⟩))))))
    rw [ins_str]
    have ti := tot_insert (ws := rows) (w := rows[at_.toNat]) (i := (at_ + 1).toNat)
    have li := ins_len (ws := rows) (w := rows[at_.toNat]) (i := (at_ + 1).toNat)
    have lt1 : at_.toNat < (at_ + 1).toNat := by rw [Int.toNat_add a0 (by decide)]; exact Nat.lt_succ_self _
    have hat2 : at_.toNat < (rows.take (at_ + 1).toNat ++ rows[at_.toNat] :: rows.drop (at_ + 1).toNat).length := by rw [li]; exact Nat.lt_succ_of_lt hat
    have ei : ∀ hk : at_.toNat < (rows.take (at_ + 1).toNat ++ rows[at_.toNat] :: rows.drop (at_ + 1).toNat).length, (rows.take (at_ + 1).toNat ++ rows[at_.toNat] :: rows.drop (at_ + 1).toNat)[at_.toNat]'hk = rows[at_.toNat] := fun hk => by
      rw [List.getElem_append_left (by rw [List.length_take]; exact Nat.lt_min.mpr ⟨lt1, hat⟩), List.getElem_take]
    generalize rows.take (at_ + 1).toNat ++ rows[at_.toNat] :: rows.drop (at_ + 1).toNat = ts at ti li ei hat2
    have g7 := MH.set_selfE H6 ra (.lst (ts.map MV.str))
    have E7 := E.newer (.lst (ts.map MV.str)) hra
    have w7 : (H6.set ra (.lst (ts.map MV.str))) wa = some (.lst (ws.map .str)) := (MH.set_neE _ _ nwr).trans u2
    generalize H6.set ra (.lst (ts.map MV.str)) = H7 at g7 E7 w7
    refine s_itew (w_cmpw (w_call (vs := [.int c, .int 10, .int 2]) (by array_get_dec) (s_mixed (by decide) (by decide) fun z H8 z0 z1 E8 => w_ev Ev.int ⟨_, .eqi, ?_⟩)))
    have g8 := E8 _ _ g7
    have w8 := E8 _ _ w7
    by_cases q1 : z = 1
    · refine it_t (decide_eq_true q1) (s_setIdxw (w_joinE (x := sp) Ev.str (w_slicew (w_ev (v := .ref wa) (by array_get_dec) (w_ev Ev.none (w_bin (w_ev (v := .int (((ws.map MV.str).length : Int) - 1)) (Ev.sub (Ev.lenL (by array_get_dec) w8) Ev.int) (w_call (vs := [.int c, .int 3, .int 4]) (by array_get_dec) (s_mixed (by decide) (by decide) fun y H9 y0 y1 E9 => .sub (.lst (.inl (E9 _ _ w8)) .none .int ?_))))))))))
      rw [cut_str]
      intro c9 hc9
      obtain ⟨x1, x2⟩ := cut_none (ws := ws) (hi := some (((ws.map MV.str).length : Int) - 1 - y))
      generalize cut ws none (some (((ws.map MV.str).length : Int) - 1 - y)) = us at hc9 x1 x2
      obtain ⟨j1, j2⟩ := ar_cut V x1 x2 (join_le (ts := us) sp_len) z3
      have E9' := E9.trans (Ext.new (H := H9) (.lst (us.map MV.str)) hc9)
      have x3 := tot_set_eq (w := Txt.join sp us) hat2
      rw [ei, ti, Nat.add_right_comm] at x3
      exact ⟨.str rfl, .join (.inl (MH.set_selfE _ _ _)) (join_ok sp_len j2) (w_ev (v := .ref ra) (by array_get_dec) (w_ev (v := .int at_) (by array_get_dec) (.lst (E9' _ _ g8) a0 (by rw [List.length_map]; exact Int.lt_of_toNat_lt hat2) (s_done (s_done (s_done (hk _ _ ⟨⟨n1, n2, n3, n4, n5⟩, ((E7.trans E8).trans E9').newer _ hra, ⟨ts.set at_.toNat (Txt.join sp us), by rw [MH.set_selfE]; exact congrArg (fun l => some (MObj.lst l)) set_str, okay_ins W hrl rl (Nat.le_of_eq (Nat.add_right_cancel x3)) (by rw [List.length_set]; exact li) j1⟩, fun z => (no_lt q z).elim⟩)))))))⟩
    · exact it_f (decide_eq_false q1) (s_done (s_done (s_done (hk _ _ ⟨⟨n1, n2, n3, n4, n5⟩, E7.trans E8, ⟨ts, g8, okay_ins W hrl rl (Nat.le_of_eq ti) li (Nat.le_add_right _ _)⟩, fun z => (no_lt q z).elim⟩))))
  clear start
  -- an odd row
  intro ρ7 H7 start
  refine s_join (Spoil H ra wa rows ws c way at_ text.length 5) (fun k hk => ?_) ?_
  · obtain ⟨⟨n1, n2, n3, n4, n5⟩, E, hts, hun⟩ := start
    refine s_ite (Ev.cmp (Ev.var n4) Ev.int .eqi) (fun q => ?_) (fun q => s_done (s_done (hk _ _ ⟨⟨n1, n2, n3, n4, n5⟩, E, hts, fun z => hun (Int.lt_trans (by decide) z)⟩)))
    have q := of_decide_eq_true q
    obtain ⟨u1, u2⟩ := hun (q ▸ by decide)
    refine s_expr (w_bmI (by array_get_dec) u1 (w_cons (w_bin (w_ev (v := .int at_) (by array_get_dec) (w_call (vs := [.int c, .int 10, .int 3]) (by array_get_dec) (s_mixed (by decide) (by decide) fun y H8 y0 y1 E8 => .add (w_cons (w_callw (w_cons (w_call (vs := [.int c, .int 8, .int 12]) (by array_get_dec) (s_mixed (by decide) (by decide) fun x H9 x0 x1 E9 => w_evs Evs.nil (s_odd_row fun w H10 hw E10 => w_evs Evs.nil ?_))))))))))))
    have E89 := (E8.trans E9).trans E10
    have u10 := E89 _ _ u1
    obtain ⟨j1, j2⟩ := ar_at a0 a1 y0 y1 z2
    refine ⟨.lst u10 rfl, .insert u10 j1 j2 big1 ?_⟩
    rw [ins_str]
    exact s_done (s_done (hk _ _ ⟨⟨n1, n2, n3, n4, n5⟩, (E.trans E89).newer _ hra, ⟨_, MH.set_selfE _ _ _, okay_ins W hrl rl (Nat.le_of_eq tot_insert) ins_len (Nat.le_trans hw (Nat.le_trans (by decide) (Nat.le_add_left 101 _)))⟩, fun z => (no_lt q z).elim⟩))
  clear start
  rintro ρ8 H8 ⟨⟨n1, n2, n3, n4, n5⟩, E, ⟨ts, t1, t2, t3, t4⟩, hun⟩
  cases ts with
  | nil => exact absurd rfl t4
  | cons t ts =>
    have a := join_len (t := t) (ts := ts) nl_len
    rw [List.length_cons] at t2 t3
    obtain ⟨j1, j2, j3⟩ := ar_fin t2 h2 t3
    exact s_ret (Ev.join (x := nl) Ev.str (Ev.var n1) (.inl t1) (join_ok nl_len j1)) (h _ _ (a ▸ j2) (a ▸ j3) E)
end
end Mine
end
section
set_option autoImplicit false
set_option linter.unusedVariables false
namespace Mine
open PySem
/-! the texts of trains are short enough -/
theorem flat_mem {ps : List Part} {i : Int} (h : i ∈ ps.flatMap fun p => [p.1, p.2.1, p.2.2]) : ∃ p ∈ ps, i = p.1 ∨ i = p.2.1 ∨ i = p.2.2 := by
  obtain ⟨p, hp, hi⟩ := List.mem_flatMap.mp h
  simp only [List.mem_cons, List.not_mem_nil, or_false] at hi
  exact ⟨p, hp, hi⟩
section
variable {seats stops coming : Int} {R : Rides} {g : Grid}
theorem Inv.flat (I : Inv seats stops coming R g) (hs : seats ≤ 60) (ht : stops ≤ 60) {x : Int × List Part} (hx : x ∈ R) : x.2.length ≤ 59 ∧ ∀ i ∈ x.2.flatMap (fun p => [p.1, p.2.1, p.2.2]), 0 ≤ i ∧ i < 100 := by
  obtain ⟨b, e, h0, he, G⟩ := I.goes x hx
  have l := goes_len G
  refine ⟨by (first | lia | omega), fun i hi => ?_⟩
  obtain ⟨p, hp, hi⟩ := flat_mem hi
  obtain ⟨a1, a2, a3, a4, a5⟩ := G.mem p hp
  rcases hi with rfl | rfl | rfl <;> (first | lia | omega)
theorem line_len {w : Str} {is : List Int} : (lineOf w is).length = w.length + tot (is.map shown) + is.length := by
  unfold lineOf
  rw [join_len sp_len, tot_cons, List.length_map]
theorem text_len : (textOf seats stops coming R).length = (lineOf (Str.ofString "train") [seats, stops, coming]).length + tot (R.map fun x => lineOf (Str.ofString "ticket") (rowIs x)) + R.length := by
  unfold textOf
  rw [join_len nl_len, tot_cons, List.length_map]
theorem fits_of (I : Inv seats stops coming R g) (hs : seats ≤ 60) (ht : stops ≤ 60) (hc : 0 ≤ coming ∧ coming < 1000000000) (hl : (textOf seats stops coming R).length ≤ 1000000) : Fits seats stops coming R := by
  have L := text_len (seats := seats) (stops := stops) (coming := coming) (R := R)
  have lo : ∀ {w : Str} {is : List Int}, (lineOf w is).length ≤ 1000000 → JoinOk sp (w :: is.map shown) = true := fun {w is} h => by
    have := line_len (w := w) (is := is)
    exact join_ok sp_len (by rw [tot_cons, List.length_cons, List.length_map]; (first | lia | omega))
  refine ⟨fun x hx i hi => ?_, by (first | lia | omega), fun x hx => ?_, fun x hx => lo ?_, lo (by (first | lia | omega)), join_ok nl_len ?_⟩
  · obtain ⟨_, f2⟩ := I.flat hs ht hx
    have r := I.rng x hx
    unfold rowIs at hi
    cases hi with
    | head => (first | lia | omega)
    | tail _ hi => have := f2 i hi; (first | lia | omega)
  · exact Nat.le_trans (I.flat hs ht hx).1 (by decide)
  · have := tot_mem (List.mem_map_of_mem (f := fun x => lineOf (Str.ofString "ticket") (rowIs x)) hx)
    (first | lia | omega)
  · rw [tot_cons, List.length_cons, List.length_map]; (first | lia | omega)
theorem tot_shown {is : List Int} {k : Nat} (hk : 1 ≤ k) (h : ∀ i ∈ is, 0 ≤ i ∧ i < 10 ^ k) : tot (is.map shown) ≤ is.length * k := by
  have := tot_le (ws := is.map shown) (B := k) fun w hw => by
    obtain ⟨i, hi, rfl⟩ := List.mem_map.mp hw
    exact shown_len (h i hi).1 hk (h i hi).2
  rwa [List.length_map] at this
/-- the text of the run's train -/
theorem run_text (I : Inv seats stops coming R g) (hs : 1 ≤ seats ∧ seats ≤ 60) (ht : 2 ≤ stops ∧ stops ≤ 60) (hc : 0 ≤ coming) (hR : R.length ≤ 366 ∧ coming ≤ 366) : 2 ≤ (textOf seats stops coming R).length ∧ (textOf seats stops coming R).length ≤ 198500 := by
  rw [text_len, line_len, len_train]
  have a : tot ([seats, stops, coming].map shown) ≤ 3 * 3 := tot_shown (k := 3) (by decide) fun i hi => by
    simp only [List.mem_cons, List.not_mem_nil, or_false] at hi
    have e : (10 : Int) ^ 3 = 1000 := by decide
    rw [e]
    rcases hi with rfl | rfl | rfl <;> (first | lia | omega)
  have b : tot (R.map fun x => lineOf (Str.ofString "ticket") (rowIs x)) ≤ (R.map fun x => lineOf (Str.ofString "ticket") (rowIs x)).length * 541 := tot_le fun w hw => by
    obtain ⟨x, hx, rfl⟩ := List.mem_map.mp hw
    obtain ⟨f1, f2⟩ := I.flat hs.2 ht.2 hx
    have r := I.rng x hx
    have e : (10 : Int) ^ 3 = 1000 := by decide
    have s1 : (shown x.1).length ≤ 3 := shown_len r.1 (by decide) (by rw [e]; (first | lia | omega))
    have s2 := tot_shown (k := 2) (by decide) f2
    rw [flat_len] at s2
    rw [line_len, len_ticket]
    unfold rowIs
    rw [List.map_cons, tot_cons, List.length_cons, flat_len]
    (first | lia | omega)
  rw [List.length_map] at b
  show 2 ≤ 5 + _ + 3 + _ + _ ∧ 5 + _ + 3 + _ + _ ≤ 198500
  (first | lia | omega)
end
/-! what was read -/
theorem read_facts {text : Str} {a b c : Int} {rows : List (List Int)} {g : Grid} {R : Rides} (hl : text.length ≤ 800000) (h : readR text = .ok ((a, b, c), rows, g, R)) : (1 ≤ a ∧ a ≤ 60) ∧ (2 ≤ b ∧ b ≤ 60) ∧ (0 ≤ c ∧ c < 1000000000) ∧ Inv a b c R g ∧ R = rows.map fun ns => (ns.headD 0, trip ns.tail) := by
  obtain ⟨l, ls, e⟩ := split_cons text nl
  obtain ⟨l1, l2⟩ := split_len (x := text) nl_one
  rw [e] at l1 l2
  cases eh : headT l with
  | none => rw [read_head e eh] at h; cases h
  | some is =>
    obtain ⟨en, i3⟩ : numsIn l (Str.ofString "train") = some is ∧ is.length = 3 := by
      unfold headT at eh
      cases en : numsIn l (Str.ofString "train") with
      | none => rw [en] at eh; cases eh
      | some js =>
        rw [en] at eh
        have eh : (if js.length = 3 then some js else none) = some is := eh
        split at eh
        · obtain rfl := Option.some.inj eh; exact ⟨rfl, ‹_›⟩
        · cases eh
    obtain ⟨a', b', c', rfl⟩ : ∃ a b c, is = [a, b, c] := by
      match is, i3 with
      | [a, b, c], _ => exact ⟨a, b, c, rfl⟩
    cases er : mapO rowT ls with
    | none => rw [read_rows e er] at h; cases h
    | some rows' =>
      rw [read_is e eh er] at h
      split at h
      · rename_i hs
        cases el : lookT a' b' c' rows' (fun _ _ => none) 0 [] with
        | error w => rw [el] at h; cases h
        | ok z =>
          obtain ⟨g', R'⟩ := z
          rw [el] at h
          cases h
          have c0 : 0 ≤ c ∧ c < 1000000000 := by
            obtain ⟨w, ws, e2⟩ := split_cons l sp
            unfold numsIn at en
            rw [e2] at en
            have en : (if w = Str.ofString "train" then mapO numOf ws else none) = some [a, b, c] := en
            split at en
            · obtain ⟨x, _, hx⟩ := (mapO_len en).2 c (.tail _ (.tail _ (.head _)))
              exact ⟨num_pos hx, num_lt hx⟩
            · cases en
          have hg : ∀ ns ∈ rows, Good ns := fun ns hns => by
            obtain ⟨u, hu, e0⟩ := (mapO_len er).2 ns hns
            obtain ⟨k1, k2⟩ := rowT_some e0
            obtain ⟨k3, k4⟩ := nums_in k1
            exact ⟨k2, k3, by have := l2 u (.tail _ hu); (first | lia | omega)⟩
          exact ⟨⟨hs.1, hs.2.1⟩, hs.2.2, c0, read_inv hg c0.1 el, (lookT_rides el).trans (List.nil_append _)⟩
      · cases h
theorem read_fits {text : Str} {a b c : Int} {rows : List (List Int)} {g : Grid} {R : Rides} (hl : text.length ≤ 800000) (h : readR text = .ok ((a, b, c), rows, g, R)) : Fits a b c R ∧ R.length ≤ 800000 := by
  obtain ⟨h1, h2, h3, I, _⟩ := read_facts hl h
  have e := congrArg Str.length (text_back h)
  have L := text_len (seats := a) (stops := b) (coming := c) (R := R)
  exact ⟨fits_of I h1.2 h2.2 h3 (by (first | lia | omega)), by (first | lia | omega)⟩
end Mine
end
section
set_option autoImplicit false
set_option linter.unusedVariables false
namespace Mine
open PySem
section
variable {n : Nat} {hd : Bool} {H H' : MH} {Z : Addr → Prop} {Q : MV → MH → Prop} {X : String → MH → Prop}
variable {Δ : CallT} {ρ : Sto} {Y' : String → MH → Prop}
theorem s_rows {f d : Addr} {ps : List Part} (hf : H f = some (.lst (ps.map partMV))) (hd' : H d = some (.lst (ps.map partMV))) (hl : ps.length ≤ 1000) (h : ∀ H', Ext H H' → Q (.bool true) H') : callW theP (n + 2) false "_law_rows" [.ref f, .ref d] H Q X := by
  refine call_of (d := f__law_rows) rfl rfl ?_
  refine s_skip (Ev.or (EvO.f (Ev.not (Ev.isi (by array_get_dec) (.ll (.inl hf)))) (EvO.one (Ev.cmp (Ev.lenL (by array_get_dec) hf) (Ev.lenL (by array_get_dec) hd') nz)))) ?_
  refine s_range (fun i ρ H' => ρ "_law_found" = some (.ref f) ∧ ρ "_law_due_here" = some (.ref d) ∧ Ext H H') (Ev.range1 (Ev.lenL (by array_get_dec) hd') (by rw [List.length_map]; exact smallOf (by (first | lia | omega)) (by (first | lia | omega)))) ⟨rfl, rfl, .refl _⟩ ?_ fun i ρ H' _ z => s_ret Ev.bool (h _ z.2.2)
  rintro i ρ H1 k i0 i1 ⟨g1, g2, E⟩ hk
  rw [List.length_map] at i1
  obtain ⟨p, hp⟩ := part_at i0 i1
  have hf' := E _ _ hf
  have hd'' := E _ _ hd'
  refine s_skip (Ev.or (EvO.f (Ev.not (Ev.isi (b := true) (v := partMV p) (by array_get_dec) .tt)) (EvO.one (Ev.cmp (Ev.lenT (vs := [.int p.1, .int p.2.1, .int p.2.2]) (Ev.item (by array_get_dec) (by array_get_dec) hf' hp)) (Ev.lenT (vs := [.int p.1, .int p.2.1, .int p.2.2]) (Ev.item (by array_get_dec) (by array_get_dec) hd'' hp)) nz)))) ?_
  refine s_itew (w_or2 (w_not (w_bi1 ⟨rfl, Ev.item (by array_get_dec) (by array_get_dec) hf' hp _ _ ⟨_, .tup, comp_ix (l := [p.1, p.2.1, p.2.2]) .int (fun _ => .bool true) .tup (fun _ _ h => h) _ (fun i _ k hk => w_call (Evs.cons (Ev.var (Sto.gets _ _ _)) Evs.nil) (s_whole hk)) (by show 0 + 3 ≤ bigList; decide) fun c hc => ?_⟩⟩)))
  refine b_all (f := fun _ => true) ?_
  have E2 := E.trans (Ext.new (.lst ([p.1, p.2.1, p.2.2].map fun _ => MV.bool true)) hc)
  exact w_cmpw (w_ev (Ev.item (by array_get_dec) (by array_get_dec) (E2 _ _ hf) hp) (w_ev (Ev.item (by array_get_dec) (by array_get_dec) (E2 _ _ hd') hp) ⟨false, part_ne p, it_f rfl (s_done (s_done (hk _ _ ⟨by sizeOf_list_dec, by sizeOf_list_dec, E2⟩)))⟩))
theorem pair_dr (a b : Int) : DR H 8 (.tup [.int a, .int b]) (.tuple [.int a, .int b]) := ⟨_, rfl, .cons rfl (.cons rfl .nil)⟩
theorem pair_ne (a b : Int) : CmpR H .ne (.tup [.int a, .int b]) (.tup [.int a, .int b]) false := by
  have := CmpR.ned (pair_dr (H := H) a b) (pair_dr a b)
  rwa [PySem.SeqAt.eqv_refl _ (by simp [PyData.canLay0, PyData.canLayAll0])] at this
theorem str_eq {s : Str} : CmpR H .eq (.str s) (.str s) true := by have := CmpR.eqs (H := H) (x := s) (y := s); rwa [decide_eq_true rfl] at this
theorem all2_ix {α β : Type} {P : α → β → Prop} {l : List α} {r : List β} (h : All2 P l r) : ∀ {i : Nat}, i < r.length → ∃ a b, l[i]? = some a ∧ r[i]? = some b ∧ P a b := by
  induction h with
  | nil => intro i hi; exact absurd hi (Nat.not_lt_zero _)
  | cons hh _ ih =>
    intro i hi
    cases i with
    | zero => exact ⟨_, _, rfl, rfl, hh⟩
    | succ i => exact ih (Nat.lt_of_succ_lt_succ hi)
theorem int_eq {x : Int} : CmpR H .eq (.int x) (.int x) true := by have := CmpR.eqi (H := H) (x := x) (y := x); rwa [decide_eq_true rfl] at this
theorem w_andt {e f : ME} {es : MEs} (he : Ev Δ hd e ρ H (.bool true)) (h : wE Δ hd (.and (.cons f es)) ρ H Q Y') : wE Δ hd (.and (.cons e (.cons f es))) ρ H Q Y' := he _ _ h
theorem w_and1 {e : ME} (h : wE Δ hd e ρ H Q Y') : wE Δ hd (.and (.cons e .nil)) ρ H Q Y' := h
theorem bad_nz {w : String} (h : w ∈ badWords) : w ≠ "" := by intro z; subst z; exact absurd h (by decide)
theorem law13' {script : Addr} {is : List Int} (hlen : is.length ≤ 63) (H : MH) (hH : H script = some (.ro (is.map .int))) :
    wSs (callW theP (n + 8)) false f_law.body (Sto.ofArgs ["_law_script"] [.ref script]) H (fun _ _ => MV.none = .bool true) (fun v _ => v = .bool true) (fun _ _ _ => False) := by
  refine s_let (w_callw (w_cons (w_sub (w_call (by array_get_dec) (s_run hH hlen fun so t rd hl ra seats stops coming R g lr H1 S hR hlr nlr hH1 ns => w_ev Ev.int ⟨_, .lst (.inl hlr) rfl, w_evs Evs.nil ?_⟩)))))
  have b1 := run_text S.tn.inv S.tn.hseats S.tn.hstops S.tn.co hR
  refine s_written S.tn (fits_of S.tn.inv S.tn.hseats.2 S.tn.hstops.2 ⟨S.tn.co, by (first | lia | omega)⟩ (by (first | lia | omega))) fun H2 E2 => ?_
  have hH2 := E2 _ _ hH1
  generalize textOf seats stops coming R = x0 at b1
  clear S hR nlr ns hlr E2 hH hH1
  refine s_join (fun ρ H' => ρ "_law_script" = some (.ref script) ∧ (∃ x : Str, ρ "_law_text" = some (.str x) ∧ 2 ≤ x.length ∧ x.length ≤ 198500) ∧ H' script = some (.ro (is.map .int))) (fun k hk => ?_) ?_
  · refine s_itew (w_cmpw (w_bin (w_call (by array_get_dec) (s_cell_at hH2 (by decide) fun c2 => w_ev Ev.int (.mod (by decide) (w_ev Ev.int ⟨_, .eqi, ?_⟩))))))
    by_cases q : c2.fmod 3 = 1
    · refine it_t (decide_eq_true q) (s_let (w_callw (w_cons (w_bin (w_call (by array_get_dec) (s_cell_at hH2 (by decide) fun c3 => w_ev Ev.int (.fdiv (by decide) (by decide) (w_evs Evs.nil (s_changing fun w H3 l1 l2 E3 => s_done (s_done (hk _ _ ⟨by sizeOf_list_dec, ⟨w, by sizeOf_list_dec, l1, by (first | lia | omega)⟩, E3 _ _ hH2⟩))))))))))) 
    · exact it_f (decide_eq_false q) (s_done (s_done (hk _ _ ⟨by sizeOf_list_dec, ⟨x0, by sizeOf_list_dec, b1⟩, hH2⟩)))
  clear hH2 b1
  rintro ρ3 H3 ⟨r1, ⟨x1, r2, k1, k2⟩, hH3⟩
  have m0 : 0 ≤ maxI 0 (((is.map MV.int).length : Int) - 1) := by unfold maxI; split <;> (first | lia | omega)
  refine s_let (w_bin (w_bin (w_call (vs := [.ref script, .int 1]) (by array_get_dec) (s_cell_at hH3 (by decide) fun c1 => w_bin (w_ev Ev.int (w_call (vs := [.ref script, .int 0]) (by array_get_dec) (s_cell_at hH3 (by decide) fun c0 => .mul (.inl (by decide)) (.add (w_bin (w_ev Ev.int (w_call (Evs.cons (by array_get_dec) (Evs.cons (Ev.max Ev.int (Ev.sub (Ev.lenR (by array_get_dec) hH3) Ev.int)) Evs.nil)) (s_cell_at hH3 m0 fun c9 => .mul (.inl (by decide)) (.add ?_)))))))))))))
  generalize c1 + 3 * c0 + 5 * c9 = c
  refine s_let (w_sub (w_list (vs := [0, 1, 2, 2, 2, 3, 4, 5, 5, 6].map .int) (by array_get_dec) fun c4 hc4 => w_call (vs := [.int c, .int 6, .int 10]) (by array_get_dec) (s_mixed (by decide) (by decide) fun y H5 y0 y1 E5 => ?_)))
  obtain ⟨way, hway⟩ := int_at (is := [0, 1, 2, 2, 2, 3, 4, 5, 5, 6]) (i := y) y0 y1
  refine ⟨_, .lst (.inl (E5 _ _ (MH.set_selfE _ _ _))) hway, ?_⟩
  clear hway E5 hc4 hH3 y0 y1 m0
  refine s_join (fun ρ H' => ∃ x : Str, ρ "_law_text" = some (.str x) ∧ x.length ≤ 800000 - 1) (fun k hk => ?_) ?_
  · refine s_ite (Ev.cmp (by array_get_dec) Ev.int .lt) (fun q => ?_) (fun q => s_done (s_done (hk _ _ ⟨x1, by sizeOf_list_dec, by (first | lia | omega)⟩)))
    refine s_let (w_call (vs := [.str x1, .int c, .int way]) (by array_get_dec) (s_spoilt (by (first | lia | omega)) (by (first | lia | omega)) fun w H6 l1 l2 E6 => ?_))
    have l2 := l2 k1
    refine s_itew (w_cmpw (w_call (vs := [.int c, .int 2, .int 2]) (by array_get_dec) (s_mixed (by decide) (by decide) fun z H7 z0 z1 E7 => w_ev Ev.int ⟨_, .eqi, ?_⟩)))
    by_cases q1 : z = 1
    · refine it_t (decide_eq_true q1) (s_let (w_callw (w_cons (w_ev (v := .str w) (by array_get_dec) (w_cons (w_ev (v := .int (c + 7)) (by array_get_dec) (w_cons (w_sub (w_list (vs := [2, 2, 2, 4, 5, 1].map .int) (by array_get_dec) fun c8 hc8 => w_call (vs := [.int c, .int 3, .int 6]) (by array_get_dec) (s_mixed (by decide) (by decide) fun u H8 u0 u1 E8 => ?_))))))))))
      obtain ⟨way2, hway2⟩ := int_at (is := [2, 2, 2, 4, 5, 1]) (i := u) u0 u1
      exact ⟨_, .lst (.inl (E8 _ _ (MH.set_selfE _ _ _))) hway2, w_evs Evs.nil (s_spoilt (by (first | lia | omega)) (by (first | lia | omega)) fun w2 H9 l3 l4 E9 => s_done (s_done (s_done (hk _ _ ⟨w2, by sizeOf_list_dec, by (first | lia | omega)⟩))))⟩
    · exact it_f (decide_eq_false q1) (s_done (s_done (s_done (hk _ _ ⟨w, by sizeOf_list_dec, by (first | lia | omega)⟩))))
  clear k1 k2 r1 r2
  rintro ρ5 H5' ⟨x, rx, hl⟩
  refine s_let (w_call (vs := [.str x]) (by array_get_dec) (s_due hl (fun a b c rows g RR res fa cs head tks H6 hr E6 d1 d2 d3 d4 d5 => ?_) fun w tl res H6 hr E6 d1 => ?_))
  case refine_2 =>
    refine s_let (w_call (vs := [.str x]) (by array_get_dec) (s_law_read hl (fun a b c rows g R t rd hl ra rides res2 H7 hr2 T RA ho E7 f1 => by rw [hr] at hr2; cases hr2) fun w2 res2 H7 hr2 E7 f1 => ?_))
    rw [hr] at hr2
    obtain rfl : w = w2 := by cases hr2; rfl
    have hb := bad_nz (read_word hr)
    have d7 := E7 _ _ d1
    refine s_skip (Ev.cmp (Ev.item (by array_get_dec) Ev.int d7 rfl) (Ev.item (by array_get_dec) Ev.int f1 rfl) str_ne) ?_
    have ne : CmpR H7 .ne (.str (Str.ofString w)) (.str (Str.ofString "")) true := by have := CmpR.nes (H := H7) (x := Str.ofString w) (y := Str.ofString ""); rwa [dec_str, decide_eq_false hb] at this
    exact s_iteT (Ev.cmp (Ev.item (by array_get_dec) Ev.int d7 rfl) Ev.str ne) (s_ret Ev.bool rfl)
  refine s_let (w_call (vs := [.str x]) (by array_get_dec) (s_law_read hl (fun a2 b2 c2 rows2 g2 R2 t rd hl7 ra rides res2 H7 hr2 T RA ho E7 f1 => ?_) fun w2 res2 H7 hr2 E7 f1 => by rw [hr] at hr2; cases hr2))
  rw [hr] at hr2
  cases hr2
  obtain ⟨p1, p2, p3, I, eR⟩ := read_facts (Nat.le_trans hl (by decide)) hr
  obtain ⟨F, lR⟩ := read_fits (Nat.le_trans hl (by decide)) hr
  have keys : (rows.map fun ns => ns.headD 0) = RR.map Prod.fst := by rw [eR, List.map_map]; rfl
  have TT : Trn H7 (fun _ => False) t rd hl7 ra a b c RR g := ⟨⟨rides, T, RA.mono' fun _ _ _ n z => n (z.elim id False.elim)⟩, I, p3.1, by (first | lia | omega), fun _ z => z.elim, fun _ z => z.elim⟩
  have nres : ∀ {y : Addr} {o : MObj}, H6 y = some o → ¬ Own t rd hl7 ra a y := fun e z => by rw [ho _ z] at e; cases e
  have n1 := nres d1
  have n4 := nres d4
  have d1 := E7 _ _ d1
  have d2 := E7 _ _ d2
  have d3 := d3.mono fun y z e => E7 _ _ e
  have d4 := E7 _ _ d4
  have d5 := E7 _ _ d5
  rw [keys] at d5
  have hb := text_back hr
  clear ho T RA E7 nres hr eR keys
  refine s_skip (Ev.cmp (Ev.item (by array_get_dec) Ev.int d1 rfl) (Ev.item (by array_get_dec) Ev.int f1 rfl) str_ne) (s_skip (Ev.cmp (Ev.item (by array_get_dec) Ev.int d1 rfl) Ev.str str_ne) (s_assign (Ev.item (by array_get_dec) Ev.int f1 rfl) ?_))
  refine s_itew (w_or2 (w_cmpw (w_meth (by array_get_dec) TT.at_ rfl Evs.nil (s_size TT (w_ev (v := .tup [.int a, .int b]) (Ev.tup (Evs.cons (Ev.item (Ev.item (by array_get_dec) Ev.int d1 rfl) Ev.int d4 rfl) (Evs.cons (Ev.item (Ev.item (by array_get_dec) Ev.int d1 rfl) Ev.int d4 rfl) Evs.nil))) ⟨false, pair_ne a b, it_f rfl (w_not (w_callw (w_cons (w_meth (by array_get_dec) TT.at_ rfl Evs.nil (s_tickets TT fun c8 H8 hc8 E8 h8 => w_evs (Evs.cons (Ev.item (by array_get_dec) Ev.int (E8 _ _ d1) rfl) Evs.nil) (s_numbers h8 (E8 _ _ d5) (by rw [List.length_map]; (first | lia | omega)) (nt_f (s_done ?_))))))))⟩)))))
  have d1 := E8 _ _ d1
  have d2 := E8 _ _ d2
  have d3 := d3.mono fun y z e => E8 _ _ e
  have d4 := E8 _ _ d4
  have d5 := E8 _ _ d5
  have TT := TT.ext E8
  have al : cs.length = RR.length := d3.length_eq
  have e5 : (((RR.map Prod.fst).map MV.int).length : Int) = RR.length := by rw [List.length_map, List.length_map]
  refine s_range (fun i ρ H' => (ρ "_law_train" = some (.ref t) ∧ ρ "_law_due_here" = some (.ref res) ∧ ρ "_law_text" = some (.str x)) ∧ Ext H8 H') (Ev.range1 (e5 ▸ Ev.lenL (Ev.item (by array_get_dec) Ev.int d1 rfl) d5) (smallOf (by (first | lia | omega)) (by (first | lia | omega)))) ⟨⟨by sizeOf_list_dec, by sizeOf_list_dec, by sizeOf_list_dec⟩, .refl _⟩ ?_ ?_
  · rintro i ρ H9 k i0 i1 ⟨⟨r1, r2, r3⟩, E9⟩ hk
    obtain ⟨ci, y, x1, x2, x3⟩ := all2_ix d3 (i := i.toNat) (by (first | lia | omega))
    obtain ⟨ky, ps⟩ := y
    have hm : (ky, ps) ∈ RR := List.mem_of_getElem? x2
    have T9 := TT.ext E9
    have lp := (I.flat p1.2 p2.2 hm).1
    refine s_itew (w_not (w_callw (w_cons (w_meth (vs := [.int ky]) (by array_get_dec) T9.at_ rfl (Evs.cons (Ev.item (Ev.item (by array_get_dec) Ev.int (E9 _ _ d1) rfl) (by array_get_dec) (E9 _ _ d5) (atIdx_nn i0 (by rw [List.map_map, List.getElem?_map, x2]; rfl))) Evs.nil) (s_parts T9 hm fun pa H10 hpa E10 hp => w_cons (w_ev (v := .ref ci) (Ev.item (Ev.item (by array_get_dec) Ev.int (E10 _ _ (E9 _ _ d1)) rfl) (by array_get_dec) (E10 _ _ (E9 _ _ d2)) (atIdx_nn i0 (by rw [List.getElem?_map, x1]; rfl))) (w_evs Evs.nil (s_rows hp (E10 _ _ (E9 _ _ x3)) (Nat.le_trans lp (by decide)) fun H11 E11 => nt_f (s_done (s_done (hk _ _ ⟨⟨by sizeOf_list_dec, by sizeOf_list_dec, by sizeOf_list_dec⟩, (E9.trans E10).trans E11⟩)))))))))))
  rintro i ρ H9 i1 ⟨⟨r1, r2, r3⟩, E9⟩
  refine s_itew (w_cmpw (w_call (vs := [.ref t]) (by array_get_dec) (s_written (TT.ext E9) F fun H10 E10 => w_ev (v := .str x) (by array_get_dec) ⟨false, by rw [hb]; exact str_ne, it_f rfl (s_done ?_)⟩)))
  have T10 := (TT.ext E9).ext E10
  have d1 := E10 _ _ (E9 _ _ d1)
  have d4 := E10 _ _ (E9 _ _ d4)
  refine s_let (w_call (vs := [.ref t, deedMV "sell" 0 (b - 1)]) (Evs.cons (by array_get_dec) (Evs.cons (Ev.tup (Evs.cons Ev.str (Evs.cons Ev.int (Evs.cons (Ev.sub (Ev.item (Ev.item (by array_get_dec) Ev.int d1 rfl) Ev.int d4 rfl) Ev.int) Evs.nil)))) Evs.nil)) (s_word_sell T10 (by (first | lia | omega)) (fun h0 h1 h2 hb H11 f T11 => ?_) fun w H11 hw E11 => ?_))
  · refine s_retw (w_orf (Ev.cmp (Ev.itemT (by array_get_dec) Ev.int rfl) Ev.str ?_) (w_or1 (w_andt (Ev.cmp (Ev.itemT (by array_get_dec) Ev.int rfl) Ev.str str_eq) (w_andt (Ev.call (v := .bool true) (vs := [.int c]) (Evs.cons (Ev.itemT (by array_get_dec) Ev.int rfl) Evs.nil) fun Q X q => s_whole q) (w_and1 (w_ev (Ev.cmp (Ev.itemT (by array_get_dec) Ev.int rfl) (Ev.item (Ev.item (by array_get_dec) Ev.int (f _ _ n1 d1) rfl) Ev.int (f _ _ n4 d4) rfl) int_eq) rfl))))))
    have := CmpR.eqs (H := H11) (x := Str.ofString "") (y := Str.ofString "full")
    rwa [dec_str, decide_eq_false (by decide)] at this
  · have e : w = "Full" := by
      cases hbk : blockF g a (b - 1 - 0).toNat 0 with
      | none => rw [fail_none (by (first | lia | omega)) (by (first | lia | omega)) (by (first | lia | omega)) hbk] at hw; cases hw
      | some z => rw [fail_full (by (first | lia | omega)) (by (first | lia | omega)) (by (first | lia | omega)) hbk] at hw; exact (Option.some.inj hw).symm
    subst e
    exact s_ret (Ev.or (EvO.t (Ev.cmp (Ev.itemT (by array_get_dec) Ev.int rfl) Ev.str str_eq))) rfl
end
theorem law13 {script : Addr} {is : List Int} (hl : is.length ≤ 63) (H : MH) (hH : H script = some (.ro (is.map .int))) :
    wSs (callW theP 50) false f_law.body (Sto.ofArgs ["_law_script"] [.ref script]) H (fun _ _ => MV.none = .bool true) (fun v _ => v = .bool true) (fun _ _ _ => False) := law13' (n := 42) hl H hH
end Mine
end
open PySem PySem.W PyProof.Rows
set_option maxRecDepth 100000 in
set_option maxHeartbeats 8000000 in
theorem PySem.Challenge.cw_uf040032_13_holds : PySem.Challenge.rw_uf040032_13.Holds := by
  w_on
  refine holds_law Mine.law_said fun said => ?_
  refine holds_open (q := Mine.theQ) (loose := []) (Xt := fun s => xlAt Mine.theQ [] s && recOk (RowW.records (OpenRow.toRowW (OpenLaw.row PySem.Challenge.rw_uf040032_13))) s) (XP := XL Mine.theQ []) (Yf := Hook.obs Mine.theH) (Ya := Hook.val Mine.theH) (YP := Hook.says Mine.theH) (N := 8492) Mine.top_left (Hook.of Mine.theH) (Hook.keeps Mine.theH) (fun s e => xl_of s (Bool.and_eq_true_iff.mp e).1) XL.keeps (by rfl) (by rfl) (by rfl) (fun s e => recFacts_of (Bool.and_eq_true_iff.mp e).2) (by rfl) (by first | assumption | decide +kernel) (by decide +kernel) ⟨rfl, rfl, rfl, rfl, rfl, by decide +kernel⟩ ?hw ?hc
  case hw => w_witness2
  case hc =>
    intro w s₀ s₁ mg mb G Y fa o pm cd doc dV kV ho hd hcd hD hmg hg args vals as hpre hlay hrd hwl hlo
    obtain ⟨K, KX, kT, kP⟩ := Y
    refine Ground.open G ?_
    intro T B D TE TW
    wrow_args hpre hlay hrd hwl hlo
    refine enter_call ?_
    refine codeAny_mono ?_ (fun _ _ g => GoodW.toG g)
    refine Mine.claim_of (T := Mine.theT) (P := Mine.theP) (ca := Mine.theC) (d := Mine.f_law) (x := "_law_script") KX T hg kT kP ho hd hcd (hD.pos.elim (fun h => h.2) fun h => absurd rfl h.1) (by kernel_rfl) rfl ‹_› ‹_› ‹_› 50 (by decide) (fun hl H hH => Mine.law13 hl H hH) (raisesW_false (by wrow_none_raised)) (by wrow_post)


