import PyProof.Rows.All
import Wide.All
import OpenK.AllK
import Wide.FinOn
import PySem.Value
import PyProof.P3Statements
import PyProof.SliceMore
import PyProof.StrCalls2
import KE.KIntText
import PyProof.StationsW
import PyProof.DictKinds
import PyProof.DictList
import PyProof.DictStraight
import PyProof.Cells
import PyProof.PureInt
import PyProof.ListOps
import PyProof.Rows.IntRules
import PyProof.Rows.RuleB_floordiv
import PyProof.Rows.RuleB_pow
import PyProof.Rows.StrRules
import PyProof.Rows.ListMul
import PyProof.NoPylong
import PyProof.IsRules
import PyProof.P3In
import PyProof.EqLayable
import PyProof.Rows.EqDataRows
import PyProof.DictRoads
import PyProof.ListIndexNeg
import PyProof.Rows.Tup
import PyProof.Rows.StrTemp
import PyProof.SliceList
import PyProof.Rows.SeqSlice
import PyProof.Rows.SeqIn
import PyProof.StrOps
import PyProof.TupleIter
import PyProof.RangeFor
import PyProof.Rows.Range3
import PyProof.ListCopy
import PyProof.ListRange
import PyProof.WalkInts
import PyProof.ConsumeWalk
import PyProof.EnumMake
import PyProof.StrWalks
import PyProof.Rows.SortShell
import KE.KSortTup
import PyProof.CallStr
import PyProof.Rows.SortWalk
import PyProof.Rows.MinMaxN
import PyProof.Walks
import KE.KDictList
import KE.KIsNot
import PyProof.Rows.SeqMore2
import PyProof.MeetsSeq
import PyProof.MeetsDictList
import PyProof.Rows.TupIter
import PyProof.WalksPairs
import PyProof.StrCalls3
import PyProof.Rows.StrSplitJoin
import PyProof.CompFree
import PyProof.Rows.TopTwo
import PyProof.RulesAs
import PyProof.RulesDel
import PyProof.P3Eq
import KE.IntTextText
import PyProof.StrLawsChain
import PyProof.StrLawsIn
import PyProof.StrLawsTight
import PyProof.Rows.StrIntSpec
import PyProof.Rows.StrFacts2
import PyProof.Rows.ReprOcc
import PyProof.Rows.StrWeight2
import PySem.Challenge.RW_uf040032_12
set_option autoImplicit false
set_option linter.unusedVariables false
set_option Elab.async false
set_option genInjectivity false
set_option genSizeOf false
set_option compiler.extract_closed false
section
open PySem PySem.W PyProof.Rows
namespace Mine
noncomputable def goT (ok:Thread→Bool)(stp:SharedT→Thread→Option (SharedT×Thread)):Nat→SharedT→Thread→Option SharedT
 |0,_,_=>none
 |n+1,s,t=>match through t with
  |true=>some s
  |false=>match ok t with
   |false=>none
   |true=>match stp s t with
    |some r=>goT ok stp n r.1 r.2
    |none=>none
noncomputable def treeOfL:List Obj→Nat→BT→BT
 | [],_,t=>t
 |o::l,i,t=>treeOfL l (i+1) (t.ins i o)
noncomputable def bootTree (P:Params):BT:=treeOfL (boot_heap P).objs.toList 0 .nil
noncomputable def theQ:Program:=view PySem.Challenge.pw_uf040032_12 [1,2,3,4,5,6,7,8,9,10,12,13,15,16,17,18,19,20,21,22,23,25,26,28,29,30,31,32,33,34,35,36,37,38,39,40,41,42,43,44,45,46,47,48,49,50,51,52,53,54,55,56,57,58]
set_option maxRecDepth 1000000 in
theorem top_run:∀ w:World,(fun os=>(goT (stepOk 11 (some (.ref 6))) (stepT (denote treeTable) PySem.Challenge.pw_uf040032_12 w) 8810 ⟨bootTree w.params,11,(boot_heap w.params).life,Array.mk [],boot_drawn,boot_toks,os⟩ (topStub PySem.Challenge.pw_uf040032_12)).map fun s₁=>((staticsOk (importedModules PySem.Challenge.pw_uf040032_12.main.body) (boot_heap w.params) s₁.abs.heap&&namesBound PySem.Challenge.pw_uf040032_12 s₁.abs.heap&&gensDone s₁.abs&&laidKept (boot_heap w.params) s₁.abs.heap),
  openSeen theQ [] (importedModules PySem.Challenge.pw_uf040032_12.main.body) (fun s=>xlAt theQ [] s&&recOk [] s) true s₁.abs))=fun _=>some (true,openGood theQ []):=by
 intro w
 rw [PySem.W.Fast.te5923862056798008813,PySem.W.Fast.te4187177175401517315,PySem.W.Fast.te6613529449190102663,PySem.W.Fast.te10156331382660048174,PySem.W.Fast.te11892475500146522536,PySem.W.Fast.te14364793385576792824]
 kernel_rfl
end Mine
end
section
set_option genSizeOfSpec false
namespace Mine
open PySem
inductive MV where
 |none
 |bool (b:Bool)
 |int (i:Int)
 |str (s:Str)
 |ref (a:Addr)
 |tup (vs:List MV)
 |rng (a b c:Int)
 |exc (c:String)
inductive MObj where
 |lst (vs:List MV)
 |ro (vs:List MV)
 |dct (es:List (Int×MV))
 |inst (fs:List (String×MV))
abbrev MH:=Addr→Option MObj
abbrev Sto:=String→Option MV
noncomputable def MH.set (H:MH)(a:Addr)(o:MObj):MH:=fun b=>if b=a then some o else H b
noncomputable def Sto.set (ρ:Sto)(x:String)(v:MV):Sto:=fun y=>if y=x then some v else ρ y
noncomputable def Sto.del (ρ:Sto)(x:String):Sto:=fun y=>if y=x then none else ρ y
noncomputable def Sto.ofArgs:List String→List MV→Sto
 |x::xs,v::vs=>(Sto.ofArgs xs vs).set x v
 |_,_=>fun _=>none
inductive All2 {α β:Type}(R:α→β→Prop):List α→List β→Prop where
 |nil:All2 R [] []
 |cons {a b l r}:R a b→All2 R l r→All2 R (a::l) (b::r)
noncomputable def LstAt (H:MH)(a:Addr)(vs:List MV):Prop:=H a=some (.lst vs)∨H a=some (.ro vs)
noncomputable def bigList:Nat:=2^20
noncomputable def fsGet (fs:List (String×MV))(x:String):Option MV:=match fs with
 | []=>none
 |(y,v)::r=>if x=y then some v else fsGet r x
noncomputable def fsSet (fs:List (String×MV))(x:String)(v:MV):List (String×MV):=match fs with
 | []=>[(x,v)]
 |(y,u)::r=>if x=y then (y,v)::r else (y,u)::fsSet r x v
noncomputable def dGet (es:List (Int×MV))(k:Int):Option MV:=match es with
 | []=>none
 |(y,v)::r=>if k=y then some v else dGet r k
noncomputable def dSet (es:List (Int×MV))(k:Int)(v:MV):List (Int×MV):=if es.any (fun e=>decide (e.1=k)) then es.map (fun e=>if e.1=k then (e.1,v) else e) else es++ [(k,v)]
noncomputable def dDel (es:List (Int×MV))(k:Int):List (Int×MV):=es.filter fun e=>decide (e.1≠k)
inductive BOp where|add|sub|mul|fdiv|mod|pow
inductive COp where|eq|ne|lt|le|gt|ge|isin|notin|is_|isnot
set_option genCtorIdx false
mutual
inductive ME where
 |none
 |bool (b:Bool)
 |int (i:Int)
 |str (s:String)
 |var (x:String)
 |gconst (x:String)(v:MV)
 |bin (op:BOp)(l r:ME)
 |neg (e:ME)
 |not (e:ME)
 |and (es:MEs)
 |or (es:MEs)
 |cmp (l:ME)(c:MCs)
 |attr (e:ME)(f:String)
 |sub (e i:ME)
 |slice (e lo hi:ME)
 |list (es:MEs)
 |tup (es:MEs)
 |dict
 |comp (elt:ME)(x:String)(it:ME)(cond:ME)
 |call (f:String)(es:MEs)
 |meth (e:ME)(m:String)(es:MEs)
 |mk (es:MEs)
 |bi (b:String)(es:MEs)
 |bm (e:ME)(m:String)(es:MEs)
 |isinst (e:ME)(t:String)
inductive MEs where
 |nil
 |cons (e:ME)(es:MEs)
inductive MCs where
 |nil
 |cons (op:COp)(e:ME)(c:MCs)
end
mutual
inductive MS where
 |expr (e:ME)
 |assign (x:String)(e:ME)
 |setAttr (e:ME)(f:String)(v:ME)
 |setIdx (e i v:ME)
 |ret (e:ME)
 |ite (t:ME)(a b:MSs)
 |whil (t:ME)(b:MSs)
 |for_ (x:String)(it:ME)(b:MSs)
 |forT (xs:List String)(it:ME)(b:MSs)
 |unpack (xs:List String)(e:ME)
 |raise (c:String)(msg:String)
 |try_ (b:MSs)(x:String)(h:MSs)
inductive MSs where
 |nil
 |cons (s:MS)(ss:MSs)
end
set_option genCtorIdx true
noncomputable def DR (H:MH):Nat→MV→PyData→Prop
 |0,_,_=>False
 |n+1,v,d=>match d with
  | .none=>v=.none
  | .bool b=>v=.bool b
  | .int i=>v=.int i
  | .str s=>v=.str s∧PyData.strOk s=true
  | .list ds=>∃ a vs,v=.ref a∧LstAt H a vs∧All2 (DR H n) vs ds
  | .tuple ds=>∃ vs,v=.tup vs∧All2 (DR H n) vs ds
  |_=>False
noncomputable def isNil:MV→Bool
 | .none=>true
 |_=>false
noncomputable def isTru:MV→Bool
 | .bool b=>b
 |_=>false
inductive CmpR (H:MH):COp→MV→MV→Bool→Prop
 |eqi {x y:Int}:CmpR H .eq (.int x) (.int y) (decide (x=y))
 |nei {x y:Int}:CmpR H .ne (.int x) (.int y) (!decide (x=y))
 |eqs {x y:Str}:CmpR H .eq (.str x) (.str y) (decide (x=y))
 |nes {x y:Str}:CmpR H .ne (.str x) (.str y) (!decide (x=y))
 |eqd {a b:MV}{x y:PyData}(hx:DR H 8 a x)(hy:DR H 8 b y):CmpR H .eq a b (PyData.eqv x y)
 |ned {a b:MV}{x y:PyData}(hx:DR H 8 a x)(hy:DR H 8 b y):CmpR H .ne a b (!PyData.eqv x y)
 |lt {x y:Int}:CmpR H .lt (.int x) (.int y) (decide (x<y))
 |le {x y:Int}:CmpR H .le (.int x) (.int y) (decide (x≤y))
 |gt {x y:Int}:CmpR H .gt (.int x) (.int y) (decide (y<x))
 |ge {x y:Int}:CmpR H .ge (.int x) (.int y) (decide (y≤x))
 |ind {x:Int}{r:Addr}{es:List (Int×MV)}(h:H r=some (.dct es)):CmpR H .isin (.int x) (.ref r) (dGet es x).isSome
 |notind {x:Int}{r:Addr}{es:List (Int×MV)}(h:H r=some (.dct es)):CmpR H .notin (.int x) (.ref r) (!(dGet es x).isSome)
 |inl {x:Int}{r:Addr}{is:List Int}(h:LstAt H r (is.map .int)):CmpR H .isin (.int x) (.ref r) (decide (x∈is))
 |notinl {x:Int}{r:Addr}{is:List Int}(h:LstAt H r (is.map .int)):CmpR H .notin (.int x) (.ref r) (!decide (x∈is))
 |ins {x y:Str}:CmpR H .isin (.str x) (.str y) (Txt.contains y x)
 |notins {x y:Str}:CmpR H .notin (.str x) (.str y) (!Txt.contains y x)
 |isN {a:MV}:CmpR H .is_ a .none (isNil a)
 |isnotN {a:MV}:CmpR H .isnot a .none (!isNil a)
 |isT {a:MV}:CmpR H .is_ a (.bool true) (isTru a)
noncomputable def mulOk (a b:Int):Prop:=a.natAbs≤2^63∨b.natAbs≤2^63
noncomputable def New (H:MH)(Q:MV→MH→Prop)(vs:List MV):Prop:=∀ c,H c=none→Q (.ref c) (H.set c (.lst vs))
inductive BinR (H:MH)(Q:MV→MH→Prop):BOp→MV→MV→Prop
 |add {x y:Int}(q:Q (.int (x+y)) H):BinR H Q .add (.int x) (.int y)
 |sub {x y:Int}(q:Q (.int (x-y)) H):BinR H Q .sub (.int x) (.int y)
 |mul {x y:Int}(h:mulOk x y)(q:Q (.int (x*y)) H):BinR H Q .mul (.int x) (.int y)
 |fdiv {x y:Int}(h:y≠0)(h2:y.natAbs<1073741824)(q:Q (.int (x.fdiv y)) H):BinR H Q .fdiv (.int x) (.int y)
 |mod {x y:Int}(h:y≠0)(q:Q (.int (x.fmod y)) H):BinR H Q .mod (.int x) (.int y)
 |pow {x y:Int}(h0:0≤y)(h1:y≤1000)(h2:x.natAbs≤10)(q:Q (.int (x^y.toNat)) H):BinR H Q .pow (.int x) (.int y)
 |app {x y:Addr}{xs ys:List MV}(hx:H x=some (.lst xs))(hy:H y=some (.lst ys))(hl:xs.length+ys.length≤bigList)(q:New H Q (xs++ys)):BinR H Q .add (.ref x) (.ref y)
 |cat {x y:Str}(hl:x.length+y.length≤bigList)(q:Q (.str (x++y)) H):BinR H Q .add (.str x) (.str y)
 |rep {x:Addr}{k:Int}{v:MV}(hx:H x=some (.lst [v]))(h0:0≤k)(h1:k≤bigList)(q:New H Q (List.replicate k.toNat v)):BinR H Q .mul (.ref x) (.int k)
noncomputable def atIdx (vs:List MV)(i:Int):Option MV:=
 if 0≤i then vs[i.toNat]? else if 0≤i+vs.length then vs[(i+vs.length).toNat]? else none
noncomputable def smallI (i:Int):Prop:= -(2^40)≤i∧i≤2^40
inductive SubR (H:MH):MV→MV→MV→Prop
 |lst {a:Addr}{vs:List MV}{i:Int}{x:MV}(h:LstAt H a vs)(hx:atIdx vs i=some x):SubR H (.ref a) (.int i) x
 |tup {vs:List MV}{i:Int}{x:MV}(hx:atIdx vs i=some x):SubR H (.tup vs) (.int i) x
 |dct {a:Addr}{es:List (Int×MV)}{i:Int}{x:MV}(h:H a=some (.dct es))(hx:dGet es i=some x):SubR H (.ref a) (.int i) x
 |str {x:Str}{i:Int}(hs:smallI i)(hx:(Txt.charAt x i).isSome=true):SubR H (.str x) (.int i) (.str (Txt.item x i))
noncomputable def cut {α:Type}(vs:List α)(lo hi:Option Int):List α:=
 (vs.drop (lo.elim 0 (clipAt vs.length))).take (hi.elim vs.length (clipAt vs.length)-lo.elim 0 (clipAt vs.length))
inductive OptI:MV→Option Int→Prop
 |none:OptI .none none
 |int {i:Int}:OptI (.int i) (some i)
inductive SliceR (H:MH)(Q:MV→MH→Prop):MV→MV→MV→Prop
 |lst {a:Addr}{l h:MV}{lo hi:Option Int}{vs:List MV}(hv:LstAt H a vs)(hl:OptI l lo)(hh:OptI h hi)(q:New H Q (cut vs lo hi)):SliceR H Q (.ref a) l h
noncomputable def rangeL (a b c:Int):List Int:=
 (List.range (Builtin.Range.rangeSize a b c).toNat).map fun (k:Nat)=>a+c*(k:Int)
inductive Elems (H:MH):MV→List MV→Prop
 |lst {a:Addr}{vs:List MV}(h:LstAt H a vs):Elems H (.ref a) vs
 |tup {vs:List MV}:Elems H (.tup vs) vs
 |rng {a b c:Int}:Elems H (.rng a b c) ((rangeL a b c).map .int)
 |str {x:Str}:Elems H (.str x) (x.cps.toList.map fun c=> .str ⟨#[c]⟩)
noncomputable def excNames:List String:=["NoTrain","NoStretch","NoSeat","NoStop","NoLeg","NoTicket","Full","Shared","NoText"]
inductive IsiR (H:MH):MV→String→Bool→Prop
 |ii {i:Int}:IsiR H (.int i) "int" true
 |ib {i:Bool}:IsiR H (.bool i) "int" true
 |in_:IsiR H .none "int" false
 |is_ {s:Str}:IsiR H (.str s) "int" false
 |it {vs:List MV}:IsiR H (.tup vs) "int" false
 |bb {i:Bool}:IsiR H (.bool i) "bool" true
 |bi {i:Int}:IsiR H (.int i) "bool" false
 |ll {a:Addr}{vs:List MV}(h:LstAt H a vs):IsiR H (.ref a) "list" true
 |li {i:Int}:IsiR H (.int i) "list" false
 |ln:IsiR H .none "list" false
 |tt {vs:List MV}:IsiR H (.tup vs) "tuple" true
 |ti {i:Int}:IsiR H (.int i) "tuple" false
 |ss {s:Str}:IsiR H (.str s) "str" true
 |exc {c t:String}(h:excNames.contains t=true):IsiR H (.exc c) t (t==c)
 |val {c:String}:IsiR H (.exc c) "ValueError" true
noncomputable def minI (a b:Int):Int:=if b<a then b else a
noncomputable def maxI (a b:Int):Int:=if a<b then b else a
noncomputable def lexZ (fin:Bool):List Int→List Int→Bool
 |a::x,b::y=>if a=b then lexZ fin x y else decide (a<b)
 |_,_=>fin
noncomputable def lexLt (x y:List Int):Bool:=lexZ false x y
noncomputable def tupI (is:List Int):MV:=.tup (is.map .int)
inductive BiR (hd:Bool)(H:MH)(Q:MV→MH→Prop):String→List MV→Prop
 |lenL {a:Addr}{vs:List MV}(h:LstAt H a vs)(q:Q (.int vs.length) H):BiR hd H Q "len" [.ref a]
 |lenT {vs:List MV}(q:Q (.int vs.length) H):BiR hd H Q "len" [.tup vs]
 |range1 {b:Int}(h:smallI b)(q:Q (.rng 0 b 1) H):BiR hd H Q "range" [.int b]
 |range2 {a b:Int}(h0:smallI a)(h:smallI b)(q:Q (.rng a b 1) H):BiR hd H Q "range" [.int a,.int b]
 |min2 {a b:Int}(h:hd=false)(q:Q (.int (minI a b)) H):BiR hd H Q "min" [.int a,.int b]
 |max2 {a b:Int}(h:hd=false)(q:Q (.int (maxI a b)) H):BiR hd H Q "max" [.int a,.int b]
 |maxL {a:Addr}{is:List Int}{m:Int}(h:hd=false)(hl:LstAt H a (is.map .int))(hm:m∈is)(hx:∀ i∈is,i≤m)(q:Q (.int m) H):BiR hd H Q "max" [.ref a]
 |allL {a:Addr}{bs:List Bool}(h:hd=false)(hl:LstAt H a (bs.map .bool))(q:Q (.bool (bs.all id)) H):BiR hd H Q "all" [.ref a]
 |listL {a:Addr}{l:List MV}(h:hd=false)(hl:LstAt H a l)(q:New H Q l):BiR hd H Q "list" [.ref a]
 |listD {a:Addr}{es:List (Int×MV)}(h:hd=false)(hl:H a=some (.dct es))(hb:es.length≤bigList)(q:New H Q (es.map fun e=> .int e.1)):BiR hd H Q "list" [.ref a]
 |listR {a b:Int}(h:hd=false)(hb:(rangeL a b 1).length≤bigList)(q:New H Q ((rangeL a b 1).map .int)):BiR hd H Q "list" [.rng a b 1]
 |lenS {x:Str}(hl:x.length≤bigList)(q:Q (.int x.length) H):BiR hd H Q "len" [.str x]
 |strI {i:Int}(h:i.natAbs<2^64)(q:Q (.str (Str.ofString (toString i))) H):BiR hd H Q "str" [.int i]
 |intS {x:Str}{n:Int}(hl:x.length≤640)(hn:intText? x=some n)(q:Q (.int n) H):BiR hd H Q "int" [.str x]
 |range3 {a b c:Int}(h0:smallI a)(h1:smallI b)(h2:smallI c)(hc:0<c)(q:Q (.rng a b c) H):BiR hd H Q "range" [.int a,.int b,.int c]
 |listT {l:List MV}(h:hd=false)(q:New H Q l):BiR hd H Q "list" [.tup l]
 |sortedT {a:Addr}{ls:List (List Int)}{n:Nat}(hl:LstAt H a (ls.map tupI))(h1:1≤n)(hn:∀ is∈ls,is.length=n)(q:∀ ls':List (List Int),ls'.Perm ls→ls'.Pairwise (fun x y=>lexLt y x=false)→New H Q (ls'.map tupI)):BiR hd H Q "sorted" [.ref a]
 |sortedL {a:Addr}{is:List Int}(hl:LstAt H a (is.map .int))(ha:is.Pairwise (· ≤ ·))(q:New H Q (is.map .int)):BiR hd H Q "sorted" [.ref a]
inductive BmR (H:MH)(Q:MV→MH→Prop):String→MV→List MV→Prop
 |append {a:Addr}{l:List MV}{x:MV}(h:H a=some (.lst l))(hl:l.length<bigList)(q:Q .none (H.set a (.lst (l++ [x])))):BmR H Q "append" (.ref a) [x]
 |remove {a:Addr}{is:List Int}{i:Int}(h:H a=some (.lst (is.map .int)))(hi:i∈is)(q:Q .none (H.set a (.lst ((is.erase i).map .int)))):BmR H Q "remove" (.ref a) [.int i]
 |dpop {a:Addr}{es:List (Int×MV)}{k:Int}{x:MV}(h:H a=some (.dct es))(hl:es.length≤bigList)(hx:dGet es k=some x)(q:Q x (H.set a (.dct (dDel es k)))):BmR H Q "pop" (.ref a) [.int k]
 |index {a:Addr}{is:List Int}{i:Int}(h:H a=some (.lst (is.map .int)))(hi:i∈is)(q:Q (.int (is.idxOf i)) H):BmR H Q "index" (.ref a) [.int i]
 |lpop {a:Addr}{l:List MV}{i:Int}{x:MV}(h:H a=some (.lst l))(h0:0≤i)(hx:l[i.toNat]? =some x)(q:Q x (H.set a (.lst (l.eraseIdx i.toNat)))):BmR H Q "pop" (.ref a) [.int i]
 |get {a:Addr}{es:List (Int×MV)}{k:Int}{d:MV}(h:H a=some (.dct es))(q:Q ((dGet es k).getD d) H):BmR H Q "get" (.ref a) [.int k,d]
 |split {x y:Str}(hy:(y.length==0)=false)(hx:x.length<bigList)(q:New H Q ((Txt.split x y).map .str)):BmR H Q "split" (.str x) [.str y]
 |join {x:Str}{a:Addr}{ts:List Str}(h:LstAt H a (ts.map .str))(hok:JoinOk x ts=true)(q:Q (.str (Txt.join x ts)) H):BmR H Q "join" (.str x) [.ref a]
inductive KindR (H:MH):MV→String→Nat→Prop
 |lst {a:Addr}{l:List MV}{m:String}(h:H a=some (.lst l))(hm: ["append","remove","index","pop"].contains m=true):KindR H (.ref a) m 1
 |dct {a:Addr}{es:List (Int×MV)}{m:String}(h:H a=some (.dct es))(hm: ["pop","get"].contains m=true):KindR H (.ref a) m 0
 |str {x:Str}{m:String}(hm: ["split","join"].contains m=true):KindR H (.str x) m 2
inductive AttrR (H:MH):MV→String→MV→Prop
 |mk {a:Addr}{fs:List (String×MV)}{f:String}{x:MV}(h:H a=some (.inst fs))(hx:fsGet fs f=some x):AttrR H (.ref a) f x
inductive SetAttrR (H:MH)(Q:MH→Prop):MV→String→MV→Prop
 |mk {a:Addr}{fs:List (String×MV)}{f:String}{x:MV}(h:H a=some (.inst fs))(hl:fs.length<100)(q:Q (H.set a (.inst (fsSet fs f x)))):SetAttrR H Q (.ref a) f x
inductive SetIdxR (H:MH)(Q:MH→Prop):MV→MV→MV→Prop
 |lst {a:Addr}{l:List MV}{i:Int}{x:MV}(h:H a=some (.lst l))(h0:0≤i)(h1:i<l.length)(q:Q (H.set a (.lst (l.set i.toNat x)))):SetIdxR H Q (.ref a) (.int i) x
 |dct {a:Addr}{es:List (Int×MV)}{i:Int}{x:MV}(h:H a=some (.dct es))(hl:es.length<bigList)(q:Q (H.set a (.dct (dSet es i x)))):SetIdxR H Q (.ref a) (.int i) x
abbrev CallT:=Bool→String→List MV→MH→(MV→MH→Prop)→(String→MH→Prop)→Prop
noncomputable def compW (src:MV)(vs₀:List MV)(cond:MV→MH→(Bool→MH→Prop)→Prop)(elt:MV→MH→(MV→MH→Prop)→Prop)(Q:MV→MH→Prop):List MV→List MV→MH→Prop
 | [],acc,H=>New H Q acc
 |v::vs,acc,H=>acc.length<bigList∧cond v H fun b H₁=>if b=true
  then elt v H₁ fun r H₂=>Elems H₂ src vs₀∧compW src vs₀ cond elt Q vs (acc++ [r]) H₂
  else Elems H₁ src vs₀∧compW src vs₀ cond elt Q vs acc H₁
noncomputable def forW (src:MV)(vs₀:List MV)(body:MV→Sto→MH→(Sto→MH→Prop)→Prop)(Q:Sto→MH→Prop):List MV→Sto→MH→Prop
 | [],ρ,H=>Q ρ H
 |v::vs,ρ,H=>body v ρ H fun ρ' H'=>Elems H' src vs₀∧forW src vs₀ body Q vs ρ' H'
noncomputable def whileW (test:Sto→MH→(Bool→MH→Prop)→Prop)(body:Sto→MH→(Sto→MH→Prop)→Prop)(Q:Sto→MH→Prop):Nat→Sto→MH→Prop
 |0,_,_=>False
 |n+1,ρ,H=>test ρ H fun b H₁=>if b=true
  then body ρ H₁ fun ρ' H'=>whileW test body Q n ρ' H'
  else Q ρ H₁
inductive BindR:List String→List MV→Sto→Sto→Prop
 |nil {ρ:Sto}:BindR [] [] ρ ρ
 |cons {x:String}{xs:List String}{v:MV}{vs:List MV}{ρ ρ':Sto}(h:BindR xs vs (ρ.set x v) ρ'):BindR (x::xs) (v::vs) ρ ρ'
noncomputable def asTruth (k:Bool→MH→Prop)(v:MV)(H:MH):Prop:=match v with
 | .bool b=>k b H
 |_=>False
theorem asTruth_of {k:Bool→MH→Prop}{v:MV}{H:MH}(h:asTruth k v H):∃ b,v=.bool b∧k b H:=by cases v<;>first|exact h.elim|exact ⟨_,rfl,h⟩
variable (Δ:CallT)(hd:Bool)
mutual
noncomputable def wE:ME→Sto→MH→(MV→MH→Prop)→(String→MH→Prop)→Prop
 | .none,_,H,Q,_=>Q .none H
 | .bool b,_,H,Q,_=>Q (.bool b) H
 | .int i,_,H,Q,_=>Q (.int i) H
 | .str s,_,H,Q,_=>Q (.str (Str.ofString s)) H
 | .var x,ρ,H,Q,_=>∃ v,ρ x=some v∧Q v H
 | .gconst _ v,_,H,Q,_=>Q v H
 | .bin op l r,ρ,H,Q,X=>wE l ρ H (fun a H₁=>wE r ρ H₁ (fun b H₂=>BinR H₂ Q op a b) X) X
 | .neg e,ρ,H,Q,X=>wE e ρ H (fun v H₁=>∃ i,v=.int i∧Q (.int (-i)) H₁) X
 | .not e,ρ,H,Q,X=>wE e ρ H (asTruth fun b H₁=>Q (.bool (!b)) H₁) X
 | .and es,ρ,H,Q,X=>wAnd es ρ H Q X
 | .or es,ρ,H,Q,X=>wOr es ρ H Q X
 | .cmp l c,ρ,H,Q,X=>wE l ρ H (fun a H₁=>wC c a ρ H₁ Q X) X
 | .attr e f,ρ,H,Q,X=>wE e ρ H (fun v H₁=>∃ x,AttrR H₁ v f x∧Q x H₁) X
 | .sub e i,ρ,H,Q,X=>wE e ρ H (fun v H₁=>wE i ρ H₁ (fun k H₂=>∃ x,SubR H₂ v k x∧Q x H₂) X) X
 | .slice e lo hi,ρ,H,Q,X=>wE e ρ H (fun v H₁=>wE lo ρ H₁ (fun l H₂=>wE hi ρ H₂ (fun h H₃=>SliceR H₃ Q v l h) X) X) X
 | .list es,ρ,H,Q,X=>wEs es ρ H (fun vs H₁=>New H₁ Q vs) X
 | .tup es,ρ,H,Q,X=>wEs es ρ H (fun vs H₁=>Q (.tup vs) H₁) X
 | .dict,_,H,Q,_=>∀ c,H c=none→Q (.ref c) (H.set c (.dct []))
 | .comp elt x it cond,ρ,H,Q,X=>hd=false∧wE it ρ H (fun src H₁=>∃ vs,Elems H₁ src vs∧compW src vs (fun v H k=>wE cond (ρ.set x v) H (asTruth k) (fun _ _=>False)) (fun v H k=>wE elt (ρ.set x v) H k (fun _ _=>False)) Q vs [] H₁) X
 | .call f es,ρ,H,Q,X=>wEs es ρ H (fun vs H₁=>Δ hd f vs H₁ Q X) X
 | .meth e m es,ρ,H,Q,X=>wE e ρ H (fun v H₁=>∃ a fs,v=.ref a∧H₁ a=some (.inst fs)∧fsGet fs m=none∧wEs es ρ H₁ (fun vs H₂=>Δ hd m (v::vs) H₂ Q X) X) X
 | .mk es,ρ,H,Q,X=>wEs es ρ H (fun vs H₁=>∀ a,H₁ a=none→Δ hd "__init__" (.ref a::vs) (H₁.set a (.inst [])) (fun r H₂=>r=.none∧Q (.ref a) H₂) X) X
 | .bi b es,ρ,H,Q,X=>wEs es ρ H (fun vs H₁=>BiR hd H₁ Q b vs) X
 | .bm e m es,ρ,H,Q,X=>wE e ρ H (fun v H₁=>∃ k,KindR H₁ v m k∧wEs es ρ H₁ (fun vs H₂=>KindR H₂ v m k∧BmR H₂ Q m v vs) X) X
 | .isinst e t,ρ,H,Q,X=>wE e ρ H (fun v H₁=>∃ b,IsiR H₁ v t b∧Q (.bool b) H₁) X
noncomputable def wEs:MEs→Sto→MH→(List MV→MH→Prop)→(String→MH→Prop)→Prop
 | .nil,_,H,Q,_=>Q [] H
 | .cons e es,ρ,H,Q,X=>wE e ρ H (fun v H₁=>wEs es ρ H₁ (fun vs H₂=>Q (v::vs) H₂) X) X
noncomputable def wAnd:MEs→Sto→MH→(MV→MH→Prop)→(String→MH→Prop)→Prop
 | .nil,_,_,_,_=>False
 | .cons e .nil,ρ,H,Q,X=>wE e ρ H Q X
 | .cons e es,ρ,H,Q,X=>wE e ρ H (asTruth fun b H₁=>if b=true then wAnd es ρ H₁ Q X else Q (.bool false) H₁) X
noncomputable def wOr:MEs→Sto→MH→(MV→MH→Prop)→(String→MH→Prop)→Prop
 | .nil,_,_,_,_=>False
 | .cons e .nil,ρ,H,Q,X=>wE e ρ H Q X
 | .cons e es,ρ,H,Q,X=>wE e ρ H (asTruth fun b H₁=>if b=true then Q (.bool true) H₁ else wOr es ρ H₁ Q X) X
noncomputable def wC:MCs→MV→Sto→MH→(MV→MH→Prop)→(String→MH→Prop)→Prop
 | .nil,_,_,_,_,_=>False
 | .cons op e .nil,a,ρ,H,Q,X=>wE e ρ H (fun b H₁=>∃ r,CmpR H₁ op a b r∧Q (.bool r) H₁) X
 | .cons op e c,a,ρ,H,Q,X=>wE e ρ H (fun b H₁=>∃ r,CmpR H₁ op a b r∧if r=true then wC c b ρ H₁ Q X else Q (.bool false) H₁) X
end
noncomputable def wS_for (hd:Bool)(it:Sto→MH→(MV→MH→Prop)→Prop)(body:MV→Sto→MH→(Sto→MH→Prop)→Prop)(ρ:Sto)(H:MH)(N:Sto→MH→Prop):Prop:=
 hd=false∧it ρ H fun src H₁=>∃ vs,Elems H₁ src vs∧forW src vs body N vs ρ H₁
mutual
noncomputable def wS (hd:Bool):MS→Sto→MH→(Sto→MH→Prop)→(MV→MH→Prop)→(String→Sto→MH→Prop)→Prop
 | .expr e,ρ,H,N,_,X=>wE Δ hd e ρ H (fun _ H₁=>N ρ H₁) (fun c H₁=>X c ρ H₁)
 | .assign x e,ρ,H,N,_,X=>wE Δ hd e ρ H (fun v H₁=>N (ρ.set x v) H₁) (fun c H₁=>X c ρ H₁)
 | .setAttr e f v,ρ,H,N,_,X=>wE Δ hd v ρ H (fun x H₁=>wE Δ hd e ρ H₁ (fun o H₂=>SetAttrR H₂ (N ρ) o f x) (fun c H₁=>X c ρ H₁)) (fun c H₁=>X c ρ H₁)
 | .setIdx e i v,ρ,H,N,_,X=>wE Δ hd v ρ H (fun x H₁=>wE Δ hd e ρ H₁ (fun o H₂=>wE Δ hd i ρ H₂ (fun k H₃=>SetIdxR H₃ (N ρ) o k x) (fun c H₁=>X c ρ H₁)) (fun c H₁=>X c ρ H₁)) (fun c H₁=>X c ρ H₁)
 | .ret e,ρ,H,_,R,X=>wE Δ hd e ρ H R (fun c H₁=>X c ρ H₁)
 | .ite t a b,ρ,H,N,R,X=>wE Δ hd t ρ H (asTruth fun c H₁=>if c=true then wSs hd a ρ H₁ N R X else wSs hd b ρ H₁ N R X) (fun c H₁=>X c ρ H₁)
 | .whil t b,ρ,H,N,R,X=>∃ n,whileW (fun ρ H k=>wE Δ hd t ρ H (asTruth k) (fun c H₁=>X c ρ H₁)) (fun ρ H k=>wSs hd b ρ H k R X) N n ρ H
 | .for_ x it b,ρ,H,N,R,X=>wS_for hd (fun ρ H k=>wE Δ hd it ρ H k (fun c H₁=>X c ρ H₁)) (fun v ρ H k=>wSs hd b (ρ.set x v) H k R X) ρ H N
 | .forT xs it b,ρ,H,N,R,X=>wS_for hd (fun ρ H k=>wE Δ hd it ρ H k (fun c H₁=>X c ρ H₁)) (fun v ρ H k=>∃ vs ρ',v=.tup vs∧BindR xs vs ρ ρ'∧wSs hd b ρ' H k R X) ρ H N
 | .unpack xs e,ρ,H,N,_,X=>hd=false∧wE Δ hd e ρ H (fun v H₁=>∃ vs ρ',v=.tup vs∧BindR xs vs ρ ρ'∧N ρ' H₁) (fun c H₁=>X c ρ H₁)
 | .raise c _,ρ,H,_,_,X=>hd=false∧X c ρ H
 | .try_ b x h,ρ,H,N,R,X=>hd=false∧wSs hd b ρ H N R (fun c ρ' H'=>wSs true h (ρ'.set x (.exc c)) H' (fun ρ'' H''=>N (ρ''.del x) H'') R (fun _ _ _=>False))
noncomputable def wSs (hd:Bool):MSs→Sto→MH→(Sto→MH→Prop)→(MV→MH→Prop)→(String→Sto→MH→Prop)→Prop
 | .nil,ρ,H,N,_,_=>N ρ H
 | .cons s ss,ρ,H,N,R,X=>wS hd s ρ H (fun ρ' H'=>wSs hd ss ρ' H' N R X) R X
end
structure MFn where
 params:List String
 body:MSs
abbrev MProg:=List (String×MFn)
noncomputable def MProg.fn (P:MProg)(f:String):Option MFn:=match P with
 | []=>none
 |(g,d)::r=>if f=g then some d else MProg.fn r f
noncomputable def callW (P:MProg):Nat→CallT
 |0,_,_,_,_,_,_=>False
 |n+1,hd,f,vs,H,Q,X=>∃ d,P.fn f=some d∧d.params.length=vs.length∧wSs (callW P n) hd d.body (Sto.ofArgs d.params vs) H (fun _ H'=>Q .none H') Q (fun c _ H'=>X c H')
end Mine
end
section
namespace Mine
open PySem
theorem ofString_inj {x y:String}(h:Str.ofString x=Str.ofString y):x=y:=by
 unfold Str.ofString at h
 rw [cpsOfBytes_string,cpsOfBytes_string] at h
 have h1:x.toList.map Char.toNat=y.toList.map Char.toNat:=by
  have:=congrArg (fun s:Str=>s.cps.toList) h
  simpa using this
 have h2:x.toList=y.toList:=by
  have inj:∀(l r:List Char),l.map Char.toNat=r.map Char.toNat→l=r:=by
   intro l
   induction l with
   |nil=>intro r hr;cases r with|nil=>rfl|cons _ _=>cases hr
   |cons a l ih=>
    intro r hr
    cases r with
    |nil=>cases hr
    |cons b r=>
     simp only [List.map_cons,List.cons.injEq] at hr
     rw [ih r hr.2,Char.toNat_inj.mp hr.1]
  exact inj _ _ h1
 exact String.toList_inj.mp h2
theorem ofString_eq {x y:String}:Str.ofString x=Str.ofString y↔x=y:=⟨ofString_inj,fun h=>by rw [h]⟩
namespace All2
variable {α β γ:Type}{R S:α→β→Prop}{l:List α}{r:List β}
theorem mono (f:∀ a b,R a b→S a b)(h:All2 R l r):All2 S l r:=by
 induction h with
 |nil=>exact .nil
 |cons h _ ih=>exact .cons (f _ _ h) ih
theorem length_eq (h:All2 R l r):l.length=r.length:=by
 induction h with
 |nil=>rfl
 |cons _ _ ih=>exact congrArg Nat.succ ih
theorem append {l':List α}{r':List β}(h:All2 R l r)(h':All2 R l' r'):All2 R (l++l') (r++r'):=by
 induction h with
 |nil=>exact h'
 |cons h _ ih=>exact .cons h ih
theorem get (h:All2 R l r):∀(i:Nat) (b:β),r[i]? =some b→∃ a,l[i]? =some a∧R a b:=by
 induction h with
 |nil=>intro i b e;rw [List.getElem?_nil] at e;cases e
 |cons h _ ih=>intro i b e;cases i with
  |zero=>cases e;exact ⟨_,rfl,h⟩
  |succ i=>exact ih i b e
theorem take (h:All2 R l r):∀(i:Nat),All2 R (l.take i) (r.take i):=by
 induction h with
 |nil=>intro i;cases i<;>exact .nil
 |cons h _ ih=>intro i;cases i with
  |zero=>exact .nil
  |succ i=>exact .cons h (ih i)
theorem drop (h:All2 R l r):∀(i:Nat),All2 R (l.drop i) (r.drop i):=by
 induction h with
 |nil=>intro i;cases i<;>exact .nil
 |cons h t ih=>intro i;cases i with
  |zero=>exact .cons h t
  |succ i=>exact ih i
theorem set (h:All2 R l r):∀(i:Nat) {a:α} {b:β},R a b→All2 R (l.set i a) (r.set i b):=by
 induction h with
 |nil=>intro i a b _;exact .nil
 |cons h t ih=>intro i a b e;cases i with
  |zero=>exact .cons e t
  |succ i=>exact .cons h (ih i e)
theorem replicate (n:Nat){a:α}{b:β}(e:R a b):All2 R (List.replicate n a) (List.replicate n b):=by
 induction n with
 |zero=>exact .nil
 |succ n ih=>exact .cons e ih
end All2
inductive HK where
 |lst (vs:List MV)
 |ro (vs:List MV)
 |dct (es:List (Int×MV))
 |inst (d:Addr)
 |idict (a:Addr)(fs:List (String×MV))
 |tup (vs:List MV)
 |rng (a b c:Int)
 |exc (c:String)
 |cell (v:Option MV)
 |ns (m:Sto)
 |raw (o:Obj)
 |hid (vs:List MV)
noncomputable def HK.slot:HK→Bool
 | .cell _| .ns _| .raw _| .hid _=>true
 |_=>false
noncomputable def HK.fixed:HK→Bool
 | .ro _| .tup _| .rng ..| .exc _=>true
 |_=>false
abbrev Psi:=Addr→Option HK
noncomputable def Psi.set (Ψ:Psi)(a:Addr)(k:HK):Psi:=fun b=>if b=a then some k else Ψ b
inductive VRel (Ψ:Psi):Value→MV→Prop
 |none:VRel Ψ .none .none
 |bool {b:Bool}:VRel Ψ (.bool b) (.bool b)
 |int {i:Int}{t:Tok}:VRel Ψ (.int i t) (.int i)
 |str {s:Str}{t:Tok}:VRel Ψ (.str s t) (.str s)
 |ref {a:Addr}:VRel Ψ (.ref a) (.ref a)
 |tup {a:Addr}{vs:List MV}(h:Ψ a=some (.tup vs)):VRel Ψ (.ref a) (.tup vs)
 |rng {a:Addr}{x y z:Int}(h:Ψ a=some (.rng x y z)):VRel Ψ (.ref a) (.rng x y z)
 |exc {a:Addr}{c:String}(h:Ψ a=some (.exc c)):VRel Ψ (.ref a) (.exc c)
theorem vnone {Ψ:Psi}{v:Value}(h:VRel Ψ v .none):v=.none:=by cases h;rfl
theorem vbool {Ψ:Psi}{v:Value}{b:Bool}(h:VRel Ψ v (.bool b)):v=.bool b:=by cases h;rfl
theorem vint {Ψ:Psi}{v:Value}{i:Int}(h:VRel Ψ v (.int i)):∃ t,v=.int i t:=by cases h;exact ⟨_,rfl⟩
theorem vstr {Ψ:Psi}{v:Value}{x:Str}(h:VRel Ψ v (.str x)):∃ t,v=.str x t:=by cases h;exact ⟨_,rfl⟩
theorem vref {Ψ:Psi}{v:Value}{a:Addr}(h:VRel Ψ v (.ref a)):v=.ref a:=by cases h;rfl
theorem vtup {Ψ:Psi}{v:Value}{vs:List MV}(h:VRel Ψ v (.tup vs)):∃ a,v=.ref a∧Ψ a=some (.tup vs):=by cases h;exact ⟨_,rfl,by assumption⟩
theorem vrng {Ψ:Psi}{v:Value}{a b c:Int}(h:VRel Ψ v (.rng a b c)):∃ x,v=.ref x∧Ψ x=some (.rng a b c):=by cases h;exact ⟨_,rfl,by assumption⟩
theorem vexc {Ψ:Psi}{v:Value}{c:String}(h:VRel Ψ v (.exc c)):∃ x,v=.ref x∧Ψ x=some (.exc c):=by cases h;exact ⟨_,rfl,by assumption⟩
noncomputable def Fix (Ψ Ψ':Psi):Prop:=∀ a k,Ψ a=some k→k.fixed=true→Ψ' a=some k
theorem Fix.refl (Ψ:Psi):Fix Ψ Ψ:=fun _ _ h _=>h
theorem Fix.trans {Ψ Ψ' Ψ'':Psi}(x:Fix Ψ Ψ')(y:Fix Ψ' Ψ''):Fix Ψ Ψ'':=fun a k h f=>y a k (x a k h f) f
theorem VRel.mono {Ψ Ψ':Psi}(F:Fix Ψ Ψ'){v:Value}{m:MV}(h:VRel Ψ v m):VRel Ψ' v m:=by
 cases h with
 |tup h=>exact .tup (F _ _ h rfl)
 |rng h=>exact .rng (F _ _ h rfl)
 |exc h=>exact .exc (F _ _ h rfl)
 |_=>constructor
inductive SeqO (T:String)(Ψ:Psi)(o:Obj)(vs:List MV):Prop
 |mk (items:Array Value)(n:Nat)(e:o={cls:=.type T,dict:=none,data:=.seq items n,slots:=#[]})(r:All2 (VRel Ψ) items.toList vs)(hl:vs.length≤bigList)
section
variable (prog:Program)(w:World)(ca:String→Addr)
noncomputable def ORel (Ψ:Psi)(o:Obj):HK→Prop
 | .lst vs=>SeqO "list" Ψ o vs
 | .ro vs=>∃ items n,o.cls=.type "list"∧o.data=.seq items n∧All2 (VRel Ψ) items.toList vs∧vs.length≤bigList
 | .dct es=>∃ kvs,o.IsDictOf (intKind prog w) kvs∧All2 (fun (p:Int×Value) (q:Int×MV)=>p.1=q.1∧VRel Ψ p.2 q.2) kvs es
 | .inst d=>o.cls=.ref (ca "Train")∧o.dict=some d∧o.data=.plain
 | .idict _ fs=>o.ExactDict∧∃ ents n,o.data=.dict ents n∧(StrKeys ents∧ents.size≤fs.length)∧
   (∀ x,fsGet fs x=none→nsFind ents (Str.ofString x)=none)∧∀ x mv,fsGet fs x=some mv→∃ v,nsFind ents (Str.ofString x)=some v∧VRel Ψ v mv
 | .tup vs=>SeqO "tuple" Ψ o vs
 | .rng a b c=>(∃ t u v,o={cls:=.type "range",dict:=none,data:=.fields #[.int a t,.int b u,.int c v],slots:=#[]})∧smallI a∧smallI b∧smallI c∧0<c
 | .exc c=>excNames.contains c=true∧o.cls=.ref (ca c)∧∃ vs,o.data=.fields vs
 | .cell v=>(∃ w,o.data=.cell w)∧∀ mv,v=some mv→∃ w,o.data=.cell (some w)∧VRel Ψ w mv
 | .ns m=>∃ ents n,o.data=.dict ents n∧StrKeys ents∧∀ x v,m x=some v→∃ w,nsFind ents (Str.ofString x)=some w∧VRel Ψ w v
 | .raw o'=>o=o'
 | .hid vs=>SeqO "list" Ψ o vs
variable {prog w ca}
theorem SeqO.mono {T:String}{Ψ Ψ':Psi}(F:Fix Ψ Ψ'){o:Obj}{vs:List MV}(h:SeqO T Ψ o vs):SeqO T Ψ' o vs:=by
 cases h with|mk items n e r hl=>exact ⟨items,n,e,r.mono fun _ _=>VRel.mono F,hl⟩
theorem ORel.mono {Ψ Ψ':Psi}(F:Fix Ψ Ψ'){o:Obj}{k:HK}(h:ORel prog w ca Ψ o k):ORel prog w ca Ψ' o k:=by
 cases k with
 |lst vs=>exact SeqO.mono F h
 |tup vs=>exact SeqO.mono F h
 |hid vs=>exact SeqO.mono F h
 |ro vs=>obtain ⟨items,n,c,c',d,e⟩:=h;exact ⟨items,n,c,c',d.mono fun _ _=>VRel.mono F,e⟩
 |dct es=>obtain ⟨kvs,a,d⟩:=h;exact ⟨kvs,a,d.mono fun _ _ x=>⟨x.1,x.2.mono F⟩⟩
 |idict a fs=>
  obtain ⟨a,ents,n,c,d,e,f⟩:=h
  refine ⟨a,ents,n,c,d,e,fun x mv hx=>?_⟩
  obtain ⟨v,h1,h2⟩:=f x mv hx;exact ⟨v,h1,h2.mono F⟩
 |cell v=>refine ⟨h.1,fun mv e=>?_⟩;obtain ⟨w,a,b⟩:=h.2 mv e;exact ⟨w,a,b.mono F⟩
 |ns m=>obtain ⟨ents,n,c,d,e⟩:=h;refine ⟨ents,n,c,d,fun x v hx=>?_⟩;obtain ⟨w,a,b⟩:=e x v hx;exact ⟨w,a,b.mono F⟩
 |_=>exact h
variable (prog w ca)
noncomputable def Typed (Ψ:Psi)(h:Heap):Prop:=∀ a k,Ψ a=some k→∃ o,h.get? a=some o∧ORel prog w ca Ψ o k
variable {prog w ca}
theorem Typed.mod {Ψ Ψ':Psi}{h h':Heap}(T:Typed prog w ca Ψ h)(P:Addr→Prop)(F:Fix Ψ Ψ')
  (hsame:∀ a k,Ψ' a=some k→¬ P a→Ψ a=some k∧∀ o,h.get? a=some o→h'.get? a=some o)
  (hnew:∀ a k,Ψ' a=some k→P a→∃ o,h'.get? a=some o∧ORel prog w ca Ψ' o k):Typed prog w ca Ψ' h':=fun a k e=>by
 by_cases hp:P a
 ·exact hnew a k e hp
 ·obtain ⟨e1,e2⟩:=hsame a k e hp
  obtain ⟨o,ho,hr⟩:=T a k e1
  exact ⟨o,e2 o ho,hr.mono F⟩
theorem Typed.keeps {Ψ:Psi}{h h':Heap}(T:Typed prog w ca Ψ h)(k:∀ a k,Ψ a=some k→∀ o,h.get? a=some o→h'.get? a=some o):Typed prog w ca Ψ h':=
 T.mod (fun _=>False) (.refl _) (fun a x e _=>⟨e,k a x e⟩) fun _ _ _ hp=>hp.elim
end
theorem Fix.set_new {Ψ:Psi}{a:Addr}(k:HK)(h:Ψ a=none):Fix Ψ (Ψ.set a k):=fun b x e _=>by
 unfold Psi.set;split
 ·rename_i q;subst q;rw [h] at e;cases e
 ·exact e
theorem Fix.set_turn {Ψ:Psi}{a:Addr}{k₀:HK}(k:HK)(h:Ψ a=some k₀)(hf:k₀.fixed=false):Fix Ψ (Ψ.set a k):=fun b x e f=>by
 unfold Psi.set;split
 ·rename_i q;subst q;rw [h] at e;cases e;rw [hf] at f;cases f
 ·exact e
theorem Psi.set_self (Ψ:Psi)(a:Addr)(k:HK):Ψ.set a k a=some k:=if_pos rfl
theorem Psi.set_ne (Ψ:Psi){a b:Addr}(k:HK)(h:b≠a):Ψ.set a k b=Ψ b:=if_neg h
theorem MH.set_self (H:MH)(a:Addr)(k:MObj):H.set a k a=some k:=if_pos rfl
theorem MH.set_ne (H:MH){a b:Addr}(k:MObj)(h:b≠a):H.set a k b=H b:=if_neg h
structure Keep (own:Addr→Prop)(Ψ Ψ':Psi):Prop where
 fix:Fix Ψ Ψ'
 slot:∀ a k,Ψ a=some k→k.slot=true→¬ own a→Ψ' a=some k
 ns:∀ a m,Ψ a=some (.ns m)→∃ m',Ψ' a=some (.ns m')
 cell:∀ a v,Ψ a=some (.cell v)→∃ v',Ψ' a=some (.cell v')
noncomputable def none_:Addr→Prop:=fun _=>False
theorem Keep.refl (own:Addr→Prop)(Ψ:Psi):Keep own Ψ Ψ:=⟨.refl _,fun _ _ h _ _=>h,fun _ m h=>⟨m,h⟩,fun _ v h=>⟨v,h⟩⟩
theorem Keep.trans {own:Addr→Prop}{Ψ Ψ' Ψ'':Psi}(x:Keep own Ψ Ψ')(y:Keep own Ψ' Ψ''):Keep own Ψ Ψ'':=
 ⟨x.fix.trans y.fix,fun a k h f n=>y.slot a k (x.slot a k h f n) f n,fun a m h=>(x.ns a m h).elim fun m' e=>y.ns a m' e,fun a v h=>(x.cell a v h).elim fun v' e=>y.cell a v' e⟩
theorem Keep.weaken {own own':Addr→Prop}{Ψ Ψ':Psi}(x:Keep own Ψ Ψ')(h:∀ a,own a→own' a):Keep own' Ψ Ψ':=
 ⟨x.fix,fun a k e f n=>x.slot a k e f fun q=>n (h a q),x.ns,x.cell⟩
theorem Keep.of_none {own:Addr→Prop}{Ψ Ψ':Psi}(x:Keep none_ Ψ Ψ'):Keep own Ψ Ψ':=x.weaken fun _ h=>h.elim
theorem nn {α:Type}{x:Option α}{y:α}{p:Prop}(h:x=none)(e:x=some y):p:=by rw [h] at e;cases e
theorem ne_of_none {Ψ:Psi}{a b:Addr}{k:HK}(h:Ψ a=none)(e:Ψ b=some k):b≠a:=fun q=>nn h (q▸e)
theorem Keep.drop {own own':Addr→Prop}{Ψ Ψ':Psi}(x:Keep own Ψ Ψ')(h:∀ a,own a→Ψ a=none∨own' a):Keep own' Ψ Ψ':=
 ⟨x.fix,fun a k e f n=>x.slot a k e f fun q=>(h a q).elim (fun z=>nn z e) n,x.ns,x.cell⟩
theorem Psi.set_up {Ψ:Psi}{a b:Addr}{k k':HK}(h:Ψ a=none)(e:Ψ b=some k):Ψ.set a k' b=some k:=(Psi.set_ne _ _ (ne_of_none h e)).trans e
theorem Keep.set_new {Ψ:Psi}{a:Addr}(k:HK)(h:Ψ a=none):Keep none_ Ψ (Ψ.set a k):=
 ⟨.set_new k h,fun b x e _ _=>Psi.set_up h e,fun b m e=>⟨m,Psi.set_up h e⟩,fun b m e=>⟨m,Psi.set_up h e⟩⟩
noncomputable def HK.data:HK→Bool
 | .lst _| .dct _| .inst ..| .idict ..=>true
 |_=>false
noncomputable def HK.sort:HK→Nat
 | .lst _| .dct _| .inst ..| .idict ..=>0
 | .ns _=>1
 | .cell _=>2
 | .raw _=>3
 | .hid _=>4
 |_=>5
theorem sort_data {k:HK}(h:k.data=true):k.sort=0∧k.fixed=false:=by cases k<;>first|exact ⟨rfl,rfl⟩|exact absurd h Bool.noConfusion
theorem sort_slot {k:HK}(h:k.slot=true):k.sort≠0:=by cases k<;>first|exact absurd h Bool.noConfusion|exact Nat.noConfusion
theorem ne_of_sort {Ψ:Psi}{a b:Addr}{k k':HK}(h:Ψ a=some k)(e:Ψ b=some k')(n:k.sort≠k'.sort):b≠a:=fun q=>by
 subst q;rw [h] at e;exact n (congrArg HK.sort (Option.some.inj e))
theorem Psi.set_sort {Ψ:Psi}{a b:Addr}{k k' k₁:HK}(h:Ψ a=some k)(e:Ψ b=some k')(n:k.sort≠k'.sort):Ψ.set a k₁ b=some k':=(Psi.set_ne _ _ (ne_of_sort h e n)).trans e
theorem Keep.set_data {Ψ:Psi}{a:Addr}{k₀:HK}(k:HK)(h:Ψ a=some k₀)(hd:k₀.data=true):Keep none_ Ψ (Ψ.set a k):=
 have z:=sort_data hd
 ⟨.set_turn k h z.2,fun b x e f _=>Psi.set_sort h e (z.1.symm▸(sort_slot f).symm),fun b m e=>⟨m,Psi.set_sort h e (z.1.symm▸Nat.noConfusion)⟩,fun b m e=>⟨m,Psi.set_sort h e (z.1.symm▸Nat.noConfusion)⟩⟩
theorem Keep.set_own {Ψ:Psi}{a:Addr}{k₀ k:HK}{own:Addr→Prop}(h:Ψ a=some k₀)(hf:k₀.fixed=false)(ho:own a)(hns:∀ m,k₀=.ns m→∃ m',k=.ns m')(hce:∀ m,k₀=.cell m→∃ m',k=.cell m'):Keep own Ψ (Ψ.set a k):=by
 refine ⟨.set_turn k h hf,fun b x e f n=>(Psi.set_ne _ _ fun (q:b=a)=>n (q.symm▸ho)).trans e,fun b m e=>?_,fun b m e=>?_⟩
 ·by_cases q:b=a
  ·subst q;obtain ⟨m',rfl⟩:=hns m (Option.some.inj (h.symm.trans e));exact ⟨m',Psi.set_self _ _ _⟩
  ·exact ⟨m,(Psi.set_ne _ _ q).trans e⟩
 ·by_cases q:b=a
  ·subst q;obtain ⟨m',rfl⟩:=hce m (Option.some.inj (h.symm.trans e));exact ⟨m',Psi.set_self _ _ _⟩
  ·exact ⟨m,(Psi.set_ne _ _ q).trans e⟩
noncomputable def HRel (Ψ:Psi)(a:Addr):MObj→Prop
 | .lst vs=>Ψ a=some (.lst vs)
 | .ro vs=>Ψ a=some (.ro vs)
 | .dct es=>Ψ a=some (.dct es)
 | .inst fs=>∃ d,Ψ a=some (.inst d)∧Ψ d=some (.idict a fs)
structure EnvRel (Ψ:Psi)(env:Env)(ρ:Sto):Prop where
 kind:env.scope.kind=.function
 glob:env.globals=mainGlobals
 blt:env.builtins=builtinsNs
 loc:∃ m,Ψ env.locals=some (.ns m)∧∀ x v,x≠".0"→env.kindOf (Str.ofString x)=some .local→ρ x=some v→m x=some v
 val:∀ x v,(env.kindOf (Str.ofString x)=some .cell∨env.kindOf (Str.ofString x)=some .free)→ρ x=some v→
  ∃ c,env.cells.lookup (Str.ofString x)=some c∧Ψ c=some (.cell (some v))
 cel:∀ n,env.kindOf n=some .cell→∃ c w,env.cells.lookup n=some c∧Ψ c=some (.cell w)
 apart:env.cells.Pairwise fun x y=>x.2≠y.2
noncomputable def ownOf (env:Env)(a:Addr):Prop:=a=env.locals∨∃ n,env.kindOf n=some .cell∧env.cells.lookup n=some a
theorem EnvRel.keep {Ψ Ψ':Psi}{env:Env}{ρ:Sto}(E:EnvRel Ψ env ρ)(K:Keep none_ Ψ Ψ'):EnvRel Ψ' env ρ where
 kind:=E.kind
 glob:=E.glob
 blt:=E.blt
 loc:=E.loc.imp fun _ x=>⟨K.slot _ _ x.1 rfl id,x.2⟩
 val x v hk hv:=(E.val x v hk hv).imp fun _ y=>⟨y.1,K.slot _ _ y.2 rfl id⟩
 cel n hn:=(E.cel n hn).imp fun _ y=>y.imp fun _ z=>⟨z.1,K.slot _ _ z.2 rfl id⟩
 apart:=E.apart
end Mine
end
section
namespace Mine
open PySem
structure Amb where
 prog:Program
 w:World
 h₀:Heap
 ca:String→Addr
 g₀:Array GenState
 os₀:OsState
 big:∃ a o,sysModules<a∧h₀.get? a=some o
abbrev Amb.M (W:Amb):Model:=model W.prog W.w
abbrev Amb.O (W:Amb)(Ψ:Psi)(o:Obj)(k:HK):Prop:=ORel W.prog W.w W.ca Ψ o k
structure St (W:Amb)(fs:List Env)(Ψ:Psi)(H:MH)(s:Shared):Prop where
 typed:Typed W.prog W.w W.ca Ψ s.heap
 fresh:∀ a k,Ψ a=some k→(∀ vs,k≠ .ro vs)→W.h₀.get? a=none
 heap:∀ a o,H a=some o→HRel Ψ a o
 base:W.h₀.StaysIn s.heap
 frames:∀ e∈fs,e.scope.kind≠ .module∧∃ L m,e.frame=some L∧Ψ L=some (.ns m)
 gens:s.gens=W.g₀
 os:s.os=W.os₀
 dsys:∀ a es,Ψ a=some (.dct es)→(a==sysModules)=false
section
variable {W:Amb}{fs:List Env}{Ψ Ψ':Psi}{H:MH}{s s':Shared}
theorem St.none_at (S:St W fs Ψ H s):Ψ s.heap.objs.size=none:=by
 cases q:Ψ s.heap.objs.size with
 |none=>rfl
 |some k=>obtain ⟨o,ho,_⟩:=S.typed _ _ q;exact absurd (Heap.lt_size ho) (Nat.lt_irrefl _)
theorem HRel.some {a:Addr}{o:MObj}(h:HRel Ψ a o):∃ k,Ψ a=some k:=by
 cases o with
 |inst fs=>obtain ⟨d,h,_⟩:=h;exact ⟨_,h⟩
 |_=>exact ⟨_,h⟩
theorem St.hNone (S:St W fs Ψ H s){a:Addr}(h:Ψ a=none):H a=none:=by
 cases q:H a with
 |none=>rfl
 |some o=>exact (S.heap a o q).some.elim fun _ e=>nn h e
theorem St.free_at (S:St W fs Ψ H s):H s.heap.objs.size=none:=S.hNone S.none_at
theorem St.base_at (S:St W fs Ψ H s):W.h₀.get? s.heap.objs.size=none:=S.base.fresh
theorem St.notSysAt (S:St W fs Ψ H s):(s.heap.objs.size==sysModules)=false:=by
 obtain ⟨a,o,h1,h2⟩:=W.big
 exact beq_eq_false_iff_ne.mpr (Nat.ne_of_gt (Nat.lt_trans h1 (Heap.lt_size (S.base a o h2))))
theorem HRel.keepN {a:Addr}{o:MObj}(h:HRel Ψ a o)(k:∀ b x,Ψ b=Option.some x→Ψ' b=Option.some x):HRel Ψ' a o:=by
 cases o with
 |inst fs=>obtain ⟨d,h1,h2⟩:=h;exact ⟨d,k _ _ h1,k _ _ h2⟩
 |_=>exact k _ _ h
theorem St.toks (S:St W fs Ψ H s)(n:Nat):St W fs Ψ H {s with toks:=n}:=⟨S.typed,S.fresh,S.heap,S.base,S.frames,S.gens,S.os,S.dsys⟩
theorem St.of_keeps (S:St W fs Ψ H s)(hk:∀ a k,Ψ a=some k→∀ o,s.heap.get? a=some o→s'.heap.get? a=some o)(hb:W.h₀.StaysIn s'.heap)(hg:s'.gens=s.gens)(ho:s'.os=s.os):St W fs Ψ H s':=
 ⟨S.typed.keeps hk,S.fresh,S.heap,hb,S.frames,hg.trans S.gens,ho.trans S.os,S.dsys⟩
theorem St.of_all (S:St W fs Ψ H s)(hk:∀ a o,s.heap.get? a=some o→s'.heap.get? a=some o)(hg:s'.gens=s.gens)(ho:s'.os=s.os):St W fs Ψ H s':=
 S.of_keeps (fun a _ _ o=>hk a o) (fun b o e=>hk b o (S.base b o e)) hg ho
theorem ne_none {α:Type}{f:Addr→Option α}{a b:Addr}{x:α}(h:f a=none)(e:f b=some x):b≠a:=fun q=>nn h (q▸e)
theorem St.of_extBut (S:St W fs Ψ H s){a:Addr}(hn:Ψ a=none)(h0:W.h₀.get? a=none)(hk:Heap.ExtBut a s.heap s'.heap)(hg:s'.gens=s.gens)(ho:s'.os=s.os):St W fs Ψ H s':=
 S.of_keeps (fun b k e o=>hk b o (ne_none hn e)) (fun b o e=>hk b o (ne_none (f:=W.h₀.get?) h0 e) (S.base b o e)) hg ho
theorem Psi.set_inv {Ψ:Psi}{a b:Addr}{k x:HK}(e:Ψ.set a k b=some x):(b=a∧x=k)∨(b≠a∧Ψ b=some x):=by
 by_cases q:b=a
 ·subst q;exact .inl ⟨rfl,(Option.some.inj ((Psi.set_self _ _ _).symm.trans e)).symm⟩
 ·exact .inr ⟨q,(Psi.set_ne _ _ q).symm.trans e⟩
theorem St.placed (S:St W fs Ψ H s){a:Addr}{o:Obj}{k:HK}(hk:∀ b o,s.heap.get? b=some o→s'.heap.get? b=some o)(ha:s.heap.get? a=none)(hsys:(a==sysModules)=false)(ho:s'.heap.get? a=some o)
  (hr:W.O (Ψ.set a k) o k) (hg:s'.gens=s.gens) (hos:s'.os=s.os):Ψ a=none∧St W fs (Ψ.set a k) H s':=by
 have hn:Ψ a=none:=by
  cases q:Ψ a with
  |none=>rfl
  |some k=>exact (S.typed _ _ q).elim fun o ho=>nn ha ho.1
 have hb:W.h₀.get? a=none:=by
  cases q:W.h₀.get? a with
  |none=>rfl
  |some o=>exact nn ha (S.base a o q)
 refine ⟨hn,⟨fun b x e=>?_,fun b x e hx=>?_,fun b x e=>(S.heap b x e).keepN fun _ _=>Psi.set_up hn,fun b o e=>hk b o (S.base b o e),fun e he=>?_,hg.trans S.gens,hos.trans S.os,fun b es e=>?_⟩⟩
 ·rcases Psi.set_inv e with ⟨rfl,rfl⟩|⟨_,e⟩
  ·exact ⟨o,ho,hr⟩
  ·exact (S.typed b x e).elim fun o z=>⟨o,hk _ _ z.1,z.2.mono (.set_new k hn)⟩
 ·rcases Psi.set_inv e with ⟨rfl,_⟩|⟨_,e⟩
  ·exact hb
  ·exact S.fresh b x e hx
 ·obtain ⟨p,L,m,b,c⟩:=S.frames e he;exact ⟨p,L,m,b,Psi.set_up hn c⟩
 ·rcases Psi.set_inv e with ⟨rfl,_⟩|⟨_,e⟩
  ·exact hsys
  ·exact S.dsys b es e
theorem St.push (S:St W fs Ψ H s){o:Obj}{k:HK}(hf:o.isFreed=false)(hr:W.O (Ψ.set s.heap.objs.size k) o k)
  (hh:s'.heap=s.heap.push o) (hg:s'.gens=s.gens) (ho:s'.os=s.os):St W fs (Ψ.set s.heap.objs.size k) H s':=
 (S.placed (fun b o e=>hh▸Heap.get?_push_of_some _ e) (Heap.get?_none_of_le (Nat.le_refl _)) S.notSysAt (hh▸Heap.get?_push_size _ hf) hr hg ho).2
theorem St.pushKeep (S:St W fs Ψ H s)(k:HK):Keep none_ Ψ (Ψ.set s.heap.objs.size k):=.set_new k S.none_at
theorem St.shown (S:St W fs Ψ H s){c:Addr}{o:MObj}(h:HRel Ψ c o):St W fs Ψ (H.set c o) s:=
 ⟨S.typed,S.fresh,fun a x e=>by
  by_cases q:a=c
  ·subst q;exact Option.some.inj ((MH.set_self _ _ _).symm.trans e)▸h
  ·exact S.heap a x ((MH.set_ne _ _ q).symm.trans e),S.base,S.frames,S.gens,S.os,S.dsys⟩
theorem St.turned (S:St W fs Ψ H s){a:Addr}{o':Obj}{k₀ k:HK}{H':MH}(e₀:Ψ a=some k₀)(hfix:k₀.fixed=false)(hns:∀ m,k₀=.ns m→∃ m',k=.ns m')
  (hr:W.O (Ψ.set a k) o' k) (hs:Heap.SameBut a s.heap s'.heap) (ho':s'.heap.get? a=some o') (hH:∀ b x,H' b=some x→HRel (Ψ.set a k) b x)
  (hg:s'.gens=s.gens) (ho:s'.os=s.os) (hdc:∀ es,k=.dct es→(a==sysModules)=false):St W fs (Ψ.set a k) H' s':=by
 have h0:=S.fresh a k₀ e₀ fun vs q=>by subst q;exact Bool.noConfusion hfix
 refine ⟨fun b x e=>?_,fun b x e hx=>?_,hH,fun b o e=>(hs.2 b (ne_none (f:=W.h₀.get?) h0 e)).trans (S.base b o e),fun e he=>?_,hg.trans S.gens,ho.trans S.os,fun b es e=>?_⟩
 ·rcases Psi.set_inv e with ⟨rfl,rfl⟩|⟨q,e⟩
  ·exact ⟨o',ho',hr⟩
  ·exact (S.typed b x e).elim fun o z=>⟨o,(hs.2 b q).trans z.1,z.2.mono (.set_turn k e₀ hfix)⟩
 ·rcases Psi.set_inv e with ⟨rfl,_⟩|⟨_,e⟩
  ·exact h0
  ·exact S.fresh b x e hx
 ·obtain ⟨p,L,m,q,r⟩:=S.frames e he
  refine ⟨p,L,?_⟩
  by_cases hL:L=a
  ·subst hL
   obtain ⟨m',hm'⟩:=hns m (Option.some.inj (e₀.symm.trans r))
   exact ⟨m',q,hm'▸Psi.set_self _ _ _⟩
  ·exact ⟨m,q,(Psi.set_ne _ _ hL).trans r⟩
 ·rcases Psi.set_inv e with ⟨rfl,q⟩|⟨_,e⟩
  ·exact hdc es q.symm
  ·exact S.dsys b es e
end
inductive PostE (W:Amb)(fs:List Env)(Ψ:Psi)(Q:MV→MH→Prop)(v:Value)(s':Shared):Prop
 |mk (Ψ':Psi)(H':MH)(mv:MV)(S:St W fs Ψ' H' s')(K:Keep none_ Ψ Ψ')(hv:VRel Ψ' v mv)(q:Q mv H')
inductive PostB (W:Amb)(fs:List Env)(Ψ:Psi)(Q:Bool→MH→Prop)(v:Bool)(s':Shared):Prop
 |mk (Ψ':Psi)(H':MH)(S:St W fs Ψ' H' s')(K:Keep none_ Ψ Ψ')(q:Q v H')
inductive PostL (W:Amb)(fs:List Env)(Ψ:Psi)(Q:List MV→MH→Prop)(vs:List Value)(s':Shared):Prop
 |mk (Ψ':Psi)(H':MH)(mvs:List MV)(S:St W fs Ψ' H' s')(K:Keep none_ Ψ Ψ')(hv:All2 (VRel Ψ') vs mvs)(q:Q mvs H')
theorem PostE.from {W:Amb}{fs:List Env}{Ψ Ψ₁:Psi}{Q:MV→MH→Prop}{v:Value}{s':Shared}(K:Keep none_ Ψ Ψ₁)(x:PostE W fs Ψ₁ Q v s'):PostE W fs Ψ Q v s':=by
 cases x with|mk Ψ' H' mv a b c d=>exact ⟨Ψ',H',mv,a,K.trans b,c,d⟩
noncomputable def ExcAt (B h:Heap)(e:Addr)(cls:Value)(fs:List Env):Prop:=
 (∃ a0,h.TracedAtW B e cls a0 .none)∨
 (∃ a0 L env outer,fs=env::outer∧env.frame=some L∧h.TracedAtW B e cls a0 (rawInt L))∨
 (∃ oe vs a0,h.get? e=some oe∧oe.cls=cls∧oe.data=.fields vs∧vs[0]? =some a0∧vs[1]? =some .none)
noncomputable def Fly (W:Amb)(fs:List Env)(Ψ:Psi)(e:Addr)(c:String)(h:Heap):Prop:=
 excNames.contains c=true∧∃ B:Heap,W.h₀.StaysIn B∧B.StaysIn h∧B.get? e=none∧(∀ a k,Ψ a=some k→(∀ m,k≠ .ns m)→∃ o,B.get? a=some o)∧h.FunFrames B fs∧ExcAt B h e (.ref (W.ca c)) fs
inductive PostX (W:Amb)(fs:List Env)(Ψ:Psi)(X:String→MH→Prop)(e:Value)(s':Shared):Prop
 |mk (ea:Addr)(c:String)(Ψ':Psi)(H':MH)(he:e=.ref ea)(F:Fly W fs Ψ' ea c s'.heap)(S:St W fs Ψ' H' s')(K:Keep none_ Ψ Ψ')(q:X c H')
theorem PostX.from {W:Amb}{fs:List Env}{Ψ Ψ₁:Psi}{X:String→MH→Prop}{e:Value}{s':Shared}(K:Keep none_ Ψ Ψ₁)(x:PostX W fs Ψ₁ X e s'):PostX W fs Ψ X e s':=by
 cases x with|mk ea c Ψ' H' a b d k r=>exact ⟨ea,c,Ψ',H',a,b,d,K.trans k,r⟩
end Mine
end
section
namespace Mine
open PySem
noncomputable def opOf:BOp→Operator
 | .add=> .Add| .sub=> .Sub| .mul=> .Mult| .fdiv=> .FloorDiv| .mod=> .Mod| .pow=> .Pow
section
variable {W:Amb}{fs:List Env}{Ψ:Psi}{H:MH}{s:Shared}{A:Around}{E:Value→Shared→Prop}{Q:MV→MH→Prop}
theorem PostE.now {v:Value}{mv:MV}(S:St W fs Ψ H s)(hv:VRel Ψ v mv)(h:Q mv H):PostE W fs Ψ Q v s:=⟨Ψ,H,mv,S,.refl _ _,hv,h⟩
theorem PostE.int {i:Int}{t n:Nat}(S:St W fs Ψ H s)(h:Q (.int i) H):PostE W fs Ψ Q (.int i t) {s with toks:=n}:=.now (S.toks n) .int h
inductive ListO (Ψ:Psi)(h:Heap)(a:Addr)(vs:List MV):Prop
 |mk (items:Array Value)(n:Nat)(l:IsL h a items n)(r:All2 (VRel Ψ) items.toList vs)(z:items.size=vs.length)(b:vs.length≤bigList)
theorem all2_size {items:Array Value}{vs:List MV}(r:All2 (VRel Ψ) items.toList vs):items.size=vs.length:=(Array.length_toList ..).symm.trans r.length_eq
theorem St.lst (S:St W fs Ψ H s){a:Addr}{vs:List MV}(h:H a=some (.lst vs)):ListO Ψ s.heap a vs:=by
 obtain ⟨o,ho,items,n,rfl,r,b⟩:=S.typed _ _ (S.heap a _ h)
 exact ⟨items,n,ho,r,all2_size r,b⟩
theorem IsL.isList {h:Heap}{a:Addr}{items:Array Value}{n:Nat}(x:IsL h a items n):h.IsList a items:=⟨_,x,rfl,n,rfl⟩
inductive ListAt (Ψ:Psi)(h:Heap)(a:Addr)(vs:List MV):Prop
 |mk (items:Array Value)(l:h.IsList a items)(r:All2 (VRel Ψ) items.toList vs)(z:items.size=vs.length)(b:vs.length≤bigList)
theorem St.lstAt (S:St W fs Ψ H s){a:Addr}{vs:List MV}(h:LstAt H a vs):ListAt Ψ s.heap a vs:=by
 cases h with
 |inl e=>obtain ⟨items,n,l,r,z,b⟩:=S.lst e;exact ⟨items,IsL.isList l,r,z,b⟩
 |inr e=>
  obtain ⟨o,ho,items,n,hc,hd,r,b⟩:=S.typed _ _ (S.heap a _ e)
  exact ⟨items,⟨o,ho,hc,n,hd⟩,r,all2_size r,b⟩
theorem PostE.placed {a:Addr}{items:Array Value}{n:Nat}{vs:List MV}{s':Shared}(S:St W fs Ψ H s)(hk:∀ b o,s.heap.get? b=some o→s'.heap.get? b=some o)(ha:s.heap.get? a=none)(hsys:(a==sysModules)=false)
  (hl:IsL s'.heap a items n) (hv:All2 (VRel Ψ) items.toList vs) (hb:vs.length≤bigList) (hg:s'.gens=s.gens) (hos:s'.os=s.os) (h:New H Q vs):PostE W fs Ψ Q (.ref a) s':=by
 have F:∀{k:HK},Ψ a=none→Fix Ψ (Ψ.set a k):=fun hn=> .set_new _ hn
 have hn:Ψ a=none:=by
  cases q:Ψ a with
  |none=>rfl
  |some k=>exact (S.typed _ _ q).elim fun o ho=>nn ha ho.1
 have S':=(S.placed (s':=s') (k:=.lst vs) hk ha hsys hl ⟨items,n,rfl,hv.mono fun _ _=>VRel.mono (.set_new _ hn),hb⟩ hg hos).2
 exact ⟨_,_,.ref a,S'.shown (o:=.lst vs) (Psi.set_self _ _ _),.set_new _ hn,.ref,h _ (S.hNone hn)⟩
theorem PostE.newList {items:Array Value}{vs:List MV}(S:St W fs Ψ H s)(hv:All2 (VRel Ψ) items.toList vs)(hb:vs.length≤bigList)(h:New H Q vs):
  PostE W fs Ψ Q (.ref s.heap.objs.size) {s with heap:=s.heap.push {cls:=.type "list",data:=.seq items}}:=
 .placed (n:=0) S (fun _ _=>Heap.get?_push_of_some _) (Heap.get?_none_of_le (Nat.le_refl _)) S.notSysAt (Heap.get?_push_size _ rfl) hv hb rfl rfl h
theorem intBits_le {a:Int}{k:Nat}(h:a.natAbs≤2^k):Builtin.Int.intBits a≤k+1:=by
 unfold Builtin.Int.intBits
 split
 ·lia
 ·rename_i hz
  have hne:a.natAbs≠0:=by intro q;apply hz;simp_all
  have:Nat.log2 a.natAbs<k+1:=(Nat.log2_lt hne).mpr (Nat.lt_of_le_of_lt h (Nat.pow_lt_pow_right (by decide) (Nat.lt_succ_self k)))
  lia
theorem foldl_rep (v:Value):∀(n:Nat) (acc:Array Value),(List.foldl (fun x1 x2=>x1++x2) acc (List.replicate n #[v])).toList=acc.toList++List.replicate n v
 |0,acc=>by simp
 |n+1,acc=>by rw [List.replicate_succ,List.foldl_cons,foldl_rep v n,List.replicate_succ];simp
theorem big_le {n:Nat}(h:n≤bigList):n≤sizeLine:=Nat.le_trans h (by decide)
theorem op_bin {op:BOp}{a b:Value}{ma mb:MV}(S:St W fs Ψ H s)(ha:VRel Ψ a ma)(hb:VRel Ψ b mb)(h:BinR H Q op ma mb):
  wpAny W.M A (binaryOp (opOf op) a b) (PostE W fs Ψ Q) E s:=by
 have ii:∀{x y:Int} {op:Operator},VRel Ψ a (.int x)→VRel Ψ b (.int y)→(∀ t u,wpAny W.M A (binaryOp op (.int x t) (.int y u)) (PostE W fs Ψ Q) E s)→wpAny W.M A (binaryOp op a b) (PostE W fs Ψ Q) E s:=by
  intro x y op ha hb h
  obtain ⟨t,rfl⟩:=vint ha
  obtain ⟨u,rfl⟩:=vint hb
  exact h t u
 cases h with
 |add q=>exact ii ha hb fun _ _=>P.add_int (.int S q)
 |sub q=>exact ii ha hb fun _ _=>P.sub_int (.int S q)
 |mul h q=>
  refine ii ha hb fun _ _=>P.mul_int (.int S q) ?_
  rcases h with h|h
  ·exact .of_left (Nat.le_trans (intBits_le (k:=63) h) (Nat.le_refl _))
  ·exact .of_right (Nat.le_trans (intBits_le (k:=63) h) (Nat.le_refl _))
 |fdiv h h2 q=>exact ii ha hb fun _ _=>PyProof.Rows.floordiv_int h (.int S q) (.inl (PyProof.noPylong_small h2))
 |mod h q=>exact ii ha hb fun _ _=>PyProof.Rows.mod_int h (.int S q)
 | @pow x y h0 h1 h2 q=>
  refine ii ha hb fun _ _=>PyProof.Rows.pow_int h0 ?_ (.int S q)
  have h3:(Builtin.Int.intBits x:Int)≤5:=Int.ofNat_le.mpr (intBits_le (a:=x) (k:=4) (Nat.le_trans h2 (by decide)))
  exact Int.le_trans (Int.mul_le_mul h3 h1 h0 (by decide)) (by decide)
 |app hx hy hl q=>
  obtain rfl:=vref ha
  obtain rfl:=vref hb
  obtain ⟨i1,n1,l1,r1,z1,_⟩:=S.lst hx
  obtain ⟨i2,n2,l2,r2,z2,_⟩:=S.lst hy
  exact P.add_list l1 l2 (.newList S (by rw [Array.toList_append];exact r1.append r2) (by rw [List.length_append];exact hl) q) (by rw [z1,z2];exact big_le hl)
 |cat hl q=>
  obtain ⟨t,rfl⟩:=vstr ha
  obtain ⟨u,rfl⟩:=vstr hb
  exact SB.add (fun t' k=> .now (S.toks k) .str q) (big_le hl)
 | @rep x k v hx h0 h1 q=>
  obtain rfl:=vref ha
  obtain ⟨t,rfl⟩:=vint hb
  obtain ⟨i1,n1,l1,r1,z1,_⟩:=S.lst hx
  have kb:k.toNat≤bigList:=Int.toNat_le.mpr h1
  have hk:i1.size*k.toNat≤2^24:=by rw [z1,List.length_cons,List.length_nil,Nat.zero_add,Nat.one_mul];exact Nat.le_trans kb (by decide)
  refine wpAny_binaryOp_repeat_ref (T:="list") (U:="int") (by decide) ⟨_,l1,rfl⟩ (fun s'=>typeIs_int s' k _) noFill_list_mul F.fills_int_mul F.slot_int_rmul repeat_list F.slot_int_index.lookup
   (call_meets F.slot_int_rmul (typeIs_int s k _) F.entry_int_rmul (F.args_int_rmul_2 _ _) (int___rmul___int_list k _ x i1 n1)
    ⟨l1,rfl,⟨_,l1,rfl⟩,call_meets F.slot_list_mul ⟨_,l1,rfl⟩ F.entry_list_mul (F.args_list_mul_2 _ _)
     (AutoListH.list___mul___list_int_3 x i1 n1 k _ (by simp [Builtin.List.listFitsIndex];unfold bigList at h1;lia) (by lia) (by simp [Builtin.List.listTooLong,sizeLine];lia))
     ⟨l1,?_⟩⟩)
  refine .newList S ?_ (by rw [List.length_replicate];exact kb) q
  obtain ⟨il⟩:=i1
  cases r1 with
  |cons hv t=>
   cases t
   rw [if_neg (by simp)]
   rw [foldl_rep]
   exact All2.replicate _ hv
noncomputable def copOf:COp→CmpOp
 | .eq=> .Eq| .ne=> .NotEq| .lt=> .Lt| .le=> .LtE| .gt=> .Gt| .ge=> .GtE| .isin=> .In| .notin=> .NotIn| .is_=> .Is| .isnot=> .IsNot
inductive Rd (h:Heap)(n:Nat)(v:Value)(d:PyData):Prop
 |mk (as:List Addr)(r:Reads h v d as)(c:d.canLay0=true)(p:d.depth≤n)
inductive RdAll (h:Heap)(n:Nat)(v:List Value)(d:List PyData):Prop
 |mk (as:List Addr)(r:ReadsAll h v d as)(c:PyData.canLayAll0 d=true)(p:PyData.depthAll d≤n)
theorem readsAll_of {n:Nat}(ih:∀ v mv d,VRel Ψ v mv→DR H n mv d→Rd s.heap n v d){vs:List Value}{mvs:List MV}(h:All2 (VRel Ψ) vs mvs):∀{ds:List PyData},All2 (DR H n) mvs ds→RdAll s.heap n vs ds:=by
 induction h with
 |nil=>intro ds h;cases h;exact ⟨[],.nil,rfl,Nat.zero_le _⟩
 |cons hv _ IH=>
  intro ds h
  cases h with
  |cons h1 t=>
   obtain ⟨as,r,c,p⟩:=ih _ _ _ hv h1
   obtain ⟨bs,rs,c',p'⟩:=IH t
   exact ⟨_,.cons r rs,by unfold PyData.canLayAll0;rw [c,c'];rfl,Nat.max_le.mpr ⟨p,p'⟩⟩
theorem reads_of (S:St W fs Ψ H s):∀(n:Nat) (v:Value) (mv:MV) (d:PyData),VRel Ψ v mv→DR H n mv d→Rd s.heap n v d:=by
 intro n
 induction n with
 |zero=>intro _ _ _ _ h;exact h.elim
 |succ n ih=>
  intro v mv d hv h
  cases d with
  |none=>obtain rfl:mv=.none:=h;obtain rfl:=vnone hv;exact ⟨_,.none,rfl,Nat.zero_le _⟩
  |bool b=>obtain rfl:mv=.bool b:=h;obtain rfl:=vbool hv;exact ⟨_,.bool _,rfl,Nat.zero_le _⟩
  |int i=>obtain rfl:mv=.int i:=h;obtain ⟨t,rfl⟩:=vint hv;exact ⟨_,.int _ _,rfl,Nat.zero_le _⟩
  |str x=>obtain ⟨rfl,hs⟩:mv=.str x∧_:=h;obtain ⟨t,rfl⟩:=vstr hv;exact ⟨_,.str _ _,hs,Nat.zero_le _⟩
  |list ds=>
   obtain ⟨a,vs,rfl,hl,hds⟩:∃ a vs,mv=.ref a∧LstAt H a vs∧All2 (DR H n) vs ds:=h
   obtain rfl:=vref hv
   obtain ⟨items,⟨ol,l1,hc,k,hdt⟩,r1,_,_⟩:=S.lstAt hl
   obtain ⟨as,ra,c,p⟩:=readsAll_of ih r1 hds
   exact ⟨_,.list l1 hc hdt ra,c,Nat.succ_le_succ p⟩
  |tuple ds=>
   obtain ⟨vs,rfl,hds⟩:∃ vs,mv=.tup vs∧All2 (DR H n) vs ds:=h
   obtain ⟨a,rfl,ha⟩:=vtup hv
   obtain ⟨o,ho,items,k,rfl,r1,_⟩:=S.typed _ _ ha
   obtain ⟨as,ra,c,p⟩:=readsAll_of ih r1 hds
   exact ⟨_,.tuple ho rfl rfl ra,c,Nat.succ_le_succ p⟩
  |_=>exact h.elim
theorem shaped_of {d:PyData}(c:d.canLay0=true)(p:d.depth≤8):SeqAt.shaped d=true:=by
 unfold SeqAt.shaped;rw [c,Bool.true_and];exact decide_eq_true (Nat.le_trans p (by decide))
end
end Mine
end
section
namespace Mine
open PySem
section
variable {W:Amb}{fs:List Env}{Ψ:Psi}{H:MH}{s:Shared}{A:Around}{E:Value→Shared→Prop}{Q:MV→MH→Prop}
abbrev ERel (Ψ:Psi)(p:Int×Value)(q:Int×MV):Prop:=p.1=q.1∧VRel Ψ p.2 q.2
theorem valueAt_ne {x k:Int}{v:Value}{ents:List (Int×Value)}(q:¬ k=x):valueAt ((x,v)::ents) k=valueAt ents k:=by
 unfold valueAt
 rw [List.find?_cons_of_neg (by simpa using fun e:x=k=>q e.symm)]
theorem valueAt_dct (k:Int){kvs:List (Int×Value)}{es:List (Int×MV)}(h:All2 (ERel Ψ) kvs es):(valueAt kvs k=none∧dGet es k=none)∨∃ v mv,valueAt kvs k=some v∧dGet es k=some mv∧VRel Ψ v mv:=by
 induction h with
 |nil=>exact .inl ⟨rfl,rfl⟩
 | @cons p q l r e _ ih=>
  obtain ⟨x,v⟩:=p
  obtain ⟨y,u⟩:=q
  obtain ⟨e1,e2⟩:=e
  obtain rfl:x=y:=e1
  by_cases q:k=x
  ·subst q;exact .inr ⟨v,u,by simp [valueAt],if_pos rfl,e2⟩
  ·have e3:dGet ((x,u)::r) k=dGet r k:=if_neg q
   rw [valueAt_ne q,e3];exact ih
inductive DctAt (W:Amb)(Ψ:Psi)(h:Heap)(a:Addr)(es:List (Int×MV)):Prop
 |mk (kvs:List (Int×Value))(d:h.DictOf (intKind W.prog W.w) a kvs)(r:All2 (ERel Ψ) kvs es)(ns:(a==sysModules)=false)
theorem St.dct (S:St W fs Ψ H s){a:Addr}{es:List (Int×MV)}(h:H a=some (.dct es)):DctAt W Ψ s.heap a es:=by
 have e:=S.heap a _ h
 obtain ⟨o,ho,kvs,hd,r⟩:=S.typed _ _ e
 exact ⟨kvs,Heap.dictOf_iff.mpr ⟨o,ho,hd⟩,r,S.dsys _ _ e⟩
theorem dct_some {kvs:List (Int×Value)}{es:List (Int×MV)}(r:All2 (ERel Ψ) kvs es)(k:Int):(dGet es k).isSome=(valueAt kvs k).isSome:=by
 rcases valueAt_dct k r with ⟨h1,h2⟩|⟨v,mv,h1,h2,_⟩<;>rw [h1,h2]<;>rfl
theorem intKey {k:Int}{t:Tok}:(intKind W.prog W.w).is k (.int k t)=true:=by simp [intKind,Value.isInt]
theorem intsAre_of {vs:List Value}{is:List Int}(h:All2 (VRel Ψ) vs (is.map .int)):PyProof.Rows.IntsAre vs is:=by
 induction is generalizing vs with
 |nil=>cases h;exact .nil
 |cons i is ih=>cases h with|cons hv t=>obtain ⟨t',rfl⟩:=vint hv;exact .cons _ _ (ih t)
theorem of_intsAre {vs:List Value}{is:List Int}(h:PyProof.Rows.IntsAre vs is):All2 (VRel Ψ) vs (is.map .int):=by
 induction h with
 |nil=>exact .nil
 |cons n t _ ih=>exact .cons .int ih
theorem any_mem {x:Int}{is:List Int}:is.any (· ==x)=decide (x∈is):=by
 induction is with
 |nil=>rfl
 |cons i is ih=>rw [List.any_cons,ih,List.decide_mem_cons,Bool.beq_comm]
theorem is_none {v:Value}{a:MV}(h:VRel Ψ v a):plainIs v .none=true∧(v==.none)=isNil a:=by cases h<;>exact ⟨rfl,rfl⟩
theorem is_tru {v:Value}{a:MV}(h:VRel Ψ v a):plainIs v (.bool true)=true∧(v==.bool true)=isTru a:=by
 cases h with
 | @bool b=>exact ⟨rfl,by cases b<;>rfl⟩
 |_=>exact ⟨rfl,rfl⟩
theorem op_cmp {op:COp}{a b:Value}{ma mb:MV}{r:Bool}(S:St W fs Ψ H s)(ha:VRel Ψ a ma)(hb:VRel Ψ b mb)(h:CmpR H op ma mb r)(hu:A.units+65<cLine)(hq:Q (.bool r) H):wpAny W.M A (compareOp (copOf op) a b) (PostE W fs Ψ Q) E s:=by
 have now:PostE W fs Ψ Q (.bool r) s:=.now S .bool hq
 have now1:∀ n,PostE W fs Ψ Q (.bool r) {s with toks:=n}:=fun n=> .now (S.toks n) .bool hq
 have ii:∀{x y:Int} {op:CmpOp},VRel Ψ a (.int x)→VRel Ψ b (.int y)→(∀ t u,wpAny W.M A (compareOp op (.int x t) (.int y u)) (PostE W fs Ψ Q) E s)→wpAny W.M A (compareOp op a b) (PostE W fs Ψ Q) E s:=by
  intro x y op ha hb h
  obtain ⟨t,rfl⟩:=vint ha
  obtain ⟨u,rfl⟩:=vint hb
  exact h t u
 cases h with
 |eqi=>exact ii ha hb fun _ _=>P.eq_int now
 |nei=>exact ii ha hb fun _ _=>P.ne_int now
 |eqs=>obtain ⟨t,rfl⟩:=vstr ha;obtain ⟨u,rfl⟩:=vstr hb;exact PyProof.Rows.eq_str now
 |nes=>obtain ⟨t,rfl⟩:=vstr ha;obtain ⟨u,rfl⟩:=vstr hb;exact PyProof.Rows.ne_str now
 |eqd hx hy=>
  obtain ⟨as,ra,c1,p1⟩:=reads_of S 8 _ _ _ ha hx
  obtain ⟨bs,rb,c2,p2⟩:=reads_of S 8 _ _ _ hb hy
  exact PyProof.Rows.eq_dataH ra rb (shaped_of c1 p1) (shaped_of c2 p2) (Nat.lt_of_succ_lt hu) now
 |ned hx hy=>
  obtain ⟨as,ra,c1,p1⟩:=reads_of S 8 _ _ _ ha hx
  obtain ⟨bs,rb,c2,p2⟩:=reads_of S 8 _ _ _ hb hy
  exact PyProof.Rows.ne_dataH ra rb (shaped_of c1 p1) (shaped_of c2 p2) (Nat.lt_of_succ_lt hu) now
 |lt=>exact ii ha hb fun _ _=>P.lt_int now
 |le=>exact ii ha hb fun _ _=>P.le_int now
 |gt=>exact ii ha hb fun _ _=>P.gt_int now
 |ge=>exact ii ha hb fun _ _=>P.ge_int now
 |ind h=>
  obtain ⟨t,rfl⟩:=vint ha;obtain rfl:=vref hb
  obtain ⟨kvs,d,r,ns⟩:=S.dct h
  exact wpAny_in_of (knd:=intKind W.prog W.w) intKey ns d.mapOf (dct_some r _▸now1 _)
 |notind h=>
  obtain ⟨t,rfl⟩:=vint ha;obtain rfl:=vref hb
  obtain ⟨kvs,d,r,ns⟩:=S.dct h
  exact wpAny_notIn_of (knd:=intKind W.prog W.w) intKey ns d.mapOf (dct_some r _▸now1 _)
 |inl h=>
  obtain ⟨t,rfl⟩:=vint ha;obtain rfl:=vref hb
  obtain ⟨items,l,r,_,_⟩:=S.lstAt h
  exact PyProof.Rows.in_list_ints (vs:=items.toList) l (intsAre_of r) (by rw [any_mem];exact now)
 |notinl h=>
  obtain ⟨t,rfl⟩:=vint ha;obtain rfl:=vref hb
  obtain ⟨items,l,r,_,_⟩:=S.lstAt h
  exact PyProof.Rows.notin_list_ints (vs:=items.toList) l (intsAre_of r) (by rw [any_mem];exact now)
 |ins=>obtain ⟨t,rfl⟩:=vstr ha;obtain ⟨u,rfl⟩:=vstr hb;exact SB.contains now
 |notins=>obtain ⟨t,rfl⟩:=vstr ha;obtain ⟨u,rfl⟩:=vstr hb;exact SB.notContains now
 |isN=>obtain rfl:=vnone hb;exact wpAny_is_plain (is_none ha).1 ((is_none ha).2.symm▸now)
 |isnotN=>obtain rfl:=vnone hb;exact wpAny_isNot_plain (is_none ha).1 ((is_none ha).2.symm▸now)
 |isT=>obtain rfl:=vbool hb;exact wpAny_is_plain (is_tru ha).1 ((is_tru ha).2.symm▸now)
theorem seqIndex_pos {k:Int}{n:Nat}(h0:0≤k)(h:k.toNat<n):seqIndex? k n=some k.toNat:=by
 unfold seqIndex?
 have h1:¬ k<0:=Int.not_lt.mpr h0
 have h2:k<n:=(Int.toNat_lt h0).mp h
 simp [h1,h0,h2]
theorem seqIndex_neg {k:Int}{n:Nat}(h0:k<0)(h:0≤k+n):seqIndex? k n=some (k+n).toNat:=by
 unfold seqIndex?
 have h2:k+n<n:=by lia
 simp [h0,h,h2]
theorem at_cases {vs:List MV}{i:Int}{x:MV}(h:atIdx vs i=some x)(hb:vs.length≤bigList):∃ j:Nat,vs[j]? =some x∧seqIndex? i vs.length=some j∧ -(2^62)≤i∧i<2^62∧((0≤i∧j=i.toNat)∨(i<0∧0≤i+vs.length∧j=(i+vs.length).toNat)):=by
 unfold atIdx at h
 unfold bigList at hb
 split at h
 ·rename_i h0
  have:=(List.getElem?_eq_some_iff.mp h).1
  exact ⟨_,h,seqIndex_pos h0 this,by lia,by lia,.inl ⟨h0,rfl⟩⟩
 ·split at h
  ·exact ⟨_,h,seqIndex_neg (by lia) (by lia),by lia,by lia,.inr ⟨by lia,by lia,rfl⟩⟩
  ·cases h
theorem tup_at (S:St W fs Ψ H s){a:Addr}{vs:List MV}(h:Ψ a=some (.tup vs)):∃ items,PyProof.Rows.IsTup s.heap a items∧All2 (VRel Ψ) items.toList vs∧items.size=vs.length∧vs.length≤bigList:=by
 obtain ⟨o,ho,items,k,rfl,r1,hb⟩:=S.typed _ _ h
 exact ⟨items,⟨_,ho,rfl,k,rfl⟩,r1,all2_size r1,hb⟩
theorem two62:(2:Int)^62<2^63:=by decide
theorem op_sub {value slice:PySem.Expr}{v i:Value}{mv mi x:MV}(S:St W fs Ψ H s)(hv:VRel Ψ v mv)(hi:VRel Ψ i mi)(h:SubR H mv mi x)(q:Q x H)
  (hs:∀ o i,subscripted slice false o i=operate [o,i] (getItem o i)):wpAny W.M A (PyProof.Rows.subscriptTail value slice v i) (PostE W fs Ψ Q) E s:=by
 cases h with
 | @lst a vs k x hl hx=>
  obtain rfl:=vref hv
  obtain ⟨t,rfl⟩:=vint hi
  obtain ⟨items,l,r,z,b⟩:=S.lstAt hl
  obtain ⟨j,hj,_,lo,hi,hc⟩:=at_cases hx b
  obtain ⟨v,hv',hr⟩:=r.get _ _ hj
  rw [Array.getElem?_toList] at hv'
  refine PyProof.Rows.tail_any (Heap.IsList.typeIs l) slot_list_getitem.lookup ?_ (hs _ _)
  rcases hc with ⟨h0,rfl⟩|⟨h0,h1,rfl⟩
  ·exact wpAny_getItem_list l h0 (Int.lt_trans hi two62) hv' (.now S hr q)
  ·rw [←z] at h1 hv'
   exact wpAny_getItem_list_neg l h0 (by lia) (Int.le_trans (by decide) lo) hv' (.now S hr q)
 |tup hx=>
  obtain ⟨a,rfl,ha⟩:=vtup hv
  obtain ⟨t,rfl⟩:=vint hi
  obtain ⟨items,ht,r,z,b⟩:=tup_at S ha
  obtain ⟨j,hj,hq,lo,hi,_⟩:=at_cases hx b
  obtain ⟨v,hv',hr⟩:=r.get _ _ hj
  rw [Array.getElem?_toList] at hv'
  rw [←z] at hq
  exact PyProof.Rows.tail_any ht.typeIs PyProof.Rows.slot_tuple_getitem.lookup (PyProof.Rows.getItem_tuple ht (Int.le_trans (by decide) lo) (Int.lt_trans hi two62) hq hv' (.now S hr q)) (hs _ _)
 | @dct a es k x hd hx=>
  obtain rfl:=vref hv
  obtain ⟨t,rfl⟩:=vint hi
  obtain ⟨kvs,d,r,_⟩:=S.dct hd
  rcases valueAt_dct k r with ⟨_,h2⟩|⟨v,mv,h1,h2,hr⟩
  ·exact nn h2 hx
  ·obtain rfl:=Option.some.inj (h2.symm.trans hx)
   exact PyProof.Rows.tail_any d.mapOf.typeIs slot_dict_getitem.lookup (wpAny_getItem_of (knd:=intKind W.prog W.w) intKey d.mapOf h1 (.now (S.toks _) hr q)) (hs _ _)
 | @str x k hk hx=>
  obtain ⟨t,rfl⟩:=vstr hv
  obtain ⟨u,rfl⟩:=vint hi
  refine PyProof.Rows.tail_any (typeIs_str _ _ _) F.slot_str_getitem.lookup (SB.getItem ?_ hx (.now (S.toks _) .str q)) (hs _ _)
  unfold fitsSsize
  obtain ⟨k1,k2⟩:=hk
  simp;lia
end
end Mine
end
section
namespace Mine
open PySem
section
variable {W:Amb}{fs:List Env}{Ψ:Psi}{H:MH}{s:Shared}{A:Around}{E:Value→Shared→Prop}{Q:MV→MH→Prop}
theorem part_of {v:Value}{mv:MV}{p:Option Int}(hv:VRel Ψ v mv)(h:OptI mv p):IsPart v p:=by
 cases h with
 |none=>obtain rfl:=vnone hv;exact .none
 |int=>obtain ⟨t,rfl⟩:=vint hv;exact .int _ _
theorem cut_len {α:Type}{l:List α}{a b:Option Int}:(cut l a b).length≤l.length:=Nat.le_trans (List.length_take_le' _ _) (by rw [List.length_drop];exact Nat.sub_le _ _)
theorem op_slice {value slice:PySem.Expr}{v lo hi:Value}{mv ml mh:MV}(S:St W fs Ψ H s)(hv:VRel Ψ v mv)(hl:VRel Ψ lo ml)(hh:VRel Ψ hi mh)(h:SliceR H Q mv ml mh)
  (hs:∀ o i,subscripted slice false o i=operate [i,o] (getItem o i)):
  wpAny W.M A (PyProof.Rows.subscriptTail value slice v (.ref s.heap.objs.size)) (PostE W fs Ψ Q) E {s with heap:=s.heap.push {cls:=.type "slice",data:=.fields #[lo,hi,.none]}}:=by
 have S1:St W fs Ψ H {s with heap:=s.heap.push {cls:=.type "slice",data:=.fields #[lo,hi,.none]}}:=
  S.of_all (fun a o e=>Heap.get?_push_of_some _ e) rfl rfl
 cases h with
 |lst hv' h1 h2 q=>
  obtain rfl:=vref hv
  obtain ⟨items,l,r,z,b⟩:=S1.lstAt hv'
  refine PyProof.Rows.tail_any (Heap.IsList.typeIs l) slot_list_getitem.lookup (wpAny_getItem_list_slice l (Heap.IsSliceOf.new ..) (part_of hl h1) (part_of hh h2) .none (by simp) ?_ (z▸big_le b)) (hs _ _)
  refine .newList S1 ?_ (Nat.le_trans cut_len b) q
  rw [slicePick_plain]
  unfold cut
  rw [z]
  exact (r.drop _).take _
end
end Mine
end
section
namespace Mine
open PySem
noncomputable def Psi.del (Ψ:Psi)(a:Addr):Psi:=fun b=>if b=a then none else Ψ b
theorem Psi.del_ne (Ψ:Psi){a b:Addr}(h:b≠a):Ψ.del a b=Ψ b:=if_neg h
theorem Psi.of_del {Ψ:Psi}{a b:Addr}{k:HK}(h:Ψ.del a b=some k):b≠a∧Ψ b=some k:=by
 unfold Psi.del at h;split at h
 ·cases h
 ·exact ⟨by assumption,h⟩
noncomputable def ItAt (Ψ:Psi)(sv:Value)(src:MV)(it:Addr)(i:Nat):Prop:=∃ o,Ψ it=some (.raw o)∧match src with
 | .ref a=>o.cls=.type "list_iterator"∧o.data=.fields #[.ref a,.int i 0]
 | .tup _=>∃ a,sv=.ref a∧o.cls=.type "tuple_iterator"∧o.data=.fields #[.ref a,.int i 0]
 | .str x=>∃ t,o.cls=.type (strIterType x)∧o.data=.fields #[.str x t,.int i 0]
 | .rng a b c=>o={cls:=.type "range_iterator",dict:=none,data:=.fields #[rawInt (a+c*i),rawInt (Builtin.Range.rangeSize a b c-i),rawInt c],slots:=#[]}
 |_=>False
section
variable {W:Amb}{fs:List Env}{Ψ Ψ':Psi}{H:MH}{s s':Shared}{A:Around}{E:Value→Shared→Prop}{Q:MV→MH→Prop}
theorem ne31:(3:Nat)≠1:=by decide
theorem ne32:(3:Nat)≠2:=by decide
theorem ne35:(3:Nat)≠5:=by decide
theorem ne30:(3:Nat)≠0:=by decide
theorem Psi.del_sort {a b:Addr}{k k':HK}(h:Ψ a=some k)(e:Ψ b=some k')(n:k.sort≠k'.sort):Ψ.del a b=some k':=(Psi.del_ne _ (ne_of_sort h e n)).trans e
theorem fixed_sort {k:HK}(h:k.fixed=true):k.sort=5:=by cases k<;>first|rfl|exact absurd h Bool.noConfusion
theorem Keep.del_raw {a:Addr}{o:Obj}(h:Ψ a=some (.raw o)):Keep (· =a) Ψ (Ψ.del a):=
 ⟨fun b x e f=>Psi.del_sort h e (fixed_sort f▸ne35),fun b x e _ n=>(Psi.del_ne _ n).trans e,fun b m e=>⟨m,Psi.del_sort h e ne31⟩,fun b m e=>⟨m,Psi.del_sort h e ne32⟩⟩
theorem HRel.keepS {a:Addr}{o:MObj}(h:HRel Ψ a o)(k:∀ b (x:HK),Ψ b=Option.some x→(x.sort=0∨x.sort=5)→Ψ' b=Option.some x):HRel Ψ' a o:=by
 cases o with
 |inst fs=>exact h.imp fun d z=>⟨k _ _ z.1 (.inl rfl),k _ _ z.2 (.inl rfl)⟩
 |ro vs=>exact k _ _ h (.inr rfl)
 |_=>exact k _ _ h (.inl rfl)
theorem sort3 {k:HK}(o:Obj)(h:k.sort=0∨k.sort=5):(HK.raw o).sort≠k.sort:=h.elim (fun h=>h▸ne30) (fun h=>h▸ne35)
theorem St.gone (S:St W fs Ψ H s){a:Addr}{o:Obj}(e₀:Ψ a=some (.raw o))(hk:Heap.ExtBut a s.heap s'.heap)(hg:s'.gens=s.gens)(ho:s'.os=s.os):St W fs (Ψ.del a) H s':=by
 have h0:=S.fresh a _ e₀ fun _ q=>HK.noConfusion q
 refine ⟨fun b k e=>?_,fun b k e hx=>S.fresh b k (Psi.of_del e).2 hx,fun b x e=>(S.heap b x e).keepS fun c k e q=>Psi.del_sort e₀ e (sort3 o q),fun b o e=>hk b o (ne_none (f:=W.h₀.get?) h0 e) (S.base b o e),fun e he=>?_,hg.trans S.gens,ho.trans S.os,fun b es e=>S.dsys b es (Psi.of_del e).2⟩
 ·obtain ⟨hne,e⟩:=Psi.of_del e
  exact (S.typed b k e).imp fun o z=>⟨hk b o hne z.1,z.2.mono (Keep.del_raw e₀).fix⟩
 ·obtain ⟨p,L,m,q,r⟩:=S.frames e he
  exact ⟨p,L,m,q,Psi.del_sort e₀ r ne31⟩
theorem St.stepped (S:St W fs Ψ H s){a:Addr}{o o':Obj}(e₀:Ψ a=some (.raw o))(hs:Heap.SameBut a s.heap s'.heap)(ho':s'.heap.get? a=some o')(hg:s'.gens=s.gens)(ho:s'.os=s.os):
  St W fs (Ψ.set a (.raw o')) H s':=
 S.turned e₀ rfl (fun m q=>HK.noConfusion q) rfl hs ho' (fun b x e=>(S.heap b x e).keepS fun c k e q=>Psi.set_sort e₀ e (sort3 o q)) hg ho (fun _ q=>HK.noConfusion q)
theorem Keep.set_raw {a:Addr}{o o':Obj}(e₀:Ψ a=some (.raw o)):Keep (· =a) Ψ (Ψ.set a (.raw o')):=
 .set_own e₀ rfl rfl (fun _ q=>HK.noConfusion q) (fun _ q=>HK.noConfusion q)
theorem rng_at (S:St W fs Ψ H s){r:Addr}{a b c:Int}(h:Ψ r=some (.rng a b c)):(∃ t u v,IsRange s.heap r a b c t u v)∧smallI a∧smallI b∧smallI c∧0<c:=by
 obtain ⟨o,ho,⟨t,u,v,rfl⟩,q⟩:=S.typed _ _ h
 exact ⟨⟨t,u,v,ho⟩,q⟩
theorem rangeSize_le {a b c:Int}(hc:0<c):0≤Builtin.Range.rangeSize a b c∧Builtin.Range.rangeSize a b c≤max (b-a) 0:=by
 unfold Builtin.Range.rangeSize
 rw [if_pos hc]
 split
 ·have h1:(b-a-1)/c≤b-a-1:=Int.ediv_le_self _ (by lia)
  have h2:0≤(b-a-1)/c:=Int.ediv_nonneg (by lia) (by lia)
  exact ⟨Int.le_add_one h2,Int.le_trans (Int.add_le_add_right h1 1) (Int.le_trans (Int.le_of_eq (Int.sub_add_cancel _ 1)) (Int.le_max_left _ _))⟩
 ·exact ⟨Int.le_refl _,Int.le_max_right _ _⟩
theorem small_of {a b c:Int}(h:smallI a∧smallI b∧smallI c∧0<c):Builtin.Range.small a b c=true:=by
 obtain ⟨⟨a1,a2⟩,⟨b1,b2⟩,⟨c1,c2⟩,hc⟩:=h
 obtain ⟨z1,z2⟩:=rangeSize_le (a:=a) (b:=b) hc
 unfold Builtin.Range.small Builtin.Range.rangeFitsLong
 simp only [Bool.and_eq_true,decide_eq_true_eq,Bool.or_eq_true,beq_iff_eq]
 refine ⟨⟨⟨⟨⟨by lia,by lia⟩,by lia,by lia⟩,by lia,by lia⟩,by lia,by lia⟩,.inr ?_⟩
 rw [if_pos hc]
 simp only [Bool.and_eq_true,decide_eq_true_eq]
 lia
theorem rangeL_length (a b c:Int):(rangeL a b c).length=(Builtin.Range.rangeSize a b c).toNat:=by unfold rangeL;simp
theorem op_iter {sv:Value}{src:MV}{vs:List MV}(S:St W fs Ψ H s)(hv:VRel Ψ sv src)(he:Elems H src vs){QQ:Value→Shared→Prop}
  (h:∀ it Ψ' s',St W fs Ψ' H s'→Keep none_ Ψ Ψ'→Ψ it=none→(∀ b k,Ψ b=some k→Ψ' b=some k)→ItAt Ψ' sv src it 0→QQ (.ref it) s'):wpAny W.M A (pyIter sv) QQ E s:=by
 have mk:∀ o:Obj,o.isFreed=false→(∀ Ψ':Psi,Ψ' s.heap.objs.size=some (.raw o)→ItAt Ψ' sv src s.heap.objs.size 0)→QQ (.ref s.heap.objs.size) {s with heap:=s.heap.push o}:=fun o hf z=>
  h _ _ _ (S.push (s':={s with heap:=s.heap.push o}) (k:=.raw o) hf rfl rfl rfl rfl) (S.pushKeep _) S.none_at (fun b k e=>Psi.set_up S.none_at e) (z _ (Psi.set_self _ _ _))
 cases he with
 |lst hl=>
  obtain rfl:=vref hv
  obtain ⟨items,l,r,_,_⟩:=S.lstAt hl
  exact wpAny_pyIter_list l (mk _ rfl fun Ψ' e=>⟨_,e,rfl,rfl⟩)
 |tup=>
  obtain ⟨a,rfl,ha⟩:=vtup hv
  obtain ⟨items,ht,r,_,_⟩:=tup_at S ha
  exact wpAny_pyIter_tuple ht (mk _ rfl fun Ψ' e=>⟨_,e,_,rfl,rfl,rfl⟩)
 |rng=>
  obtain ⟨x,rfl,ha⟩:=vrng hv
  obtain ⟨⟨t,u,v,hR⟩,hr⟩:=rng_at S ha
  refine wpAny_pyIter_range hR (small_of hr) (mk _ rfl fun Ψ' e=>⟨_,e,?_⟩)
  simp
 |str=>
  obtain ⟨t,rfl⟩:=vstr hv
  exact wpAny_pyIter_strU (mk _ rfl fun Ψ' e=>⟨_,e,t,rfl,rfl⟩)
theorem next_str {prog:Program}{w:World}{it:Addr}{x:Str}{t:Tok}{i c:Nat}{Q:Option Value→Shared→Prop}(hit:s.heap.IsStrIter it (strIterType x) x t i)(hx:x.cps[i]? =some c)
  (hQ:∀ h',h'.IsStrIter it (strIterType x) x t (i+1)→Heap.SameBut it s.heap h'→Q (some (.str ⟨#[c]⟩ s.toks)) {s with heap:=h',toks:=s.toks+1}):wpAny (model prog w) A (pyNext (.ref it)) Q E s:=by
 unfold strIterType at hit hQ
 split at hit
 ·rename_i h;rw [if_pos h] at hQ;exact wpAny_pyNext_ascii_item hit hx hQ
 ·rename_i h;rw [if_neg h] at hQ;exact wpAny_pyNext_wide_item hit hx hQ
theorem done_str {prog:Program}{w:World}{it:Addr}{x:Str}{t:Tok}{i:Nat}{Q:Option Value→Shared→Prop}(hh:A.handled=none)(hit:s.heap.IsStrIter it (strIterType x) x t i)(hx:x.cps[i]? =none)
  (hQ:∀ h',Heap.ExtBut it s.heap h'→Q none {s with heap:=h'}):wpAny (model prog w) A (pyNext (.ref it)) Q E s:=by
 unfold strIterType at hit
 split at hit
 ·exact wpAny_pyNext_ascii_end hh hit hx hQ
 ·exact wpAny_pyNext_wide_end hh hit hx hQ
theorem op_next {sv:Value}{src:MV}{vs:List MV}{it:Addr}{i:Nat}{x:MV}(S:St W fs Ψ H s)(hv:VRel Ψ sv src)(he:Elems H src vs)(hi:ItAt Ψ sv src it i)(hx:vs[i]? =some x)
  {QQ:Option Value→Shared→Prop} (h:∀ v Ψ' s',St W fs Ψ' H s'→Keep (· =it) Ψ Ψ'→VRel Ψ' v x→ItAt Ψ' sv src it (i+1)→QQ (some v) s'):wpAny W.M A (pyNext (.ref it)) QQ E s:=by
 obtain ⟨o,ho,hm⟩:=hi
 obtain ⟨o',hg,hraw⟩:=S.typed _ _ ho
 obtain rfl:o'=o:=hraw
 have nx:∀{v:Value} {h':Heap} {tk:Nat} {o2:Obj},VRel Ψ v x→h'.get? it=some o2→Heap.SameBut it s.heap h'→(∀ Ψ':Psi,Ψ' it=some (.raw o2)→ItAt Ψ' sv src it (i+1))→QQ (some v) {s with heap:=h',toks:=tk}:=fun {v h' tk o2} hr e2 hs z=>
  h v _ _ (S.stepped (s':={s with heap:=h',toks:=tk}) ho hs e2 rfl rfl) (Keep.set_raw ho) (hr.mono (Keep.set_raw ho).fix) (z _ (Psi.set_self _ _ _))
 cases he with
 |lst hl=>
  obtain rfl:=vref hv
  obtain ⟨items,l,r,_,_⟩:=S.lstAt hl
  obtain ⟨v,hv',hr⟩:=r.get _ _ hx
  rw [Array.getElem?_toList] at hv'
  refine wpAny_pyNext_list_item ⟨_,hg,hm.1,hm.2⟩ l hv' fun h' hit hs=>?_
  obtain ⟨o2,e2,c2,d2⟩:=hit
  exact nx hr e2 hs fun Ψ' e=>⟨o2,e,c2,d2⟩
 |tup=>
  obtain ⟨a,rfl,ha⟩:=vtup hv
  obtain ⟨items,ht,r,_,_⟩:=tup_at S ha
  obtain ⟨a',e',h1,h2⟩:=hm
  obtain rfl:=Value.ref.inj e'
  obtain ⟨v,hv',hr⟩:=r.get _ _ hx
  rw [Array.getElem?_toList] at hv'
  refine wpAny_pyNext_tuple_item ⟨_,hg,h1,h2⟩ ht hv' fun h' hit hs=>?_
  obtain ⟨o2,e2,c2,d2⟩:=hit
  exact nx hr e2 hs fun Ψ' e=>⟨o2,e,_,rfl,c2,d2⟩
 | @rng a b c=>
  rw [List.getElem?_map] at hx
  obtain ⟨y,hy,rfl⟩:=Option.map_eq_some_iff.mp hx
  have hlt:i<(Builtin.Range.rangeSize a b c).toNat:=rangeL_length a b c▸(List.getElem?_eq_some_iff.mp hy).1
  unfold rangeL at hy
  rw [List.getElem?_map,List.getElem?_range hlt] at hy
  obtain rfl:=Option.some.inj hy
  have hm':o'=_:=hm
  subst hm'
  refine wpAny_pyNext_range_item hg (by lia) fun h' hit hs=>?_
  refine nx .int hit hs fun Ψ' e=>⟨_,e,?_⟩
  have e1:a+c*((i+1:Nat):Int)=a+c*i+c:=by rw [Int.natCast_add,Int.mul_add];simp;lia
  have e2:Builtin.Range.rangeSize a b c-((i+1:Nat):Int)=Builtin.Range.rangeSize a b c-i-1:=by lia
  dsimp only
  rw [e1,e2]
 | @str y=>
  obtain ⟨t,h1,h2⟩:=hm
  rw [List.getElem?_map] at hx
  obtain ⟨c,hc,rfl⟩:=Option.map_eq_some_iff.mp hx
  rw [Array.getElem?_toList] at hc
  refine next_str ⟨_,hg,h1,h2⟩ hc fun h' hit hs=>?_
  obtain ⟨o2,e2,c2,d2⟩:=hit
  exact nx .str e2 hs fun Ψ' e=>⟨o2,e,t,c2,d2⟩
theorem op_done {sv:Value}{src:MV}{vs:List MV}{it:Addr}{i:Nat}(hh:A.handled=none)(S:St W fs Ψ H s)(hv:VRel Ψ sv src)(he:Elems H src vs)(hi:ItAt Ψ sv src it i)(hx:vs[i]? =none)
  {QQ:Option Value→Shared→Prop} (h:∀ Ψ' s',St W fs Ψ' H s'→Keep (· =it) Ψ Ψ'→QQ none s'):wpAny W.M A (pyNext (.ref it)) QQ E s:=by
 obtain ⟨o,ho,hm⟩:=hi
 obtain ⟨o',hg,hraw⟩:=S.typed _ _ ho
 obtain rfl:o'=o:=hraw
 have fin:∀ h',Heap.ExtBut it s.heap h'→QQ none {s with heap:=h'}:=fun h' hs=>h _ _ (S.gone (s':={s with heap:=h'}) ho hs rfl rfl) (Keep.del_raw ho)
 cases he with
 |lst hl=>
  obtain rfl:=vref hv
  obtain ⟨items,l,r,z,_⟩:=S.lstAt hl
  exact wpAny_pyNext_list_end hh ⟨_,hg,hm.1,hm.2⟩ l (by rw [Array.getElem?_eq_none_iff,z];exact List.getElem?_eq_none_iff.mp hx) fin
 |tup=>
  obtain ⟨a,rfl,ha⟩:=vtup hv
  obtain ⟨items,ht,r,z,_⟩:=tup_at S ha
  obtain ⟨a',e',h1,h2⟩:=hm
  obtain rfl:=Value.ref.inj e'
  exact wpAny_pyNext_tuple_end hh ⟨_,hg,h1,h2⟩ ht (by rw [Array.getElem?_eq_none_iff,z];exact List.getElem?_eq_none_iff.mp hx) fin
 | @rng a b c=>
  have hlt:(Builtin.Range.rangeSize a b c).toNat≤i:=by have:=List.getElem?_eq_none_iff.mp hx;rwa [List.length_map,rangeL_length] at this
  have hm':o'=_:=hm
  subst hm'
  exact wpAny_pyNext_range_end hh hg (by lia) fin
 |str=>
  obtain ⟨t,h1,h2⟩:=hm
  have hx:=List.getElem?_eq_none_iff.mp hx
  rw [List.length_map,Array.length_toList] at hx
  exact done_str hh ⟨_,hg,h1,h2⟩ (Array.getElem?_eq_none_iff.mpr hx) fin
end
end Mine
end
section
namespace Mine
open PySem PyProof.Rows
noncomputable def Ra (rk:Keyed→Nat)(xs:Array Keyed)(i:Nat):Nat:=(xs[i]?).elim 0 rk
theorem Ra_at {rk:Keyed→Nat}{xs:Array Keyed}{i:Nat}(h:i<xs.size):Ra rk xs i=rk xs[i]:=by unfold Ra;rw [getElem?_pos xs i h];rfl
noncomputable def Nb (R:Nat→Nat→Prop)(ρ:Nat→Nat)(lo hi:Nat):Prop:=∀ k,lo≤k→k+1<hi→R (ρ k) (ρ (k+1))
section
variable {R:Nat→Nat→Prop}{ρ ρ':Nat→Nat}{lo hi mid i j:Nat}
theorem Nb.few (h:hi≤lo+1):Nb R ρ lo hi:=fun k h1 h2=>absurd (Nat.le_trans h2 h) (Nat.not_le.mpr (Nat.succ_lt_succ (Nat.lt_succ_of_le h1)))
theorem Nb.snoc (h:Nb R ρ lo hi)(q:R (ρ (hi-1)) (ρ hi)):Nb R ρ lo (hi+1):=fun k h1 h2=>by
 cases Nat.lt_or_eq_of_le (Nat.le_of_lt_succ h2) with
 |inl h2=>exact h k h1 h2
 |inr h2=>subst h2;exact q
theorem Nb.imp {R':Nat→Nat→Prop}(h:Nb R ρ lo hi)(q:∀{x y},R x y→R' x y):Nb R' ρ lo hi:=fun k h1 h2=>q (h k h1 h2)
theorem Nb.congr (h:Nb R ρ lo hi)(q:∀ k,lo≤k→k<hi→ρ' k=ρ k):Nb R ρ' lo hi:=fun k h1 h2=>by
 rw [q k h1 (Nat.lt_of_succ_lt h2),q (k+1) (Nat.le_succ_of_le h1) h2];exact h k h1 h2
theorem Nb.join (h:Nb R ρ lo mid)(h':Nb R ρ mid hi)(q:R (ρ (mid-1)) (ρ mid)):Nb R ρ lo hi:=fun k h1 h2=>by
 by_cases c:k<mid
 ·exact h.snoc q k h1 (Nat.succ_lt_succ c)
 ·exact h' k (Nat.not_lt.mp c) h2
theorem Nb.far (rf:∀ x,R x x)(tr:∀{x y z},R x y→R y z→R x z)(h:Nb R ρ lo hi)(q:lo≤i):∀ d,i+d<hi→R (ρ i) (ρ (i+d)):=fun d=>by
 induction d with
 |zero=>exact fun _=>rf _
 |succ d ih=>exact fun z=>tr (ih (Nat.lt_of_succ_lt z)) (h (i+d) (Nat.le_add_right_of_le q) z)
theorem Nb.le (h:Nb (· ≤ ·) ρ lo hi)(q:lo≤i)(hij:i≤j)(hj:j<hi):ρ i≤ρ j:=by
 have:=h.far Nat.le_refl Nat.le_trans q (j-i) (by rw [Nat.add_sub_cancel' hij];exact hj)
 rwa [Nat.add_sub_cancel' hij] at this
theorem Nb.eq (h:Nb (· = ·) ρ lo hi)(q:lo≤i)(hj:i<hi):ρ lo=ρ i:=by
 have:=h.far (fun _=>rfl) Eq.trans (Nat.le_refl lo) (i-lo) (by rw [Nat.add_sub_cancel' q];exact hj)
 rwa [Nat.add_sub_cancel' q] at this
end
section
variable {rk:Keyed→Nat}{xs:Array Keyed}{i j:Nat}
theorem Ra_mirror (hj:j≤xs.size)(k:Nat):Ra rk (mirror xs i j ((j-i)/2)) k=if i≤k∧k<j then Ra rk xs (i+j-1-k) else Ra rk xs k:=by
 unfold Ra;rw [getElem?_mirror_all hj];split<;>rfl
theorem mir_lo {i j k:Nat}(h2:k<j):i≤i+j-1-k:=Nat.le_sub_of_add_le (Nat.le_sub_one_of_lt (Nat.add_lt_add_left h2 i))
theorem mir_hi {i j k:Nat}(h1:i≤k)(h2:k<j):i+j-1-k<j:=
 Nat.sub_lt_left_of_lt_add (Nat.le_trans (Nat.le_sub_one_of_lt h2) (Nat.sub_le_sub_right (Nat.le_add_left j i) 1))
  (Nat.lt_of_lt_of_le (Nat.sub_one_lt (Nat.ne_of_gt (Nat.lt_of_lt_of_le (Nat.lt_of_le_of_lt (Nat.zero_le _) h2) (Nat.le_add_left j i)))) (Nat.add_le_add_right h1 j))
theorem mir_eq {i j k:Nat}(h2:k+1<j):i+j-1-(k+1)+1=i+j-1-k:=by
 rw [Nat.sub_add_eq,Nat.sub_add_cancel (Nat.sub_pos_of_lt (Nat.lt_of_lt_of_le (Nat.lt_sub_of_add_lt h2) (Nat.sub_le_sub_right (Nat.le_add_left j i) 1)))]
theorem Ra_same (hj:j≤xs.size)(h:Nb (· = ·) (Ra rk xs) i j):Ra rk (mirror xs i j ((j-i)/2))=Ra rk xs:=funext fun k=>by
 rw [Ra_mirror hj]
 split
 ·rename_i q;rw [←h.eq q.1 q.2,←h.eq (i:=i+j-1-k) (mir_lo q.2) (mir_hi q.1 q.2)]
 ·rfl
theorem Ra_turn (hj:j≤xs.size)(h:Nb (· ≥ ·) (Ra rk xs) i j):Nb (· ≤ ·) (Ra rk (mirror xs i j ((j-i)/2))) i j:=fun k h1 h2=>by
 have:=h (i+j-1-(k+1)) (mir_lo h2) (mir_eq h2▸mir_hi h1 (Nat.lt_of_succ_lt h2))
 rw [Ra_mirror hj,Ra_mirror hj,if_pos ⟨h1,Nat.lt_of_succ_lt h2⟩,if_pos ⟨Nat.le_succ_of_le h1,h2⟩]
 rwa [mir_eq h2] at this
theorem Ra_below (hj:j≤xs.size){k:Nat}(h:k<i):Ra rk (mirror xs i j ((j-i)/2)) k=Ra rk xs k:=by
 rw [Ra_mirror hj,if_neg fun q=>Nat.not_le.mpr h q.1]
theorem Ra_down {lo src dst:Nat}(hs:src<xs.size)(hl:lo≤dst)(hd:dst≤src)(h:Nb (· ≤ ·) (Ra rk xs) lo src)(b1:dst=lo∨Ra rk xs (dst-1)≤Ra rk xs src)(b2:dst=src∨Ra rk xs src≤Ra rk xs dst):
  Nb (· ≤ ·) (Ra rk (bubble xs src (src-dst))) lo (src+1)∧∀ k,k<lo→Ra rk (bubble xs src (src-dst)) k=Ra rk xs k:=by
 have e:∀ k,Ra rk (bubble xs src (src-dst)) k=if k=dst then Ra rk xs src else if dst<k∧k≤src then Ra rk xs (k-1) else Ra rk xs k:=fun k=>by
  unfold Ra;rw [getElem?_bubble hs _ (Nat.sub_le _ _),Nat.sub_sub_self hd];split
  ·rfl
  ·split<;>rfl
 have e1:∀ k,k<dst→Ra rk (bubble xs src (src-dst)) k=Ra rk xs k:=fun k q=>by rw [e,if_neg (Nat.ne_of_lt q),if_neg fun z=>Nat.lt_asymm q z.1]
 have e2:∀ k,dst≤k→k<src→Ra rk (bubble xs src (src-dst)) (k+1)=Ra rk xs k:=fun k q1 q2=>by
  rw [e,if_neg (Nat.ne_of_gt (Nat.lt_succ_of_le q1)),if_pos ⟨Nat.lt_succ_of_le q1,q2⟩];rfl
 have e3:Ra rk (bubble xs src (src-dst)) dst=Ra rk xs src:=by rw [e,if_pos rfl]
 refine ⟨fun k h1 h2=>?_,fun k hk=>e1 k (Nat.lt_of_lt_of_le hk hl)⟩
 have h2:k<src:=Nat.lt_of_succ_lt_succ h2
 by_cases c:k+1<dst
 ·rw [e1 k (Nat.lt_of_succ_lt c),e1 _ c];exact h k h1 (Nat.lt_of_lt_of_le c hd)
 by_cases c1:k+1=dst
 ·subst c1
  rw [e1 k (Nat.lt_succ_self k),e3]
  exact b1.elim (fun z=>absurd h1 (by rw [←z];exact Nat.not_succ_le_self k)) id
 have c2:dst≤k:=Nat.le_of_lt_succ (Nat.lt_of_le_of_ne (Nat.not_lt.mp c) (Ne.symm c1))
 rw [e2 k c2 h2]
 cases Nat.lt_or_eq_of_le c2 with
 |inr c3=>subst c3;rw [e3];exact b2.elim (fun z=>absurd z (Nat.ne_of_lt h2)) id
 |inl c3=>
  obtain ⟨k,rfl⟩:∃ n,k=n+1:=⟨k-1,(Nat.sub_add_cancel (Nat.lt_of_le_of_lt (Nat.zero_le _) c3)).symm⟩
  have c4:=Nat.le_of_lt_succ c3
  rw [e2 k c4 (Nat.lt_of_succ_lt h2)]
  exact h k (Nat.le_trans hl c4) h2
end
noncomputable def Cut (f:Nat→Bool)(n c:Nat):Prop:=c≤n∧(c=0∨f (c-1)=true)∧(c=n∨f c=false)
noncomputable def Bi (f:Nat→Bool)(n x l r:Nat):Prop:=l≤r∧r≤n∧r+x≤l+n∧(l=0∨f (l-1)=true)∧(r=n∨f r=false)
section
variable {f:Nat→Bool}{n x l r m:Nat}
theorem Bi.right (h:Bi f n x l r)(h1:l≤m)(h2:m<r)(q:f m=true):Bi f n (x+1) (m+1) r:=⟨h2,h.2.1,by have:=h.2.2.1;lia,.inr q,h.2.2.2.2⟩
theorem Bi.left (h:Bi f n x l r)(h1:l≤m)(h2:m<r)(q:f m=false):Bi f n (x+1) l m:=⟨h1,Nat.le_of_lt (Nat.lt_of_lt_of_le h2 h.2.1),by have:=h.2.2.1;lia,h.2.2.2.1,.inr q⟩
theorem Bi.cut (h:Bi f n x l r)(q:l≥r∨n≤x):l=r∧Cut f n r:=by
 have e:l=r:=by have:=h.1;have:=h.2.2.1;lia
 subst e;exact ⟨rfl,h.2.1,h.2.2.2⟩
end
structure SB (κ:SortKind)(a₀:Array Keyed)(st:SortSt):Prop where
 perm:(arrOf st).Perm a₀
 kind:kindOf st=κ
 failed:failedOf st=none
section
variable {prog:Program}{w:World}{A:Around}{E:Value→Shared→Prop}{s:Shared}{κ:SortKind}{a₀:Array Keyed}{rk:Keyed→Nat}
noncomputable def LtOk (prog:Program)(w:World)(A:Around)(E:Value→Shared→Prop)(s:Shared)(κ:SortKind)(a₀:Array Keyed)(rk:Keyed→Nat):Prop:=
 ∀ x y (st:SortSt) (Q:Option Bool→SortSt→Prop),x∈a₀→y∈a₀→kindOf st=κ→(∀ b,b=decide (rk x<rk y)→Q (some b) st)→wpS (model prog w) A E s (lt' x y) Q st
theorem SB.size {st:SortSt}(h:SB κ a₀ st):(arrOf st).size=a₀.size:=h.perm.size_eq
theorem SB.set {st:SortSt}(h:SB κ a₀ st){xs:Array Keyed}(hp:xs.Perm (arrOf st)):SB κ a₀ (setArr st xs):=⟨hp.trans h.perm,h.kind,h.failed⟩
theorem q_elem {a:Array Keyed}{i:Nat}{st:SortSt}{Q:Keyed→SortSt→Prop}(h:i<a.size)(q:Q a[i] st):wpS (model prog w) A E s (elem' a i) Q st:=by
 rw [elem'_eq,getElem?_pos a i h];exact wpS_pure q
noncomputable abbrev Rs (rk:Keyed→Nat)(st:SortSt):Nat→Nat:=Ra rk (arrOf st)
theorem q_ltAt (L:LtOk prog w A E s κ a₀ rk){st:SortSt}(hB:SB κ a₀ st){i j:Nat}{Q:Option Bool→SortSt→Prop}(hi:i<a₀.size)(hj:j<a₀.size)(h1:Rs rk st i<Rs rk st j→Q (some true) st)(h2:Rs rk st j≤Rs rk st i→Q (some false) st):wpS (model prog w) A E s (ltAt' i j) Q st:=by
 rw [←hB.size] at hi hj
 rw [ltAt'_eq]
 rw [Rs,Ra_at hi,Ra_at hj] at h1 h2
 exact wpS_bind (wpS_get (wpS_bind (q_elem hi (wpS_bind (q_elem hj (L _ _ st Q (hB.perm.mem_iff.mp (Array.getElem_mem hi)) (hB.perm.mem_iff.mp (Array.getElem_mem hj)) hB.kind fun b e=>by
  cases b with
  |true=>exact h1 (of_decide_eq_true e.symm)
  |false=>exact h2 (Nat.not_lt.mp (of_decide_eq_false e.symm))))))))
noncomputable def ascL (lo a nrem:Nat):StateT SortSt Sem AscSt:=
 forIn [a:nrem] ((none,a):AscSt) fun _ __s=>do
  let __x←ltAt' (lo+__s.snd) (lo+__s.snd-1)
  match __x with
  |some smaller=>if smaller=true then pure (ForInStep.done (none,__s.snd)) else pure (ForInStep.yield (none,__s.snd+1))
  |_=>pure (ForInStep.done (some none,__s.snd))
noncomputable def tailL (lo n nrem:Nat):StateT SortSt Sem (Option Nat):=do
 reverseSlice' lo (lo+n)
 let __s←ascL lo n nrem
 match __s.fst with
 |some r=>pure r
 |none=>pure (some __s.snd)
noncomputable def dscL (lo n nrem:Nat):StateT SortSt Sem DescSt:=
 forIn [n:nrem] ((none,n,0):DescSt) fun _ __s=>do
  let __x←ltAt' (lo+__s.snd.fst) (lo+__s.snd.fst-1)
  match __x with
  |some smaller=>
   if smaller=true then
    if __s.snd.snd>0 then do
     reverseSlice' (lo+__s.snd.fst-(__s.snd.snd+1)) (lo+__s.snd.fst)
     pure (ForInStep.yield (none,__s.snd.fst+1,0))
    else pure (ForInStep.yield (none,__s.snd.fst+1,0))
   else do
    let __x←ltAt' (lo+__s.snd.fst-1) (lo+__s.snd.fst)
    match __x with
    |some larger=>
     if larger=true then pure (ForInStep.done (none,__s.snd.fst,__s.snd.snd))
     else pure (ForInStep.yield (none,__s.snd.fst+1,__s.snd.snd+1))
    |_=>pure (ForInStep.done (some none,__s.snd.fst,__s.snd.snd))
  |_=>pure (ForInStep.done (some none,__s.snd.fst,__s.snd.snd))
noncomputable def dscP (lo n nrem:Nat):StateT SortSt Sem (Option Nat):=do
 liftM (rule "list.sort.descending-run")
 let __s←dscL lo (n+1) nrem
 match __s.fst with
 |some r=>pure r
 |none=>
  if __s.snd.snd>0 then do
   reverseSlice' (lo+__s.snd.fst-(__s.snd.snd+1)) (lo+__s.snd.fst)
   tailL lo __s.snd.fst nrem
  else tailL lo __s.snd.fst nrem
theorem countRun_parts (lo nrem:Nat):countRun' lo nrem=(do
  let __s←ascL lo 1 nrem
  match __s.fst with
  |some r=>pure r
  |none=>
   if (__s.snd==nrem)=true then pure (some __s.snd)
   else if __s.snd>1 then do
    let __x←ltAt' lo (lo+__s.snd-1)
    match __x with
    |some rose=>if rose=true then pure (some __s.snd) else do
      reverseSlice' lo (lo+__s.snd)
      dscP lo __s.snd nrem
    |_=>pure none
   else dscP lo __s.snd nrem):=by
 rw [countRun'_eq]
 unfold dscP tailL dscL ascL
 refine bind_congr fun __s=>?_
 obtain ⟨r,n⟩:=__s
 cases r with
 |some r=>rfl
 |none=>
  dsimp only
  split
  ·rfl
  ·split
   ·refine bind_congr fun x=>?_
    cases x with
    |none=>rfl
    |some rose=>
     dsimp only
     split
     ·rfl
     ·refine bind_congr fun _r=>?_
      refine bind_congr fun _u=>bind_congr fun s2=>?_
      obtain ⟨r2,n2,q2⟩:=s2
      cases r2 with
      |some r2=>rfl
      |none=>
       dsimp only
       split
       ·refine bind_congr fun _v=>?_
        refine bind_congr fun _w=>bind_congr fun s3=>?_
        obtain ⟨r3,n3⟩:=s3
        cases r3<;>rfl
       ·refine bind_congr fun _w=>bind_congr fun s3=>?_
        obtain ⟨r3,n3⟩:=s3
        cases r3<;>rfl
   ·skip
    refine bind_congr fun _u=>bind_congr fun s2=>?_
    obtain ⟨r2,n2,q2⟩:=s2
    cases r2 with
    |some r2=>rfl
    |none=>
     dsimp only
     split
     ·refine bind_congr fun _v=>?_
      refine bind_congr fun _w=>bind_congr fun s3=>?_
      obtain ⟨r3,n3⟩:=s3
      cases r3<;>rfl
     ·refine bind_congr fun _w=>bind_congr fun s3=>?_
      obtain ⟨r3,n3⟩:=s3
      cases r3<;>rfl
noncomputable def Kp (κ:SortKind)(a₀:Array Keyed)(rk:Keyed→Nat)(st st':SortSt):Prop:=SB κ a₀ st'∧pendingOf st'=pendingOf st∧Rs rk st'=Rs rk st
theorem Kp.rev {st st':SortSt}{i j:Nat}(h:Kp κ a₀ rk st st')(hj:j≤a₀.size)(q:Nb (· = ·) (Rs rk st) i j):Kp κ a₀ rk st (setArr st' (mirror (arrOf st') i j ((j-i)/2))):=⟨h.1.set (mirror_perm _ _ _ _),h.2.1,(Ra_same (h.1.size▸hj) (show Nb _ (Rs rk st') _ _ from h.2.2▸q)).trans h.2.2⟩
noncomputable def RunS (κ:SortKind)(a₀:Array Keyed)(rk:Keyed→Nat)(lo m:Nat)(st st':SortSt):Prop:=SB κ a₀ st'∧pendingOf st'=pendingOf st∧(∀ k,k<lo→Rs rk st' k=Rs rk st k)∧Nb (· ≤ ·) (Rs rk st') lo (lo+m)
theorem Kp.run {st st':SortSt}{lo m:Nat}(h:Kp κ a₀ rk st st')(q:Nb (· ≤ ·) (Rs rk st) lo (lo+m)):RunS κ a₀ rk lo m st st':=⟨h.1,h.2.1,fun k _=>congrFun h.2.2 k,h.2.2▸q⟩
theorem Kp.turn {st st':SortSt}{lo m:Nat}(h:Kp κ a₀ rk st st')(hm:lo+m≤a₀.size)(q:Nb (· ≥ ·) (Rs rk st) lo (lo+m)):RunS κ a₀ rk lo m st (setArr st' (mirror (arrOf st') lo (lo+m) ((lo+m-lo)/2))):=
 ⟨h.1.set (mirror_perm _ _ _ _),h.2.1,fun k hk=>(Ra_below (h.1.size▸hm) hk).trans (congrFun h.2.2 k),Ra_turn (h.1.size▸hm) (show Nb _ (Rs rk st') _ _ from h.2.2▸q)⟩
theorem q_reverse {st:SortSt}{i j:Nat}{Q:Unit→SortSt→Prop}(h:Q () (setArr st (mirror (arrOf st) i j ((j-i)/2)))):wpS (model prog w) A E s (reverseSlice' i j) Q st:=by
 rw [reverseSlice'_eq];exact wpS_modify h
theorem in1 {lo x m z:Nat}(hn:lo+m≤z)(h:x<m):lo+x<z:=Nat.lt_of_lt_of_le (Nat.add_lt_add_left h lo) hn
theorem in2 {lo x m z:Nat}(hn:lo+m≤z)(h:x<m):lo+x-1<z:=Nat.lt_of_le_of_lt (Nat.sub_le _ _) (in1 hn h)
theorem q_asc (L:LtOk prog w A E s κ a₀ rk){st:SortSt}{lo a nrem:Nat}{Q:AscSt→SortSt→Prop}(hn:lo+nrem≤a₀.size)(han:a≤nrem)(hB:SB κ a₀ st)(hu:Nb (· ≤ ·) (Rs rk st) lo (lo+a))
  (h:∀ n,a≤n→n≤nrem→Nb (· ≤ ·) (Rs rk st) lo (lo+n)→(n=nrem∨Rs rk st (lo+n)≤Rs rk st (lo+n-1))→Q (none,n) st):wpS (model prog w) A E s (ascL lo a nrem) Q st:=by
 unfold ascL
 refine wpS_forRange (I:=fun x c st'=>st'=st∧c=(none,x)∧Nb (· ≤ ·) (Rs rk st) lo (lo+x)) (fun x c st' hax hx z=>?_) (fun c st' z=>?_) ⟨rfl,rfl,hu⟩
 ·obtain ⟨rfl,rfl,u⟩:=z
  refine wpS_bind (q_ltAt L hB (in1 hn hx) (in2 hn hx) (fun b=>?_) fun b=>?_)
  ·exact wpS_pure (h x hax (Nat.le_of_lt hx) u (.inr (Nat.le_of_lt b)))
  ·exact wpS_pure ⟨rfl,rfl,u.snoc b⟩
 ·obtain ⟨rfl,rfl,u⟩:=z
  rw [Nat.max_eq_right han] at u ⊢
  exact h nrem han (Nat.le_refl _) u (.inl rfl)
theorem q_tail (L:LtOk prog w A E s κ a₀ rk){st₀ st:SortSt}{lo n nrem:Nat}{Q:Option Nat→SortSt→Prop}(hn:lo+nrem≤a₀.size)(h1:1≤n)(hnn:n≤nrem)(hB:Kp κ a₀ rk st₀ st)(hd:Nb (· ≥ ·) (Rs rk st₀) lo (lo+n))
  (h:∀ m st',RunS κ a₀ rk lo m st₀ st'→1≤m→m≤nrem→Q (some m) st'):wpS (model prog w) A E s (tailL lo n nrem) Q st:=by
 unfold tailL
 have T:=hB.turn (Nat.le_trans (Nat.add_le_add_left hnn _) hn) hd
 exact wpS_bind (q_reverse (wpS_bind (q_asc L hn hnn T.1 T.2.2.2 fun m m1 m2 u _=>wpS_pure (h m _ ⟨T.1,T.2.1,T.2.2.1,u⟩ (Nat.le_trans h1 m1) m2))))
noncomputable def Fal (ρ:Nat→Nat)(lo x e:Nat):Prop:=Nb (· ≥ ·) ρ lo (lo+x)∧Nb (· = ·) ρ (lo+x-(e+1)) (lo+x)
theorem Fal.low {ρ:Nat→Nat}{lo x e:Nat}(h:Fal ρ lo x e)(q:ρ (lo+x)≤ρ (lo+x-1)):Fal ρ lo (x+1) 0:=⟨h.1.snoc q,Nb.few (Nat.le_of_eq rfl)⟩
theorem Fal.even {ρ:Nat→Nat}{lo x e:Nat}(h:Fal ρ lo x e)(q:ρ (lo+x)≤ρ (lo+x-1))(q':ρ (lo+x-1)≤ρ (lo+x)):Fal ρ lo (x+1) (e+1):=⟨h.1.snoc q,by
 rw [show lo+(x+1)-(e+1+1)=lo+x-(e+1) from Nat.succ_sub_succ _ _]
 exact h.2.snoc (Nat.le_antisymm q' q)⟩
theorem q_dsc (L:LtOk prog w A E s κ a₀ rk){st₀ st:SortSt}{lo n nrem:Nat}{Q:DescSt→SortSt→Prop}(hn:lo+nrem≤a₀.size)(hnn:n≤nrem)(hB:Kp κ a₀ rk st₀ st)(hf:Fal (Rs rk st₀) lo n 0)
  (h:∀ m neq st',Kp κ a₀ rk st₀ st'→Fal (Rs rk st₀) lo m neq→n≤m→m≤nrem→Q (none,m,neq) st'):wpS (model prog w) A E s (dscL lo n nrem) Q st:=by
 unfold dscL
 refine wpS_forRange (I:=fun x c st'=>Kp κ a₀ rk st₀ st'∧∃ neq,c=(none,x,neq)∧Fal (Rs rk st₀) lo x neq) (fun x c st' hax hx z=>?_) (fun c st' z=>?_) ⟨hB,0,rfl,hf⟩
 ·obtain ⟨k,neq,rfl,f⟩:=z
  refine wpS_bind (q_ltAt L k.1 (in1 hn hx) (in2 hn hx) (fun b=>?_) fun b=>?_)
  ·rw [k.2.2] at b
   have f':=f.low (Nat.le_of_lt b)
   by_cases q:neq>0
   ·exact (if_pos q:(if neq>0 then _ else _)=_)▸wpS_bind (q_reverse (wpS_pure ⟨k.rev (Nat.le_of_lt (in1 hn hx)) f.2,0,rfl,f'⟩))
   ·exact (if_neg q:(if neq>0 then _ else _)=_)▸wpS_pure ⟨k,0,rfl,f'⟩
  ·refine wpS_bind (q_ltAt L k.1 (in2 hn hx) (in1 hn hx) (fun c=>?_) fun c=>?_)
   ·exact wpS_pure (h x neq st' k f hax (Nat.le_of_lt hx))
   ·rw [k.2.2] at b c
    exact wpS_pure ⟨k,neq+1,rfl,f.even c b⟩
 ·obtain ⟨k,neq,rfl,f⟩:=z
  rw [Nat.max_eq_right hnn] at f ⊢
  exact h nrem neq st' k f hnn (Nat.le_refl _)
theorem q_dscP (L:LtOk prog w A E s κ a₀ rk){st₀ st:SortSt}{lo n nrem:Nat}{Q:Option Nat→SortSt→Prop}(hn:lo+nrem≤a₀.size)(hnn:n+1≤nrem)(hB:Kp κ a₀ rk st₀ st)(hf:Fal (Rs rk st₀) lo (n+1) 0)(h:∀ m st',RunS κ a₀ rk lo m st₀ st'→1≤m→m≤nrem→Q (some m) st'):wpS (model prog w) A E s (dscP lo n nrem) Q st:=by
 unfold dscP
 refine wpS_bind (wpS_lift (wpAny_rule ⟨rfl,wpS_bind (q_dsc L hn hnn hB hf fun m neq st' k f m1 m2=>?_)⟩))
 have m0:=Nat.le_trans (Nat.le_add_left 1 n) m1
 by_cases q:neq>0
 ·exact (if_pos q:(if neq>0 then _ else _)=_)▸wpS_bind (q_reverse (q_tail L hn m0 m2 (k.rev (Nat.le_trans (Nat.add_le_add_left m2 _) hn) f.2) f.1 h))
 ·exact (if_neg q:(if neq>0 then _ else _)=_)▸q_tail L hn m0 m2 k f.1 h
theorem flat {ρ:Nat→Nat}{lo n:Nat}(h:Nb (· ≤ ·) ρ lo (lo+n))(q:ρ (lo+n-1)≤ρ lo):Nb (· = ·) ρ lo (lo+n):=fun k h1 h2=>
 Nat.le_antisymm (h k h1 h2) (Nat.le_trans (h.le (Nat.le_succ_of_le h1) (Nat.le_sub_one_of_lt h2) (Nat.sub_one_lt_of_lt h2)) (Nat.le_trans q (h.le (Nat.le_refl _) h1 (Nat.lt_of_succ_lt h2))))
theorem q_countRun (L:LtOk prog w A E s κ a₀ rk){st:SortSt}{lo nrem:Nat}{Q:Option Nat→SortSt→Prop}(hn:lo+nrem≤a₀.size)(h1:1≤nrem)(hB:SB κ a₀ st)(h:∀ m st',RunS κ a₀ rk lo m st st'→1≤m→m≤nrem→Q (some m) st'):wpS (model prog w) A E s (countRun' lo nrem) Q st:=by
 rw [countRun_parts]
 have k0:Kp κ a₀ rk st st:=⟨hB,rfl,rfl⟩
 refine wpS_bind (q_asc L hn h1 hB (Nb.few (Nat.le_refl _)) fun n n1 n2 u d=>?_)
 dsimp only
 by_cases q:n=nrem
 ·rw [if_pos (beq_iff_eq.mpr q)]
  exact wpS_pure (h n st (k0.run u) n1 n2)
 rw [if_neg fun z=>q (beq_iff_eq.mp z)]
 have n3:n+1≤nrem:=Nat.lt_of_le_of_ne n2 q
 have d:=d.resolve_left q
 by_cases q2:n>1
 ·rw [if_pos q2]
  refine wpS_bind (q_ltAt L hB (in1 hn h1) (in2 hn n3) (fun b=>?_) fun b=>?_)
  ·exact wpS_pure (h n st (k0.run u) n1 n2)
  ·have fl:=flat u b
   exact wpS_bind (q_reverse (q_dscP L hn n3 (k0.rev (Nat.le_of_lt (in1 hn n3)) fl) ⟨(fl.imp fun z=>Nat.le_of_eq z.symm).snoc d,Nb.few (Nat.le_of_eq rfl)⟩ h))
 ·rw [if_neg q2]
  obtain rfl:n=1:=Nat.le_antisymm (Nat.not_lt.mp q2) n1
  exact q_dscP L hn n3 k0 ⟨Nb.snoc (Nb.few (Nat.le_refl _)) d,Nb.few (Nat.le_of_eq rfl)⟩ h
theorem not_t {x y:Nat}(h:(!decide (x<y))=true):y≤x:=Nat.not_lt.mp (of_decide_eq_false (Bool.not_eq_true' _▸h))
theorem not_f {x y:Nat}(h:(!decide (x<y))=false):x<y:=of_decide_eq_true (Bool.not_eq_false' _▸h)
theorem mid_lt {l r:Nat}(h:¬ l≥r):l≤(l+r)/2∧(l+r)/2<r:=⟨(Nat.le_div_iff_mul_le (by decide)).mpr (Nat.mul_two l▸Nat.add_le_add_left (Nat.le_of_not_le h) l),(Nat.div_lt_iff_lt_mul (by decide)).mpr (Nat.mul_two r▸Nat.add_lt_add_right (Nat.not_le.mp h) r)⟩
theorem q_binarySort (L:LtOk prog w A E s κ a₀ rk){st:SortSt}{lo n ok:Nat}{Q:Bool→SortSt→Prop}(hn:lo+n≤a₀.size)(h1:1≤ok)(hok:ok≤n)(hB:SB κ a₀ st)(hu:Nb (· ≤ ·) (Rs rk st) lo (lo+ok))(h:∀ st',RunS κ a₀ rk lo n st st'→Q true st'):wpS (model prog w) A E s (binarySort' lo n ok) Q st:=by
 rw [binarySort'_eq,Nat.max_eq_left h1]
 refine wpS_bind (wpS_mono (wpS_forRange (I:=fun k c st'=>c=(none,())∧RunS κ a₀ rk lo k st st') (Q:=fun c st'=>c=(none,())∧RunS κ a₀ rk lo n st st') (fun k c st' _ hk z=>?_) (fun _ _ z=>Nat.max_eq_right hok▸z) ⟨rfl,hB,rfl,fun _ _=>rfl,hu⟩) fun c st' z=>?_)
 ·obtain ⟨rfl,kp⟩:=z
  refine wpS_bind (wpS_mono (wpS_forRange (I:=fun x c st''=>st''=st'∧∃ l r,c=(none,l,r)∧Bi (fun i=>!decide (Rs rk st' (lo+k)<Rs rk st' (lo+i))) k x l r) (Q:=fun c st''=>st''=st'∧∃ l r,c=(none,l,r)∧Cut (fun i=>!decide (Rs rk st' (lo+k)<Rs rk st' (lo+i))) k l) (fun x c st'' _ _ z=>?_) (fun _ _ z=>?_) ⟨rfl,0,k,rfl,Nat.zero_le _,Nat.le_refl _,Nat.le_of_eq (Nat.add_comm _ _),.inl rfl,.inl rfl⟩) fun c st'' z=>?_)
  ·obtain ⟨rfl,l,r,rfl,hb⟩:=z
   dsimp only
   by_cases q:l≥r
   ·rw [if_pos q];exact wpS_pure ⟨rfl,l,r,rfl,(hb.cut (.inl q)).1▸(hb.cut (.inl q)).2⟩
   rw [if_neg q]
   have hm:=mid_lt q
   refine wpS_bind (q_ltAt L kp.1 (in1 hn hk) (in1 hn (Nat.lt_trans (Nat.lt_of_lt_of_le hm.2 hb.2.1) hk)) (fun b=>?_) fun b=>?_)
   ·exact wpS_pure ⟨rfl,l,_,rfl,hb.left hm.1 hm.2 (congrArg not (decide_eq_true b))⟩
   ·exact wpS_pure ⟨rfl,_,r,rfl,hb.right hm.1 hm.2 (congrArg not (decide_eq_false (Nat.not_lt.mpr b)))⟩
  ·obtain ⟨rfl,l,r,rfl,hb⟩:=z
   have:=hb.cut (.inr (Nat.le_max_right 0 k))
   exact ⟨rfl,l,r,rfl,this.1▸this.2⟩
  ·obtain ⟨rfl,l,r,rfl,c1,c2,c3⟩:=z
   show wpS _ _ _ _ (do moveDown' (lo+k) (lo+l);pure (ForInStep.yield (none,()))) _ _
   rw [moveDown'_eq]
   have D:=Ra_down (rk:=rk) (kp.1.size▸in1 hn hk) (Nat.le_add_right lo l) (Nat.add_le_add_left c1 lo) kp.2.2.2 (by
    cases l with
    |zero=>exact .inl rfl
    |succ l=>exact .inr (not_t (c2.resolve_left (Nat.succ_ne_zero l)))) (c3.imp (fun z=>by rw [z]) fun z=>Nat.le_of_lt (not_f z))
   exact wpS_bind (wpS_modify (wpS_pure ⟨rfl,kp.1.set (bubble_perm _ _ _),kp.2.1,fun j hj=>(D.2 j hj).trans (kp.2.2.1 j hj),D.1⟩))
 ·obtain ⟨rfl,kp⟩:=z
  exact wpS_pure (h st' kp)
end
end Mine
end
section
namespace Mine
open PySem PyProof.Rows
theorem bind_congr' {m:Type→Type} [Monad m] {α β:Type} {x y:m α} {f g:α→m β} (h:x=y) (k:∀ a,f a=g a):x>>=f=y>>=g:=by subst h;exact bind_congr k
noncomputable def gallop':Bool→Keyed→Array Keyed→Nat→Nat→Nat→StateT SortSt Sem (Option Nat):=sortPriv%PySem.Builtin.gallop
abbrev GoSt:=Option (Option Nat)×Nat×Nat
noncomputable def beyond' (left:Bool)(key:Keyed)(arr:Array Keyed)(base i:Nat):StateT SortSt Sem (Option Bool):=do
 let x←elem' arr (base+i)
 if left then lt' x key else return (←lt' key x).map (!·)
noncomputable def goL (ask:Nat→StateT SortSt Sem (Option Bool))(n most:Nat)(ix:Nat→Nat)(stop:Bool→Bool):StateT SortSt Sem GoSt:=
 forIn [:n] ((none,0,1):GoSt) fun _ s=>
  if s.2.2≥most then pure (ForInStep.done (none,s.2.1,s.2.2))
  else do
   let r←ask (ix s.2.2)
   match r with
   |some b=>if stop b=true then pure (ForInStep.done (none,s.2.1,s.2.2)) else pure (ForInStep.yield (none,s.2.2,2*s.2.2+1))
   |_=>pure (ForInStep.done (some none,s.2.1,s.2.2))
noncomputable def bisL (ask:Nat→StateT SortSt Sem (Option Bool))(n lo hi:Nat):StateT SortSt Sem (Option Nat):=do
 let s←forIn [:n] ((none,lo,hi):GoSt) fun _ s=>
  if s.2.1≥s.2.2 then pure (ForInStep.done (none,s.2.1,s.2.2))
  else do
   let r←ask (s.2.1+(s.2.2-s.2.1)/2)
   match r with
   |some b=>if b=true then pure (ForInStep.yield (none,s.2.1+(s.2.2-s.2.1)/2+1,s.2.2)) else pure (ForInStep.yield (none,s.2.1,s.2.1+(s.2.2-s.2.1)/2))
   |_=>pure (ForInStep.done (some none,s.2.1,s.2.2))
 match s.1 with
 |some r=>pure r
 |none=>pure (some s.2.2)
theorem gallop_parts (left:Bool)(key:Keyed)(arr:Array Keyed)(base n hint:Nat):gallop' left key arr base n hint=(do
  let r←beyond' left key arr base hint
  match r with
  |some right=>
   if right=true then do
    let s←goL (beyond' left key arr base) n (n-hint) (fun o=>hint+o) (fun b=>!b)
    match s.1 with
    |some r=>pure r
    |none=>bisL (beyond' left key arr base) n (hint+s.2.1+1) (hint+min s.2.2 (n-hint))
   else do
    let s←goL (beyond' left key arr base) n (hint+1) (fun o=>hint-o) (fun b=>b)
    match s.1 with
    |some r=>pure r
    |none=>bisL (beyond' left key arr base) n (hint+1-min s.2.2 (hint+1)) (hint-s.2.1)
  |_=>pure none):=by
 refine bind_congr' (m:=StateT SortSt Sem) (x:=beyond' left key arr base hint) rfl fun r=>?_
 cases r with
 |none=>rfl
 |some b=>
  refine ite_congr rfl (fun _=>?_) (fun _=>?_)
  ·refine bind_congr' (m:=StateT SortSt Sem) rfl fun s=>?_
   obtain ⟨r,o⟩:=s
   cases r with
   |some r=>rfl
   |none=>exact bind_congr' (m:=StateT SortSt Sem) rfl fun s=>by obtain ⟨r,o⟩:=s;cases r<;>rfl
  ·refine bind_congr' (m:=StateT SortSt Sem) rfl fun s=>?_
   obtain ⟨r,o⟩:=s
   cases r with
   |some r=>rfl
   |none=>exact bind_congr' (m:=StateT SortSt Sem) rfl fun s=>by obtain ⟨r,o⟩:=s;cases r<;>rfl
section
variable {prog:Program}{w:World}{A:Around}{E:Value→Shared→Prop}{s:Shared}{κ:SortKind}{a₀:Array Keyed}{rk:Keyed→Nat}
noncomputable def AskOk (prog:Program)(w:World)(A:Around)(E:Value→Shared→Prop)(s:Shared)(st:SortSt)(n:Nat)(ask:Nat→StateT SortSt Sem (Option Bool))(f:Nat→Bool):Prop:=∀ i (Q:Option Bool→SortSt→Prop),i<n→(∀ b,b=f i→Q (some b) st)→wpS (model prog w) A E s (ask i) Q st
noncomputable def byd (rk:Keyed→Nat)(left:Bool)(key:Keyed)(arr:Array Keyed)(base i:Nat):Bool:=if left then decide (Ra rk arr (base+i)<rk key) else !decide (rk key<Ra rk arr (base+i))
theorem q_beyond (L:LtOk prog w A E s κ a₀ rk){left:Bool}{key:Keyed}{arr:Array Keyed}{base n:Nat}{st:SortSt}(hk:kindOf st=κ)(hkey:key∈a₀)(harr:∀ x∈arr,x∈a₀)(hb:base+n≤arr.size):AskOk prog w A E s st n (beyond' left key arr base) (byd rk left key arr base):=fun i Q hi h=>by
 unfold beyond'
 have hi':=in1 hb hi
 have m:=harr _ (Array.getElem_mem hi')
 unfold byd at h
 rw [Ra_at hi'] at h
 refine wpS_bind (q_elem hi' ?_)
 cases left with
 |true=>exact L _ _ _ _ m hkey hk h
 |false=>exact wpS_bind (L _ _ _ _ hkey m hk fun b e=>wpS_pure (h (!b) (congrArg not e)))
theorem q_go {ask:Nat→StateT SortSt Sem (Option Bool)}{f:Nat→Bool}{st:SortSt}{m n most:Nat}{ix:Nat→Nat}{stop:Bool→Bool}{Q:GoSt→SortSt→Prop}(K:AskOk prog w A E s st m ask f)(hix:∀ o,o<most→ix o<m)(h0:0<most)(hn:most≤n)(hs:stop (f (ix 0))=false)
  (h:∀ l o,l<o→l<most→stop (f (ix l))=false→(most≤o∨stop (f (ix o))=true)→Q (none,l,o) st):wpS (model prog w) A E s (goL ask n most ix stop) Q st:=by
 unfold goL
 refine wpS_forRange (I:=fun x c st'=>st'=st∧∃ l o,c=(none,l,o)∧x<o∧l<o∧l<most∧stop (f (ix l))=false) (fun x c st' _ _ z=>?_) (fun c st' z=>?_) ⟨rfl,0,1,rfl,Nat.one_pos,Nat.one_pos,h0,hs⟩
 ·obtain ⟨rfl,l,o,rfl,hx,hl,hm,hf⟩:=z
  dsimp only
  by_cases q:o≥most
  ·rw [if_pos q];exact wpS_pure (h l o hl hm hf (.inl q))
  rw [if_neg q]
  have q:=Nat.not_le.mp q
  refine wpS_bind (K _ _ (hix o q) fun b e=>?_)
  subst e
  dsimp only
  cases hb:stop (f (ix o)) with
  |true=>exact wpS_pure (h l o hl hm hf (.inr hb))
  |false=>exact wpS_pure ⟨rfl,_,_,rfl,Nat.succ_lt_succ (by lia),by lia,q,hb⟩
 ·obtain ⟨rfl,l,o,rfl,hx,hl,hm,hf⟩:=z
  exact h l o hl hm hf (.inl (Nat.le_trans (Nat.le_trans hn (Nat.le_max_right 0 n)) (Nat.le_of_lt hx)))
theorem mid_in {lo hi:Nat}(h:¬ lo≥hi):lo+(hi-lo)/2<hi:=Nat.add_lt_of_lt_sub' (Nat.div_lt_self (Nat.sub_pos_of_lt (Nat.not_le.mp h)) (by decide))
theorem q_bis {ask:Nat→StateT SortSt Sem (Option Bool)}{f:Nat→Bool}{st:SortSt}{n lo hi:Nat}{Q:Option Nat→SortSt→Prop}(K:AskOk prog w A E s st n ask f)(h2:Bi f n 0 lo hi)(h:∀ k,Cut f n k→Q (some k) st):wpS (model prog w) A E s (bisL ask n lo hi) Q st:=by
 unfold bisL
 refine wpS_bind (wpS_mono (wpS_forRange (I:=fun x c st'=>st'=st∧∃ lo hi,c=(none,lo,hi)∧Bi f n x lo hi) (Q:=fun c st'=>st'=st∧∃ lo hi,c=(none,lo,hi)∧Cut f n hi) (fun x c st' _ _ z=>?_) (fun _ _ z=>?_) ⟨rfl,lo,hi,rfl,h2⟩) fun c st' z=>?_)
 ·obtain ⟨rfl,lo,hi,rfl,h2⟩:=z
  dsimp only
  by_cases q:lo≥hi
  ·rw [if_pos q];exact wpS_pure ⟨rfl,lo,hi,rfl,(h2.cut (.inl q)).2⟩
  rw [if_neg q]
  have hm:=mid_in q
  refine wpS_bind (K _ _ (Nat.lt_of_lt_of_le hm h2.2.1) fun b e=>?_)
  cases b with
  |true=>exact wpS_pure ⟨rfl,_,hi,rfl,h2.right (Nat.le_add_right _ _) hm e.symm⟩
  |false=>exact wpS_pure ⟨rfl,lo,_,rfl,h2.left (Nat.le_add_right _ _) hm e.symm⟩
 ·obtain ⟨rfl,lo,hi,rfl,h2⟩:=z
  exact ⟨rfl,lo,hi,rfl,(h2.cut (.inr (Nat.le_max_right 0 n))).2⟩
 ·obtain ⟨rfl,lo,hi,rfl,h2⟩:=z
  exact wpS_pure (h hi h2)
theorem bi_up {f:Nat→Bool}{n hint l o:Nat}(hh:hint<n)(h1:l<o)(h2:l<n-hint)(h3:f (hint+l)=true)(h4:n-hint≤o∨f (hint+o)=false):Bi f n 0 (hint+l+1) (hint+min o (n-hint)):=by
 have u:=Nat.le_trans (Nat.add_le_add_left (Nat.min_le_right o (n-hint)) hint) (Nat.le_of_eq (Nat.add_sub_cancel' (Nat.le_of_lt hh)))
 refine ⟨Nat.add_le_add_left (Nat.le_min.mpr ⟨h1,h2⟩) hint,u,Nat.le_trans u (Nat.le_add_left _ _),.inr h3,?_⟩
 by_cases q:n-hint≤o
 ·rw [Nat.min_eq_right q];exact .inl (Nat.add_sub_cancel' (Nat.le_of_lt hh))
 ·rw [Nat.min_eq_left (Nat.le_of_not_le q)];exact .inr (h4.resolve_left q)
theorem bi_dn {f:Nat→Bool}{n hint l o:Nat}(hh:hint<n)(h1:l<o)(h2:l<hint+1)(h3:f (hint-l)=false)(h4:hint+1≤o∨f (hint-o)=true):Bi f n 0 (hint+1-min o (hint+1)) (hint-l):=by
 refine ⟨Nat.add_sub_add_right hint 1 l▸Nat.sub_le_sub_left (Nat.le_min.mpr ⟨h1,h2⟩) (hint+1),Nat.le_trans (Nat.sub_le _ _) (Nat.le_of_lt hh),Nat.le_trans (Nat.sub_le _ _) (Nat.le_trans (Nat.le_of_lt hh) (Nat.le_add_left _ _)),?_,.inr h3⟩
 by_cases q:hint+1≤o
 ·rw [Nat.min_eq_right q];exact .inl (Nat.sub_self _)
 ·rw [Nat.min_eq_left (Nat.le_of_not_le q),show hint+1-o-1=hint-o from Nat.sub_right_comm _ _ _];exact .inr (h4.resolve_left q)
theorem q_gallop (L:LtOk prog w A E s κ a₀ rk){left:Bool}{key:Keyed}{arr:Array Keyed}{base n hint:Nat}{st:SortSt}{Q:Option Nat→SortSt→Prop}(hk:kindOf st=κ)(hkey:key∈a₀)(harr:∀ x∈arr,x∈a₀)(hb:base+n≤arr.size)(hh:hint<n)(h:∀ k,Cut (byd rk left key arr base) n k→Q (some k) st):wpS (model prog w) A E s (gallop' left key arr base n hint) Q st:=by
 rw [gallop_parts]
 have K:=q_beyond (left:=left) L hk hkey harr hb
 refine wpS_bind (K _ _ hh fun b e=>?_)
 cases b with
 |true=>exact wpS_bind (q_go K (fun o q=>Nat.add_lt_of_lt_sub' q) (Nat.sub_pos_of_lt hh) (Nat.sub_le _ _) (congrArg not e.symm) fun l o h1 h2 h3 h4=>q_bis K (bi_up hh h1 h2 (Bool.not_eq_false' _▸h3) (h4.imp id fun z=>Bool.not_eq_true' _▸z)) h)
 |false=>exact wpS_bind (q_go K (fun o q=>Nat.lt_of_le_of_lt (Nat.sub_le _ _) hh) (Nat.succ_pos _) hh e.symm fun l o h1 h2 h3 h4=>q_bis K (bi_dn hh h1 h2 h3 h4) h)
section
variable {key:Keyed}{arr:Array Keyed}{base n k:Nat}
theorem cutR (h:Cut (byd rk false key arr base) n k):k≤n∧(0<k→Ra rk arr (base+k-1)≤rk key)∧(k≠n→rk key≤Ra rk arr (base+k)):=by
 refine ⟨h.1,fun q=>?_,fun q=>Nat.le_of_lt (not_f (h.2.2.resolve_left q))⟩
 cases k with
 |zero=>cases q
 |succ k=>exact not_t (h.2.1.resolve_left (Nat.succ_ne_zero k))
theorem cutL (h:Cut (byd rk true key arr base) n k):k≤n∧(0<k→Ra rk arr (base+k-1)≤rk key)∧(k≠n→rk key≤Ra rk arr (base+k)):=by
 refine ⟨h.1,fun q=>?_,fun q=>Nat.not_lt.mp (of_decide_eq_false (h.2.2.resolve_left q))⟩
 cases k with
 |zero=>cases q
 |succ k=>exact Nat.le_of_lt (of_decide_eq_true (h.2.1.resolve_left (Nat.succ_ne_zero k)))
end
end
end Mine
end
section
namespace Mine
open PySem PyProof.Rows
noncomputable def setMinGallop':Nat→StateT SortSt Sem Unit:=sortPriv%PySem.Builtin.setMinGallop
theorem setMinGallop'_eq (g:Nat):setMinGallop' g=modify (fun s=>SortSt.mk' (kindOf s) (arrOf s) (pendingOf s) g (failedOf s)):=rfl
noncomputable def mergeLo':Array Keyed→Array Keyed→StateT SortSt Sem (Array Keyed):=sortPriv%PySem.Builtin.mergeLo
noncomputable def mergeHi':Array Keyed→Array Keyed→StateT SortSt Sem (Array Keyed):=sortPriv%PySem.Builtin.mergeHi
section
variable {T1 T2 T3:Type}
abbrev Mg1 (T1 T2 T3:Type):=Option (Array Keyed)×T1×T2×T3×Nat×Nat
abbrev Mg2 (T1 T2 T3:Type):=Option (Array Keyed)×T1×T2×T3×Nat×Nat×Nat
abbrev Mg0 (T1 T2 T3:Type):=Option (Array Keyed)×T1×T2×T3×Nat
noncomputable def mergeD (s2:Mg2 T1 T2 T3):StateT SortSt Sem (ForInStep (Mg0 T1 T2 T3)):=match s2.1 with
 |some r=>pure (ForInStep.done ((some r,s2.2.1,s2.2.2.1,s2.2.2.2.1,s2.2.2.2.2.1):Mg0 T1 T2 T3))
 |none=>do
  setMinGallop' (s2.2.2.2.2.1+1)
  pure (ForInStep.yield ((none,s2.2.1,s2.2.2.1,s2.2.2.2.1,s2.2.2.2.2.1+1):Mg0 T1 T2 T3))
noncomputable def mergeC (N:Nat)(step:T1→T2→T3→Nat→Nat→Nat→StateT SortSt Sem (ForInStep (Mg2 T1 T2 T3)))(mg:Nat)(s1:Mg1 T1 T2 T3):StateT SortSt Sem (ForInStep (Mg0 T1 T2 T3)):=match s1.1 with
 |some r=>pure (ForInStep.done ((some r,s1.2.1,s1.2.2.1,s1.2.2.2.1,mg):Mg0 T1 T2 T3))
 |none=>do
  liftM (rule "list.sort.gallop")
  let s2←forIn [:N] ((none,s1.2.1,s1.2.2.1,s1.2.2.2.1,mg+1,s1.2.2.2.2.1,s1.2.2.2.2.2):Mg2 T1 T2 T3) fun _ s2=>
   if s2.2.2.2.2.1>1 then step s2.2.1 s2.2.2.1 s2.2.2.2.1 (s2.2.2.2.2.1-1) s2.2.2.2.2.2.1 s2.2.2.2.2.2.2
   else step s2.2.1 s2.2.2.1 s2.2.2.2.1 s2.2.2.2.2.1 s2.2.2.2.2.2.1 s2.2.2.2.2.2.2
  mergeD s2
noncomputable def mergeB (N:Nat)(one:T1→T2→T3→Nat→Nat→Nat→StateT SortSt Sem (ForInStep (Mg1 T1 T2 T3)))(step:T1→T2→T3→Nat→Nat→Nat→StateT SortSt Sem (ForInStep (Mg2 T1 T2 T3)))(s0:Mg0 T1 T2 T3):StateT SortSt Sem (ForInStep (Mg0 T1 T2 T3)):=do
 let s1←forIn [:N] ((none,s0.2.1,s0.2.2.1,s0.2.2.2.1,0,0):Mg1 T1 T2 T3) fun _ s1=>one s1.2.1 s1.2.2.1 s1.2.2.2.1 s0.2.2.2.2 s1.2.2.2.2.1 s1.2.2.2.2.2
 mergeC N step s0.2.2.2.2 s1
noncomputable def mergeL (N:Nat)(one:T1→T2→T3→Nat→Nat→Nat→StateT SortSt Sem (ForInStep (Mg1 T1 T2 T3)))(step:T1→T2→T3→Nat→Nat→Nat→StateT SortSt Sem (ForInStep (Mg2 T1 T2 T3)))(x1:T1)(x2:T2)(x3:T3):StateT SortSt Sem (Array Keyed):=do
 let st←get
 let s0←forIn [:N] ((none,x1,x2,x3,gallopOf st):Mg0 T1 T2 T3) fun _ s0=>mergeB N one step s0
 match s0.1 with
 |some r=>pure r
 |none=>unsupported "internal:list.sort.merge-bound"
variable {prog:Program}{w:World}{A:Around}{E:Value→Shared→Prop}{s:Shared}{κ:SortKind}{a₀:Array Keyed}
noncomputable def Gs (st st':SortSt):Prop:=kindOf st'=kindOf st∧arrOf st'=arrOf st∧pendingOf st'=pendingOf st∧failedOf st'=failedOf st
theorem Gs.refl {st:SortSt}:Gs st st:=⟨rfl,rfl,rfl,rfl⟩
theorem Gs.trans {st st' st'':SortSt}(a:Gs st st')(b:Gs st' st''):Gs st st'':=⟨b.1.trans a.1,b.2.1.trans a.2.1,b.2.2.1.trans a.2.2.1,b.2.2.2.trans a.2.2.2⟩
theorem q_setG {g:Nat}{st:SortSt}{Q:Unit→SortSt→Prop}(h:∀ st',Gs st st'→Q () st'):wpS (model prog w) A E s (setMinGallop' g) Q st:=by
 rw [setMinGallop'_eq];exact wpS_modify (h _ ⟨rfl,rfl,rfl,rfl⟩)
noncomputable def EndOk {τ:Type}(F:Array Keyed→Prop)(P:T1→T2→T3→Prop)(z:T1→T2→T3→Nat)(m:Nat)(st₀:SortSt)(r:ForInStep (Option (Array Keyed)×T1×T2×T3×τ))(st:SortSt):Prop:=Gs st₀ st∧match r with
 | .done (some r,_)=>F r
 | .done (none,y1,y2,y3,_)=>P y1 y2 y3∧m≤z y1 y2 y3
 | .yield (some _,_)=>False
 | .yield (none,y1,y2,y3,_)=>P y1 y2 y3∧m≤z y1 y2 y3
noncomputable def LoopOk {τ:Type}(F:Array Keyed→Prop)(P:T1→T2→T3→Prop)(z:T1→T2→T3→Nat)(m:Nat)(st₀:SortSt)(c:Option (Array Keyed)×T1×T2×T3×τ)(st:SortSt):Prop:=Gs st₀ st∧match c with
 |(some r,_)=>F r
 |(none,y1,y2,y3,_)=>P y1 y2 y3∧m≤z y1 y2 y3
noncomputable def EndC {τ:Type}(F:Array Keyed→Prop)(P:T1→T2→T3→Prop)(z:T1→T2→T3→Nat)(m j:Nat)(st:SortSt)(r:ForInStep (Option (Array Keyed)×T1×T2×T3×τ))(st4:SortSt):Prop:=match r with
 | .done c'=>LoopOk F P z m st c' st4
 | .yield c'=>c'.1=none∧LoopOk F P z j st c' st4
noncomputable def EndB (F:Array Keyed→Prop)(P:T1→T2→T3→Prop)(z:T1→T2→T3→Nat)(m:Nat)(st:SortSt)(r:ForInStep (Mg0 T1 T2 T3))(st':SortSt):Prop:=match r with
 | .done c=>Gs st st'∧∃ r,c.1=some r∧F r
 | .yield c=>c.1=none∧LoopOk F P z m st c st'
section
variable {N:Nat}{one:T1→T2→T3→Nat→Nat→Nat→StateT SortSt Sem (ForInStep (Mg1 T1 T2 T3))}{step:T1→T2→T3→Nat→Nat→Nat→StateT SortSt Sem (ForInStep (Mg2 T1 T2 T3))}{F:Array Keyed→Prop}{P:T1→T2→T3→Prop}{z:T1→T2→T3→Nat}{m:Nat}{st st':SortSt}
theorem q_mergeD {c:Mg2 T1 T2 T3}(hc:LoopOk F P z m st c st'):wpS (model prog w) A E s (mergeD c) (EndB F P z m st) st':=by
 obtain ⟨r,v1,v2,v3,mg,ac,bc⟩:=c
 cases r with
 |some r=>exact wpS_pure ⟨hc.1,r,rfl,hc.2⟩
 |none=>exact wpS_bind (q_setG fun st4 g4=>wpS_pure ⟨rfl,hc.1.trans g4,hc.2⟩)
theorem LoopOk.next {τ:Type}{st3 st4:SortSt}{c:Option (Array Keyed)×T1×T2×T3×τ}(g:Gs st st3)(h:LoopOk F P z m st3 c st4):LoopOk F P z m st c st4:=⟨g.trans h.1,h.2⟩
theorem EndOk.turn {τ:Type}{k j:Nat}{st3 st4:SortSt}{r:ForInStep (Option (Array Keyed)×T1×T2×T3×τ)}(g:Gs st st3)(e:EndOk F P z k st3 r st4)(h1:m≤k)(h2:j≤k):EndC F P z m j st r st4:=by
 match r,e with
 | .done (some r,d),e=>exact ⟨g.trans e.1,e.2⟩
 | .done (none,v1,v2,v3,d),e=>exact ⟨g.trans e.1,e.2.1,Nat.le_trans h1 e.2.2⟩
 | .yield (some _,_),e=>exact e.2.elim
 | .yield (none,v1,v2,v3,d),e=>exact ⟨rfl,g.trans e.1,e.2.1,Nat.le_trans h2 e.2.2⟩
theorem q_mergeC {c:Mg1 T1 T2 T3}{mg:Nat}(hc:LoopOk F P z m st c st')(h2:∀ y1 y2 y3 mg ac bc st',Gs st st'→P y1 y2 y3→wpS (model prog w) A E s (step y1 y2 y3 mg ac bc) (EndOk F P z (z y1 y2 y3) st') st'):wpS (model prog w) A E s (mergeC N step mg c) (EndB F P z m st) st':=by
 obtain ⟨r,u1,u2,u3,ac,bc⟩:=c
 cases r with
 |some r=>exact wpS_pure ⟨hc.1,r,rfl,hc.2⟩
 |none=>
  obtain ⟨g',p',hz'⟩:=hc
  refine wpS_bind (wpS_lift (wpAny_rule ⟨rfl,wpS_bind (wpS_mono (wpS_forRange (I:=fun k c st3=>c.1=none∧LoopOk F P z m st' c st3) (Q:=fun c st3=>LoopOk F P z m st' c st3) (fun k c st3 _ hk hc=>?_) (fun c st3 hc=>hc.2) ⟨rfl,.refl,p',hz'⟩) fun c st3 hc=>q_mergeD (hc.next g'))⟩))
  obtain ⟨hn,g3,hp⟩:=hc
  obtain ⟨r,v1,v2,v3,mg,ac,bc⟩:=c
  obtain rfl:r=none:=hn
  have key:∀ mg',wpS (model prog w) A E s (step v1 v2 v3 mg' ac bc) (EndC F P z m m st') st3:=fun mg'=>wpS_mono (h2 v1 v2 v3 mg' ac bc st3 (g'.trans g3) hp.1) fun r st4 e=>e.turn g3 hp.2 hp.2
  dsimp only
  by_cases q:mg>1
  ·rw [if_pos q];exact wpS_mono (key _) fun r st4 e=>by cases r<;>exact e
  ·rw [if_neg q];exact wpS_mono (key _) fun r st4 e=>by cases r<;>exact e
theorem q_mergeB {c:Mg0 T1 T2 T3}{x:Nat}(hN:∀ y1 y2 y3,P y1 y2 y3→z y1 y2 y3<N)(hc:c.1=none∧LoopOk F P z x st c st')(h1:∀ y1 y2 y3 mg ac bc st',Gs st st'→P y1 y2 y3→wpS (model prog w) A E s (one y1 y2 y3 mg ac bc) (EndOk F P z (z y1 y2 y3+1) st') st')(h2:∀ y1 y2 y3 mg ac bc st',Gs st st'→P y1 y2 y3→wpS (model prog w) A E s (step y1 y2 y3 mg ac bc) (EndOk F P z (z y1 y2 y3) st') st'):wpS (model prog w) A E s (mergeB N one step c) (EndB F P z (x+1) st) st':=by
 obtain ⟨hn,g,hp⟩:=hc
 obtain ⟨r,y1,y2,y3,mg⟩:=c
 obtain rfl:r=none:=hn
 obtain ⟨p,hzx⟩:=hp
 refine wpS_bind (wpS_mono (wpS_forRange (I:=fun k c st''=>c.1=none∧LoopOk F P z (x+k) st' c st'') (Q:=fun c st''=>LoopOk F P z (x+1) st' c st'') (fun k c st'' _ hk hc=>?_) (fun c st'' hc=>?_) ⟨rfl,.refl,p,hzx⟩) fun c st'' hc=>q_mergeC (hc.next g) h2)
 ·obtain ⟨hn,g',hp⟩:=hc
  obtain ⟨r,u1,u2,u3,ac,bc⟩:=c
  obtain rfl:r=none:=hn
  obtain ⟨p',hz'⟩:=hp
  have hle:x+(k+1)≤z u1 u2 u3+1:=Nat.succ_le_succ hz'
  exact wpS_mono (h1 u1 u2 u3 mg ac bc st'' (g.trans g') p') fun r st3 e=>by
   have:=e.turn (m:=x+1) (j:=x+(k+1)) g' (Nat.le_trans (Nat.add_le_add_left (Nat.le_add_left 1 k) x) hle) hle
   cases r<;>exact this
 ·obtain ⟨hn,g',hp⟩:=hc
  obtain ⟨r,u1,u2,u3,ac,bc⟩:=c
  obtain rfl:r=none:=hn
  exact ⟨g',hp.1,Nat.le_trans (Nat.add_le_add_left (Nat.le_trans (Nat.lt_of_le_of_lt (Nat.zero_le _) (hN _ _ _ p)) (Nat.le_max_right 0 N)) x) hp.2⟩
end
theorem q_mergeL {N:Nat}{one:T1→T2→T3→Nat→Nat→Nat→StateT SortSt Sem (ForInStep (Mg1 T1 T2 T3))}{step:T1→T2→T3→Nat→Nat→Nat→StateT SortSt Sem (ForInStep (Mg2 T1 T2 T3))}{x1:T1}{x2:T2}{x3:T3}{st:SortSt}{Q:Array Keyed→SortSt→Prop}{F:Array Keyed→Prop}{P:T1→T2→T3→Prop}{z:T1→T2→T3→Nat}
  (hN:∀ y1 y2 y3,P y1 y2 y3→z y1 y2 y3<N) (h0:P x1 x2 x3) (h1:∀ y1 y2 y3 mg ac bc st',Gs st st'→P y1 y2 y3→wpS (model prog w) A E s (one y1 y2 y3 mg ac bc) (EndOk F P z (z y1 y2 y3+1) st') st') (h2:∀ y1 y2 y3 mg ac bc st',Gs st st'→P y1 y2 y3→wpS (model prog w) A E s (step y1 y2 y3 mg ac bc) (EndOk F P z (z y1 y2 y3) st') st')
  (h:∀ r st',Gs st st'→F r→Q r st'):wpS (model prog w) A E s (mergeL N one step x1 x2 x3) Q st:=by
 unfold mergeL
 refine wpS_bind (wpS_get (wpS_bind (wpS_mono (wpS_forRange (I:=fun x c st'=>c.1=none∧LoopOk F P z x st c st') (Q:=fun c st'=>Gs st st'∧∃ r,c.1=some r∧F r) (fun x c st' _ hx hz=>wpS_mono (q_mergeB hN hz h1 h2) fun r st4 e=>by cases r<;>exact e) (fun c st' hz=>?_) ⟨rfl,.refl,h0,Nat.zero_le _⟩) fun c st' hz=>?_)))
 ·obtain ⟨hn,g,hp⟩:=hz
  obtain ⟨r,y1,y2,y3,mg⟩:=c
  obtain rfl:r=none:=hn
  exact absurd (Nat.le_trans (Nat.le_max_right 0 N) hp.2) (Nat.not_le.mpr (hN _ _ _ hp.1))
 ·obtain ⟨g,r,e,hf⟩:=hz
  obtain ⟨r',d⟩:=c
  obtain rfl:r'=some r:=e
  exact wpS_pure (h r st' g hf)
end
end Mine
end
section
namespace Mine
open PySem PyProof.Rows
abbrev LoS:=ForInStep (Mg2 (Array Keyed) Nat Nat)
noncomputable def loEnd (a b out:Array Keyed)(ia ib mg ac bc:Nat):StateT SortSt Sem LoS:=do
 let x←elem' a ia
 if (ia+1+1==a.size)=true then pure (.done (some (out.push x++b.extract ib b.size++a.extract (ia+1) a.size),out.push x,ia+1,ib,mg,ac,bc))
 else if (decide (ac<7)&&decide (bc<7))=true then pure (.done (none,out.push x,ia+1,ib,mg,ac,bc))
 else pure (.yield (none,out.push x,ia+1,ib,mg,ac,bc))
noncomputable def loMid (a b out:Array Keyed)(ia ib mg ac bc:Nat):StateT SortSt Sem LoS:=do
 let x←elem' b ib
 if (ib+1==b.size)=true then pure (.done (some (out.push x++a.extract ia a.size++b.extract (ib+1) b.size),out.push x,ia,ib+1,mg,ac,bc))
 else do
  let y←elem' a ia
  let r←gallop' true y b (ib+1) (b.size-(ib+1)) 0
  match r with
  |some k=>
   if k>0 then
    if (ib+1+k==b.size)=true then pure (.done (some (out.push x++b.extract (ib+1) (ib+1+k)++a.extract ia a.size++b.extract (ib+1+k) b.size),out.push x++b.extract (ib+1) (ib+1+k),ia,ib+1+k,mg,ac,k))
    else loEnd a b (out.push x++b.extract (ib+1) (ib+1+k)) ia (ib+1+k) mg ac k
   else loEnd a b (out.push x) ia (ib+1) mg ac k
  |_=>pure (.done (some (out.push x++a.extract ia a.size++b.extract (ib+1) b.size),out.push x,ia,ib+1,mg,ac,bc))
noncomputable def loStep (a b:Array Keyed)(out:Array Keyed)(ia ib mg ac bc:Nat):StateT SortSt Sem LoS:=do
 setMinGallop' mg
 let x←elem' b ib
 let r←gallop' false x a ia (a.size-ia) 0
 match r with
 |some k=>
  if k>0 then
   if (ia+k+1==a.size)=true then pure (.done (some (out++a.extract ia (ia+k)++b.extract ib b.size++a.extract (ia+k) a.size),out++a.extract ia (ia+k),ia+k,ib,mg,k,bc))
   else if (ia+k==a.size)=true then pure (.done (some (out++a.extract ia (ia+k)++a.extract (ia+k) a.size++b.extract ib b.size),out++a.extract ia (ia+k),ia+k,ib,mg,k,bc))
   else loMid a b (out++a.extract ia (ia+k)) (ia+k) ib mg k bc
  else loMid a b out ia ib mg k bc
 |_=>pure (.done (some (out++a.extract ia a.size++b.extract ib b.size),out,ia,ib,mg,ac,bc))
noncomputable def loOne (a b:Array Keyed)(out:Array Keyed)(ia ib mg ac bc:Nat):StateT SortSt Sem (ForInStep (Mg1 (Array Keyed) Nat Nat)):=do
 let x←elem' b ib
 let y←elem' a ia
 let r←lt' x y
 match r with
 |some bWins=>
  if bWins=true then do
   let x←elem' b ib
   if (ib+1==b.size)=true then pure (.done (some (out.push x++a.extract ia a.size++b.extract (ib+1) b.size),out.push x,ia,ib+1,0,bc+1))
   else if bc+1≥mg then pure (.done (none,out.push x,ia,ib+1,0,bc+1))
   else pure (.yield (none,out.push x,ia,ib+1,0,bc+1))
  else do
   let y←elem' a ia
   if (ia+1+1==a.size)=true then pure (.done (some (out.push y++b.extract ib b.size++a.extract (ia+1) a.size),out.push y,ia+1,ib,ac+1,0))
   else if ac+1≥mg then pure (.done (none,out.push y,ia+1,ib,ac+1,0))
   else pure (.yield (none,out.push y,ia+1,ib,ac+1,0))
 |_=>pure (.done (some (out++a.extract ia a.size++b.extract ib b.size),out,ia,ib,ac,bc))
theorem mergeLo_parts (a b:Array Keyed):mergeLo' a b=(do
 liftM (rule "list.sort.merge-lo")
 let x←elem' b 0
 if (1==b.size)=true then pure (#[x]++a.extract 0 a.size++b.extract 1 b.size)
 else if (0+1==a.size)=true then pure (#[x]++b.extract 1 b.size++a.extract 0 a.size)
 else mergeL (a.size+b.size) (loOne a b) (loStep a b) #[x] 0 1):=by
 refine bind_congr' (m:=StateT SortSt Sem) rfl fun _=>bind_congr' (m:=StateT SortSt Sem) rfl fun x=>?_
 refine ite_congr rfl (fun _=>rfl) fun _=>ite_congr rfl (fun _=>rfl) fun _=>?_
 refine bind_congr' (m:=StateT SortSt Sem) rfl fun st=>bind_congr' (m:=StateT SortSt Sem) ?_ (fun s0=>by obtain ⟨r,o⟩:=s0;cases r<;>rfl)
 refine congrArg (forIn _ _) (funext fun _=>funext fun s0=>bind_congr' (m:=StateT SortSt Sem) rfl (fun s1=>?_))
 obtain ⟨r1,o1⟩:=s1
 cases r1 with
 |some r=>rfl
 |none=>exact bind_congr' (m:=StateT SortSt Sem) rfl fun _=>bind_congr' (m:=StateT SortSt Sem) rfl fun s2=>by obtain ⟨r,o⟩:=s2;cases r<;>rfl
end Mine
end
section
namespace Mine
open PySem PyProof.Rows
noncomputable def Mg (R:Keyed→Keyed→Prop)(all out la lb:List Keyed):Prop:=(out++(la++lb)).Perm all∧(out++la).Pairwise R∧(out++lb).Pairwise R
section
variable {R:Keyed→Keyed→Prop}{all out la lb p q o:List Keyed}
theorem Mg.a (M:Mg R all out la lb)(h:la=p++q)(e:o=out++p)(J:∀ x∈p,∀ y∈lb,R x y):Mg R all o q lb:=by
 subst e h
 have m2:((out++p)++q).Pairwise R:=by rw [List.append_assoc];exact M.2.1
 have m3:=List.pairwise_append.mp M.2.2
 exact ⟨by rw [List.append_assoc,←List.append_assoc p];exact M.1,m2,List.pairwise_append.mpr ⟨(List.pairwise_append.mp m2).1,m3.2.1,fun x hx y hy=>(List.mem_append.mp hx).elim (fun z=>m3.2.2 x z y hy) fun z=>J x z y hy⟩⟩
theorem Mg.swap (M:Mg R all out la lb):Mg R all out lb la:=⟨(List.perm_append_comm.append_left out).trans M.1,M.2.2,M.2.1⟩
theorem Mg.fin (M:Mg R all out la lb)(J:∀ x∈la,∀ y∈lb,R x y):(out++la++lb).Perm all∧(out++la++lb).Pairwise R:=by
 have m3:=List.pairwise_append.mp M.2.2
 exact ⟨by rw [List.append_assoc];exact M.1,List.pairwise_append.mpr ⟨M.2.1,m3.2.1,fun x hx y hy=>(List.mem_append.mp hx).elim (fun z=>m3.2.2 x z y hy) fun z=>J x z y hy⟩⟩
theorem Mg.lt (M:Mg R all out la lb)(h:0<la.length):out.length<all.length:=by
 have:=M.1.length_eq
 rw [List.length_append,List.length_append] at this
 exact this▸Nat.lt_add_of_pos_right (Nat.lt_of_lt_of_le h (Nat.le_add_right _ _))
end
theorem ext_toList {a:Array Keyed}{i j:Nat}:(a.extract i j).toList=(a.toList.drop i).take (j-i):=Array.toList_extract ..
theorem ext_all {a:Array Keyed}{i:Nat}:(a.extract i a.size).toList=a.toList.drop i:=by
 rw [ext_toList];exact List.take_of_length_le (by rw [List.length_drop,Array.length_toList];exact Nat.le_refl _)
theorem drop_at {a:Array Keyed}{i:Nat}(h:i<a.size):a.toList.drop i=a[i]::a.toList.drop (i+1):=by
 rw [List.drop_eq_getElem_cons (by rw [Array.length_toList];exact h),Array.getElem_toList]
theorem drop_ext {a:Array Keyed}{i k:Nat}:a.toList.drop i=(a.extract i (i+k)).toList++a.toList.drop (i+k):=by
 rw [ext_toList,Nat.add_sub_cancel_left,←List.drop_drop,List.take_append_drop]
section
variable {rk:Keyed→Nat}{a:Array Keyed}{i j lo hi:Nat}{x:Keyed}
theorem mem_seg (h:x∈(a.extract i j).toList):∃ n,i≤n∧n<j∧Ra rk a n=rk x:=by
 obtain ⟨n,hn,e⟩:=List.getElem_of_mem h
 rw [Array.length_toList,Array.size_extract] at hn
 have h1:i+n<min j a.size:=Nat.add_lt_of_lt_sub' hn
 refine ⟨i+n,Nat.le_add_right _ _,Nat.lt_of_lt_of_le h1 (Nat.min_le_left _ _),?_⟩
 rw [Ra_at (Nat.lt_of_lt_of_le h1 (Nat.min_le_right _ _)),←e,Array.getElem_toList,Array.getElem_extract]
theorem seg_le (S:Nb (· ≤ ·) (Ra rk a) lo hi)(h1:lo≤i)(h2:j≤hi)(h:x∈(a.extract i j).toList):rk x≤Ra rk a (j-1):=by
 obtain ⟨n,n1,n2,e⟩:=mem_seg (rk:=rk) h
 exact e▸S.le (Nat.le_trans h1 n1) (Nat.le_sub_one_of_lt n2) (Nat.lt_of_lt_of_le (Nat.sub_one_lt_of_lt n2) h2)
theorem seg_ge (S:Nb (· ≤ ·) (Ra rk a) lo hi)(h1:lo≤i)(h2:j≤hi)(h:x∈(a.extract i j).toList):Ra rk a i≤rk x:=by
 obtain ⟨n,n1,n2,e⟩:=mem_seg (rk:=rk) h
 exact e▸S.le h1 n1 (Nat.lt_of_lt_of_le n2 h2)
end
noncomputable def Rl (rk:Keyed→Nat)(x y:Keyed):Prop:=rk x≤rk y
structure Two (a₀:Array Keyed)(rk:Keyed→Nat)(a b:Array Keyed):Prop where
 ma:∀ x∈a,x∈a₀
 mb:∀ x∈b,x∈a₀
 sa:Nb (· ≤ ·) (Ra rk a) 0 a.size
 sb:Nb (· ≤ ·) (Ra rk b) 0 b.size
 first:Ra rk b 0≤Ra rk a 0
 last:Ra rk b (b.size-1)≤Ra rk a (a.size-1)
section
variable {rk:Keyed→Nat}{a b:Array Keyed}{i j k:Nat}
theorem J_up (Sa:Nb (· ≤ ·) (Ra rk a) 0 a.size)(Sb:Nb (· ≤ ·) (Ra rk b) 0 b.size)(hj:j≤a.size)(q:Ra rk a (j-1)≤Ra rk b k):∀ x∈(a.extract i j).toList,∀ y∈b.toList.drop k,Rl rk x y:=fun x hx y hy=>
 Nat.le_trans (seg_le Sa (Nat.zero_le _) hj hx) (Nat.le_trans q (seg_ge Sb (Nat.zero_le _) (Nat.le_refl _) (ext_all (a:=b) (i:=k)▸hy)))
theorem J_one (Sb:Nb (· ≤ ·) (Ra rk b) 0 b.size)(h:i<a.size)(q:Ra rk a i≤Ra rk b k):∀ x∈ [a[i]],∀ y∈b.toList.drop k,Rl rk x y:=fun x hx y hy=>by
 rw [List.mem_singleton.mp hx]
 exact Nat.le_trans (Ra_at (rk:=rk) h▸q) (seg_ge Sb (Nat.zero_le _) (Nat.le_refl _) (ext_all (a:=b) (i:=k)▸hy))
theorem J_nil {l:List Keyed}(h:k=a.size):∀ x∈l,∀ y∈a.toList.drop k,Rl rk x y:=fun x _ y hy=>by
 rw [h,List.drop_of_length_le (Nat.le_of_eq Array.length_toList)] at hy;cases hy
theorem Two.lastJ {a₀:Array Keyed}(T:Two a₀ rk a b)(h:i+1=a.size):∀ x∈b.toList.drop j,∀ y∈a.toList.drop i,Rl rk x y:=by
 rw [←ext_all (a:=b)]
 exact J_up T.sb T.sa (Nat.le_refl _) (by have:=T.last;rwa [←h] at this)
end
section
variable {rk:Keyed→Nat}{a b out:Array Keyed}{all lb:List Keyed}{i j k:Nat}
theorem Mg.push (M:Mg (Rl rk) all out.toList (a.toList.drop i) lb)(h:i<a.size)(J:∀ x∈ [a[i]],∀ y∈lb,Rl rk x y):Mg (Rl rk) all (out.push a[i]).toList (a.toList.drop (i+1)) lb:=M.a (p:=[a[i]]) (drop_at h) Array.toList_push J
theorem Mg.ext (M:Mg (Rl rk) all out.toList (a.toList.drop i) lb)(J:∀ x∈(a.extract i (i+k)).toList,∀ y∈lb,Rl rk x y):Mg (Rl rk) all (out++a.extract i (i+k)).toList (a.toList.drop (i+k)) lb:=M.a drop_ext Array.toList_append J
noncomputable def Fn (rk:Keyed→Nat)(a b r:Array Keyed):Prop:=r.toList.Perm (a.toList++b.toList)∧r.toList.Pairwise (Rl rk)
theorem Mg.up {c d:Array Keyed}(M:Mg (Rl rk) (c.toList++d.toList) out.toList (a.toList.drop i) (b.toList.drop j))(J:∀ x∈a.toList.drop i,∀ y∈b.toList.drop j,Rl rk x y):Fn rk c d (out++a.extract i a.size++b.extract j b.size):=by
 unfold Fn;rw [Array.toList_append,Array.toList_append,ext_all,ext_all];exact M.fin J
end
theorem nbeq {x y:Nat}(h:¬(x==y)=true):x≠y:=fun q=>h (beq_iff_eq.mpr q)
theorem ybeq {x y:Nat}(h:(x==y)=true):x=y:=beq_iff_eq.mp h
theorem le_push {m:Nat}{o:Array Keyed}{x:Keyed}(h:m≤o.size):m≤(o.push x).size:=by rw [Array.size_push];exact Nat.le_succ_of_le h
theorem le_push1 {m:Nat}{o:Array Keyed}{x:Keyed}(h:m≤o.size):m+1≤(o.push x).size:=by rw [Array.size_push];exact Nat.succ_le_succ h
theorem le_app {m:Nat}{o p:Array Keyed}(h:m≤o.size):m≤(o++p).size:=by rw [Array.size_append];exact Nat.le_add_right_of_le h
noncomputable def LoP (rk:Keyed→Nat)(a b out:Array Keyed)(ia ib:Nat):Prop:=Mg (Rl rk) (a.toList++b.toList) out.toList (a.toList.drop ia) (b.toList.drop ib)∧ia+1<a.size∧ib<b.size
section
variable {prog:Program}{w:World}{A:Around}{E:Value→Shared→Prop}{s:Shared}{κ:SortKind}{rk:Keyed→Nat}{a₀ a b out:Array Keyed}{ia ib mg ac bc m:Nat}{st₀ st:SortSt}
theorem q_loEnd (T:Two a₀ rk a b)(M:LoP rk a b out ia ib)(hq:Ra rk a ia≤Ra rk b ib)(hm:m≤out.size)(g:Gs st₀ st):wpS (model prog w) A E s (loEnd a b out ia ib mg ac bc) (EndOk (Fn rk a b) (LoP rk a b) (fun o _ _=>o.size) m st₀) st:=by
 obtain ⟨M,ha,hb⟩:=M
 unfold loEnd
 have M2:=M.push (Nat.lt_of_succ_lt ha) (J_one T.sb _ hq)
 refine wpS_bind (q_elem (Nat.lt_of_succ_lt ha) ?_)
 by_cases e:(ia+1+1==a.size)=true
 ·rw [if_pos e];exact wpS_pure ⟨g,M2.swap.up (T.lastJ (ybeq e))⟩
 rw [if_neg e]
 have L2:LoP rk a b (out.push a[ia]) (ia+1) ib:=⟨M2,Nat.lt_of_le_of_ne ha (nbeq e),hb⟩
 by_cases c:(decide (ac<7)&&decide (bc<7))=true
 ·rw [if_pos c];exact wpS_pure ⟨g,L2,le_push hm⟩
 ·rw [if_neg c];exact wpS_pure ⟨g,L2,le_push hm⟩
theorem q_loMid (L:LtOk prog w A E s κ a₀ rk)(T:Two a₀ rk a b)(hk:kindOf st=κ)(M:LoP rk a b out ia ib)(hq:Ra rk b ib≤Ra rk a ia)(hm:m≤out.size)(g:Gs st₀ st):wpS (model prog w) A E s (loMid a b out ia ib mg ac bc) (EndOk (Fn rk a b) (LoP rk a b) (fun o _ _=>o.size) m st₀) st:=by
 obtain ⟨M,ha,hb⟩:=M
 unfold loMid
 have M2:=M.swap.push hb (J_one T.sa _ hq)
 refine wpS_bind (q_elem hb ?_)
 by_cases e:(ib+1==b.size)=true
 ·rw [if_pos e];exact wpS_pure ⟨g,M2.swap.up (J_nil (ybeq e))⟩
 rw [if_neg e]
 have hb2:ib+1<b.size:=Nat.lt_of_le_of_ne hb (nbeq e)
 have ha':=Nat.lt_of_succ_lt ha
 refine wpS_bind (q_elem ha' (wpS_bind (q_gallop L hk (T.ma _ (Array.getElem_mem _)) T.mb (Nat.le_of_eq (Nat.add_sub_cancel' hb)) (Nat.sub_pos_of_lt hb2) fun k c=>?_)))
 have c:=cutL c
 rw [←Ra_at (rk:=rk) ha'] at c
 have hle:=Nat.add_le_of_le_sub' hb c.1
 have top:ib+1+k≠b.size→Ra rk a ia≤Ra rk b (ib+1+k):=fun z=>c.2.2 fun q=>z (by rw [q];exact Nat.add_sub_cancel' hb)
 dsimp only
 by_cases c0:k>0
 ·rw [if_pos c0]
  have M3:=M2.ext (J_up T.sb T.sa hle (c.2.1 c0))
  by_cases e2:(ib+1+k==b.size)=true
  ·rw [if_pos e2];exact wpS_pure ⟨g,M3.swap.up (J_nil (ybeq e2))⟩
  ·rw [if_neg e2];exact q_loEnd T ⟨M3.swap,ha,Nat.lt_of_le_of_ne hle (nbeq e2)⟩ (top (nbeq e2)) (le_app (le_push hm)) g
 ·rw [if_neg c0]
  obtain rfl:k=0:=Nat.eq_zero_of_not_pos c0
  exact q_loEnd T ⟨M2.swap,ha,hb2⟩ (top (Nat.ne_of_lt hb2)) (le_push hm) g
theorem q_loStep (L:LtOk prog w A E s κ a₀ rk)(T:Two a₀ rk a b)(hk:kindOf st=κ)(M:LoP rk a b out ia ib):wpS (model prog w) A E s (loStep a b out ia ib mg ac bc) (EndOk (Fn rk a b) (LoP rk a b) (fun o _ _=>o.size) out.size st) st:=by
 have M':=M
 obtain ⟨M,ha,hb⟩:=M
 have ha':=Nat.lt_of_succ_lt ha
 unfold loStep
 refine wpS_bind (q_setG fun st' g=>wpS_bind (q_elem hb (wpS_bind (q_gallop L (g.1.trans hk) (T.mb _ (Array.getElem_mem _)) T.ma (Nat.le_of_eq (Nat.add_sub_cancel' (Nat.le_of_lt ha'))) (Nat.sub_pos_of_lt ha') fun k c=>?_))))
 have c:=cutR c
 rw [←Ra_at (rk:=rk) hb] at c
 have hle:=Nat.add_le_of_le_sub' (Nat.le_of_lt ha') c.1
 have top:ia+k≠a.size→Ra rk b ib≤Ra rk a (ia+k):=fun z=>c.2.2 fun q=>z (by rw [q];exact Nat.add_sub_cancel' (Nat.le_of_lt ha'))
 dsimp only
 by_cases c0:k>0
 ·rw [if_pos c0]
  have M3:=M.ext (J_up T.sa T.sb hle (c.2.1 c0))
  by_cases e:(ia+k+1==a.size)=true
  ·rw [if_pos e];exact wpS_pure ⟨g,M3.swap.up (T.lastJ (ybeq e))⟩
  rw [if_neg e]
  by_cases e2:(ia+k==a.size)=true
  ·rw [if_pos e2];exact wpS_pure ⟨g,M3.up fun x hx y hy=>by rw [ybeq e2,List.drop_of_length_le (Nat.le_of_eq Array.length_toList)] at hx;cases hx⟩
  rw [if_neg e2]
  exact q_loMid L T (g.1.trans hk) ⟨M3,Nat.lt_of_le_of_ne (Nat.lt_of_le_of_ne hle (nbeq e2)) (nbeq e),hb⟩ (top (nbeq e2)) (le_app (Nat.le_refl _)) g
 ·rw [if_neg c0]
  obtain rfl:k=0:=Nat.eq_zero_of_not_pos c0
  exact q_loMid L T (g.1.trans hk) M' (top (Nat.ne_of_lt ha')) (Nat.le_refl _) g
theorem q_loOne (L:LtOk prog w A E s κ a₀ rk)(T:Two a₀ rk a b)(hk:kindOf st=κ)(M:LoP rk a b out ia ib):wpS (model prog w) A E s (loOne a b out ia ib mg ac bc) (EndOk (Fn rk a b) (LoP rk a b) (fun o _ _=>o.size) (out.size+1) st) st:=by
 obtain ⟨M,ha,hb⟩:=M
 have ha':=Nat.lt_of_succ_lt ha
 unfold loOne
 refine wpS_bind (q_elem hb (wpS_bind (q_elem ha' (wpS_bind (L _ _ _ _ (T.mb _ (Array.getElem_mem _)) (T.ma _ (Array.getElem_mem _)) hk fun x hx=>?_)))))
 rw [←Ra_at (rk:=rk) hb,←Ra_at (rk:=rk) ha'] at hx
 cases x with
 |true=>
  refine wpS_bind (q_elem hb ?_)
  have M2:=M.swap.push hb (J_one T.sa _ (Nat.le_of_lt (of_decide_eq_true hx.symm)))
  by_cases e:(ib+1==b.size)=true
  ·rw [if_pos e];exact wpS_pure ⟨.refl,M2.swap.up (J_nil (ybeq e))⟩
  rw [if_neg e]
  have L2:LoP rk a b (out.push b[ib]) ia (ib+1):=⟨M2.swap,ha,Nat.lt_of_le_of_ne hb (nbeq e)⟩
  by_cases c:bc+1≥mg
  ·rw [if_pos c];exact wpS_pure ⟨.refl,L2,le_push1 (Nat.le_refl _)⟩
  ·rw [if_neg c];exact wpS_pure ⟨.refl,L2,le_push1 (Nat.le_refl _)⟩
 |false=>
  refine wpS_bind (q_elem ha' ?_)
  have M2:=M.push ha' (J_one T.sb _ (Nat.not_lt.mp (of_decide_eq_false hx.symm)))
  by_cases e:(ia+1+1==a.size)=true
  ·rw [if_pos e];exact wpS_pure ⟨.refl,M2.swap.up (T.lastJ (ybeq e))⟩
  rw [if_neg e]
  have L2:LoP rk a b (out.push a[ia]) (ia+1) ib:=⟨M2,Nat.lt_of_le_of_ne ha (nbeq e),hb⟩
  by_cases c:ac+1≥mg
  ·rw [if_pos c];exact wpS_pure ⟨.refl,L2,le_push1 (Nat.le_refl _)⟩
  ·rw [if_neg c];exact wpS_pure ⟨.refl,L2,le_push1 (Nat.le_refl _)⟩
theorem len_all {a b:Array Keyed}:(a.toList++b.toList).length=a.size+b.size:=List.length_append
theorem pw_seg {lo hi i j:Nat}(S:Nb (· ≤ ·) (Ra rk a) lo hi)(h1:lo≤i)(h2:j≤hi):(a.extract i j).toList.Pairwise (Rl rk):=List.pairwise_iff_getElem.mpr fun x y hx hy hxy=>by
 rw [Array.length_toList,Array.size_extract] at hx hy
 have q1:=Nat.add_lt_of_lt_sub' hx
 have q2:=Nat.add_lt_of_lt_sub' hy
 have:=S.le (Nat.le_trans h1 (Nat.le_add_right i x)) (Nat.add_le_add_left (Nat.le_of_lt hxy) i) (Nat.lt_of_lt_of_le q2 (Nat.le_trans (Nat.min_le_left _ _) h2))
 rw [Ra_at (Nat.lt_of_lt_of_le q1 (Nat.min_le_right _ _)),Ra_at (Nat.lt_of_lt_of_le q2 (Nat.min_le_right _ _))] at this
 rw [Array.getElem_toList,Array.getElem_toList,Array.getElem_extract,Array.getElem_extract];exact this
theorem pw_all {a:Array Keyed}(S:Nb (· ≤ ·) (Ra rk a) 0 a.size):a.toList.Pairwise (Rl rk):=by
 have:=pw_seg S (Nat.zero_le 0) (Nat.le_refl _);rwa [ext_all] at this
theorem q_mergeLo (L:LtOk prog w A E s κ a₀ rk)(T:Two a₀ rk a b){Q:Array Keyed→SortSt→Prop}(hk:kindOf st=κ)(ha:0<a.size)(hb:0<b.size)(h:∀ r st',Gs st st'→Fn rk a b r→Q r st'):wpS (model prog w) A E s (mergeLo' a b) Q st:=by
 rw [mergeLo_parts]
 refine wpS_bind (wpS_lift (wpAny_rule ⟨rfl,wpS_bind (q_elem hb ?_)⟩))
 have M:Mg (Rl rk) (a.toList++b.toList) #[b[0]].toList (a.toList.drop 0) (b.toList.drop 1):=(Mg.push (out:=#[]) (i:=0) ⟨(show (b.toList++a.toList).Perm (a.toList++b.toList) from List.perm_append_comm),pw_all T.sb,pw_all T.sa⟩ hb (J_one T.sa _ T.first)).swap
 by_cases e:(1==b.size)=true
 ·rw [if_pos e];exact wpS_pure (h _ _ .refl (M.up (J_nil (ybeq e))))
 rw [if_neg e]
 by_cases e2:(0+1==a.size)=true
 ·rw [if_pos e2];exact wpS_pure (h _ _ .refl (M.swap.up (T.lastJ (ybeq e2))))
 rw [if_neg e2]
 exact q_mergeL (F:=Fn rk a b) (P:=LoP rk a b) (z:=fun o _ _=>o.size) (fun o x y p=>len_all (a:=a)▸p.1.lt (by rw [List.length_drop];exact Nat.sub_pos_of_lt (Nat.lt_of_succ_lt p.2.1))) ⟨M,Nat.lt_of_le_of_ne ha (nbeq e2),Nat.lt_of_le_of_ne hb (nbeq e)⟩
  (fun _ _ _ _ _ _ _ g p=>q_loOne L T (g.1.trans hk) p) (fun _ _ _ _ _ _ _ g p=>q_loStep L T (g.1.trans hk) p) h
end
end Mine
end
section
namespace Mine
open PySem PyProof.Rows
abbrev HiS:=ForInStep (Mg2 Nat Nat (Array Keyed))
noncomputable def hiEnd (a b:Array Keyed)(na nb:Nat)(out:Array Keyed)(mg ac bc:Nat):StateT SortSt Sem HiS:=do
 let x←elem' a (na-1)
 if (na-1==0)=true then pure (.done (some (a.extract 0 (na-1)++b.extract 0 nb++(out.push x).reverse),na-1,nb,out.push x,mg,ac,bc))
 else if (decide (ac<7)&&decide (bc<7))=true then pure (.done (none,na-1,nb,out.push x,mg,ac,bc))
 else pure (.yield (none,na-1,nb,out.push x,mg,ac,bc))
noncomputable def hiMid (a b:Array Keyed)(na nb:Nat)(out:Array Keyed)(mg ac bc:Nat):StateT SortSt Sem HiS:=do
 let x←elem' b (nb-1)
 if (nb-1==1)=true then pure (.done (some (b.extract 0 (nb-1)++a.extract 0 na++(out.push x).reverse),na,nb-1,out.push x,mg,ac,bc))
 else do
  let y←elem' a (na-1)
  let r←gallop' true y b 0 (nb-1) (nb-1-1)
  match r with
  |some k=>
   if nb-1-k>0 then
    if (k==1)=true then pure (.done (some (b.extract 0 k++a.extract 0 na++(out.push x++(b.extract k (nb-1)).reverse).reverse),na,k,out.push x++(b.extract k (nb-1)).reverse,mg,ac,nb-1-k))
    else if (k==0)=true then pure (.done (some (a.extract 0 na++b.extract 0 k++(out.push x++(b.extract k (nb-1)).reverse).reverse),na,k,out.push x++(b.extract k (nb-1)).reverse,mg,ac,nb-1-k))
    else hiEnd a b na k (out.push x++(b.extract k (nb-1)).reverse) mg ac (nb-1-k)
   else hiEnd a b na (nb-1) (out.push x) mg ac (nb-1-k)
  |_=>pure (.done (some (a.extract 0 na++b.extract 0 (nb-1)++(out.push x).reverse),na,nb-1,out.push x,mg,ac,bc))
noncomputable def hiStep (a b:Array Keyed)(na nb:Nat)(out:Array Keyed)(mg ac bc:Nat):StateT SortSt Sem HiS:=do
 setMinGallop' mg
 let x←elem' b (nb-1)
 let r←gallop' false x a 0 na (na-1)
 match r with
 |some k=>
  if na-k>0 then
   if (k==0)=true then pure (.done (some (a.extract 0 k++b.extract 0 nb++(out++(a.extract k na).reverse).reverse),k,nb,out++(a.extract k na).reverse,mg,na-k,bc))
   else hiMid a b k nb (out++(a.extract k na).reverse) mg (na-k) bc
  else hiMid a b na nb out mg (na-k) bc
 |_=>pure (.done (some (a.extract 0 na++b.extract 0 nb++out.reverse),na,nb,out,mg,ac,bc))
noncomputable def hiOne (a b:Array Keyed)(na nb:Nat)(out:Array Keyed)(mg ac bc:Nat):StateT SortSt Sem (ForInStep (Mg1 Nat Nat (Array Keyed))):=do
 let x←elem' b (nb-1)
 let y←elem' a (na-1)
 let r←lt' x y
 match r with
 |some aWins=>
  if aWins=true then do
   let y←elem' a (na-1)
   if (na-1==0)=true then pure (.done (some (a.extract 0 (na-1)++b.extract 0 nb++(out.push y).reverse),na-1,nb,out.push y,ac+1,0))
   else if ac+1≥mg then pure (.done (none,na-1,nb,out.push y,ac+1,0))
   else pure (.yield (none,na-1,nb,out.push y,ac+1,0))
  else do
   let x←elem' b (nb-1)
   if (nb-1==1)=true then pure (.done (some (b.extract 0 (nb-1)++a.extract 0 na++(out.push x).reverse),na,nb-1,out.push x,0,bc+1))
   else if bc+1≥mg then pure (.done (none,na,nb-1,out.push x,0,bc+1))
   else pure (.yield (none,na,nb-1,out.push x,0,bc+1))
 |_=>pure (.done (some (a.extract 0 na++b.extract 0 nb++out.reverse),na,nb,out,ac,bc))
theorem mergeHi_parts (a b:Array Keyed):mergeHi' a b=(do
 liftM (rule "list.sort.merge-hi")
 let x←elem' a (a.size-1)
 if (a.size-1==0)=true then pure (a.extract 0 (a.size-1)++b.extract 0 b.size++ #[x].reverse)
 else if (b.size==1)=true then pure (b.extract 0 b.size++a.extract 0 (a.size-1)++ #[x].reverse)
 else mergeL (a.size+b.size) (hiOne a b) (hiStep a b) (a.size-1) b.size #[x]):=by
 refine bind_congr' (m:=StateT SortSt Sem) rfl fun _=>bind_congr' (m:=StateT SortSt Sem) rfl fun x=>?_
 refine ite_congr rfl (fun _=>rfl) fun _=>ite_congr rfl (fun _=>rfl) fun _=>?_
 refine bind_congr' (m:=StateT SortSt Sem) rfl fun st=>bind_congr' (m:=StateT SortSt Sem) ?_ (fun s0=>by obtain ⟨r,o⟩:=s0;cases r<;>rfl)
 refine congrArg (forIn _ _) (funext fun _=>funext fun s0=>bind_congr' (m:=StateT SortSt Sem) rfl (fun s1=>?_))
 obtain ⟨r1,o1⟩:=s1
 cases r1 with
 |some r=>rfl
 |none=>exact bind_congr' (m:=StateT SortSt Sem) rfl fun _=>bind_congr' (m:=StateT SortSt Sem) rfl fun s2=>by obtain ⟨r,o⟩:=s2;cases r<;>rfl
theorem ext_take {a:Array Keyed}{n:Nat}:(a.extract 0 n).toList=a.toList.take n:=by rw [ext_toList];rfl
noncomputable def bk (a:Array Keyed)(n:Nat):List Keyed:=(a.toList.take n).reverse
theorem bk_at {a:Array Keyed}{n:Nat}(h1:1≤n)(h:n-1<a.size):bk a n=[a[n-1]]++bk a (n-1):=by
 cases n with
 |zero=>cases h1
 |succ n=>unfold bk;rw [List.take_succ_eq_append_getElem (by rw [Array.length_toList];exact h),Array.getElem_toList,List.reverse_append];rfl
theorem bk_ext {a:Array Keyed}{k n:Nat}(h:k≤n):bk a n=(a.extract k n).toList.reverse++bk a k:=by
 unfold bk;rw [ext_toList,←List.reverse_append,←List.take_add,Nat.add_sub_cancel' h]
theorem bk_mem {a:Array Keyed}{n:Nat}{x:Keyed}(h:x∈bk a n):x∈(a.extract 0 n).toList:=by rw [ext_take];exact List.mem_reverse.mp h
noncomputable def Rg (rk:Keyed→Nat)(x y:Keyed):Prop:=rk y≤rk x
section
variable {rk:Keyed→Nat}{a b out:Array Keyed}{all lb:List Keyed}{i j k n:Nat}
theorem K_dn (Sa:Nb (· ≤ ·) (Ra rk a) 0 a.size)(Sb:Nb (· ≤ ·) (Ra rk b) 0 b.size)(hn:n≤a.size)(hj:j≤b.size)(q:Ra rk b (j-1)≤Ra rk a k):∀ x∈(a.extract k n).toList.reverse,∀ y∈bk b j,Rg rk x y:=fun x hx y hy=>
 Nat.le_trans (seg_le Sb (Nat.zero_le _) hj (bk_mem hy)) (Nat.le_trans q (seg_ge Sa (Nat.zero_le _) hn (List.mem_reverse.mp hx)))
theorem K_one (Sb:Nb (· ≤ ·) (Ra rk b) 0 b.size)(h:i<a.size)(hj:j≤b.size)(q:Ra rk b (j-1)≤Ra rk a i):∀ x∈ [a[i]],∀ y∈bk b j,Rg rk x y:=fun x hx y hy=>by
 rw [List.mem_singleton.mp hx]
 exact Nat.le_trans (seg_le Sb (Nat.zero_le _) hj (bk_mem hy)) (Ra_at (rk:=rk) h▸q)
theorem bk_nil (h:n=0){x:Keyed}{P:Prop}(hx:x∈bk a n):P:=by rw [h] at hx;cases hx
theorem Two.firstJ {a₀:Array Keyed}(T:Two a₀ rk a b)(hb:0<b.size)(hn:n≤a.size)(h:j=1):∀ x∈bk a n,∀ y∈bk b j,Rg rk x y:=fun x hx y hy=>by
 subst h;exact Nat.le_trans (seg_le T.sb (Nat.zero_le _) hb (bk_mem hy)) (Nat.le_trans T.first (seg_ge T.sa (Nat.zero_le _) hn (bk_mem hx)))
theorem Mg.pushH (M:Mg (Rg rk) all out.toList (bk a n) lb)(h1:1≤n)(h:n-1<a.size)(J:∀ x∈ [a[n-1]],∀ y∈lb,Rg rk x y):Mg (Rg rk) all (out.push a[n-1]).toList (bk a (n-1)) lb:=M.a (bk_at h1 h) Array.toList_push J
theorem Mg.extH (M:Mg (Rg rk) all out.toList (bk a n) lb)(h:k≤n)(J:∀ x∈(a.extract k n).toList.reverse,∀ y∈lb,Rg rk x y):Mg (Rg rk) all (out++(a.extract k n).reverse).toList (bk a k) lb:=M.a (bk_ext h) (by rw [Array.toList_append,Array.toList_reverse]) J
theorem Mg.down {c d:Array Keyed}(M:Mg (Rg rk) (c.toList++d.toList) out.toList (bk a i) (bk b j))(J:∀ x∈bk b j,∀ y∈bk a i,Rg rk x y):Fn rk c d (a.extract 0 i++b.extract 0 j++out.reverse):=by
 have m:=M.swap.fin J
 have e:(a.extract 0 i++b.extract 0 j++out.reverse).toList=(out.toList++bk b j++bk a i).reverse:=by
  rw [Array.toList_append,Array.toList_append,ext_take,ext_take,Array.toList_reverse,List.reverse_append,List.reverse_append];unfold bk;rw [List.reverse_reverse,List.reverse_reverse,List.append_assoc]
 exact ⟨e▸(List.reverse_perm _).trans m.1,e▸List.pairwise_reverse.mpr m.2⟩
end
noncomputable def HiP (rk:Keyed→Nat)(a b:Array Keyed)(na nb:Nat)(out:Array Keyed):Prop:=Mg (Rg rk) (a.toList++b.toList) out.toList (bk a na) (bk b nb)∧(1≤na∧na≤a.size)∧2≤nb∧nb≤b.size
theorem pre_lt {n m:Nat}(h1:1≤n)(h:n≤m):n-1<m:=Nat.lt_of_lt_of_le (Nat.sub_lt h1 Nat.one_pos) h
theorem pos_of {n:Nat}(h:¬(n==0)=true):1≤n:=Nat.pos_of_ne_zero (nbeq h)
section
variable {prog:Program}{w:World}{A:Around}{E:Value→Shared→Prop}{s:Shared}{κ:SortKind}{rk:Keyed→Nat}{a₀ a b out:Array Keyed}{na nb mg ac bc m:Nat}{st₀ st:SortSt}
theorem q_hiEnd (T:Two a₀ rk a b)(M:HiP rk a b na nb out)(hq:Ra rk b (nb-1)≤Ra rk a (na-1))(hm:m≤out.size)(g:Gs st₀ st):wpS (model prog w) A E s (hiEnd a b na nb out mg ac bc) (EndOk (Fn rk a b) (HiP rk a b) (fun _ _ o=>o.size) m st₀) st:=by
 obtain ⟨M,⟨h1,h2⟩,hb⟩:=M
 unfold hiEnd
 have hp:=pre_lt h1 h2
 have M2:=M.pushH h1 hp (K_one T.sb hp hb.2 hq)
 refine wpS_bind (q_elem hp ?_)
 by_cases e:(na-1==0)=true
 ·rw [if_pos e];exact wpS_pure ⟨g,M2.down fun _ _ _ hy=>bk_nil (ybeq e) hy⟩
 rw [if_neg e]
 have L2:HiP rk a b (na-1) nb (out.push a[na-1]):=⟨M2,⟨pos_of e,Nat.le_of_lt hp⟩,hb⟩
 by_cases c:(decide (ac<7)&&decide (bc<7))=true
 ·rw [if_pos c];exact wpS_pure ⟨g,L2,le_push hm⟩
 ·rw [if_neg c];exact wpS_pure ⟨g,L2,le_push hm⟩
theorem two_of {n:Nat}(h:2≤n)(e:¬(n-1==1)=true):2≤n-1:=Nat.lt_of_le_of_ne (Nat.le_sub_one_of_lt h) fun q=>nbeq e q.symm
theorem two_of' {n:Nat}(e:¬(n==1)=true)(e2:¬(n==0)=true):2≤n:=Nat.lt_of_le_of_ne (pos_of e2) fun q=>nbeq e q.symm
theorem eq_of {k n:Nat}(h:k≤n)(c:¬ n-k>0):k=n:=Nat.le_antisymm h (Nat.le_of_sub_eq_zero (Nat.eq_zero_of_not_pos c))
theorem q_hiMid (L:LtOk prog w A E s κ a₀ rk)(T:Two a₀ rk a b)(hk:kindOf st=κ)(M:HiP rk a b na nb out)(hq:Ra rk a (na-1)≤Ra rk b (nb-1))(hm:m≤out.size)(g:Gs st₀ st):wpS (model prog w) A E s (hiMid a b na nb out mg ac bc) (EndOk (Fn rk a b) (HiP rk a b) (fun _ _ o=>o.size) m st₀) st:=by
 obtain ⟨M,ha,h1,h2⟩:=M
 unfold hiMid
 have hb:=pre_lt (Nat.le_of_succ_le h1) h2
 have hb0:=Nat.lt_of_le_of_lt (Nat.zero_le _) hb
 have M2:=M.swap.pushH (Nat.le_of_succ_le h1) hb (K_one T.sa hb ha.2 hq)
 refine wpS_bind (q_elem hb ?_)
 by_cases e:(nb-1==1)=true
 ·rw [if_pos e];exact wpS_pure ⟨g,M2.down (T.firstJ hb0 ha.2 (ybeq e))⟩
 rw [if_neg e]
 have hb2:=two_of h1 e
 have hpa:=pre_lt ha.1 ha.2
 refine wpS_bind (q_elem hpa (wpS_bind (q_gallop L hk (T.ma _ (Array.getElem_mem _)) T.mb (by rw [Nat.zero_add];exact Nat.le_of_lt hb) (pre_lt (Nat.le_of_succ_le hb2) (Nat.le_refl _)) fun k c=>?_)))
 have c:=cutL c
 rw [←Ra_at (rk:=rk) hpa,Nat.zero_add] at c
 dsimp only
 by_cases c0:nb-1-k>0
 ·rw [if_pos c0]
  have M3:=M2.extH c.1 (K_dn T.sb T.sa (Nat.le_of_lt hb) ha.2 (c.2.2 (Nat.ne_of_lt (Nat.lt_of_sub_pos c0))))
  by_cases e2:(k==1)=true
  ·rw [if_pos e2];exact wpS_pure ⟨g,M3.down (T.firstJ hb0 ha.2 (ybeq e2))⟩
  rw [if_neg e2]
  by_cases e3:(k==0)=true
  ·rw [if_pos e3];exact wpS_pure ⟨g,M3.swap.down fun _ hx _ _=>bk_nil (ybeq e3) hx⟩
  ·rw [if_neg e3];exact q_hiEnd T ⟨M3.swap,ha,two_of' e2 e3,Nat.le_trans c.1 (Nat.le_of_lt hb)⟩ (c.2.1 (pos_of e3)) (le_app (le_push hm)) g
 ·rw [if_neg c0]
  exact q_hiEnd T ⟨M2.swap,ha,hb2,Nat.le_of_lt hb⟩ (by have:=eq_of c.1 c0;subst this;exact c.2.1 (Nat.le_of_succ_le hb2)) (le_push hm) g
theorem q_hiStep (L:LtOk prog w A E s κ a₀ rk)(T:Two a₀ rk a b)(hk:kindOf st=κ)(M:HiP rk a b na nb out):wpS (model prog w) A E s (hiStep a b na nb out mg ac bc) (EndOk (Fn rk a b) (HiP rk a b) (fun _ _ o=>o.size) out.size st) st:=by
 have M':=M
 obtain ⟨M,ha,hb⟩:=M
 unfold hiStep
 have hpb:=pre_lt (Nat.le_of_succ_le hb.1) hb.2
 refine wpS_bind (q_setG fun st' g=>wpS_bind (q_elem hpb (wpS_bind (q_gallop L (g.1.trans hk) (T.mb _ (Array.getElem_mem _)) T.ma (by rw [Nat.zero_add];exact ha.2) (pre_lt ha.1 (Nat.le_refl _)) fun k c=>?_))))
 have c:=cutR c
 rw [←Ra_at (rk:=rk) hpb,Nat.zero_add] at c
 dsimp only
 by_cases c0:na-k>0
 ·rw [if_pos c0]
  have M3:=M.extH c.1 (K_dn T.sa T.sb ha.2 hb.2 (c.2.2 (Nat.ne_of_lt (Nat.lt_of_sub_pos c0))))
  by_cases e:(k==0)=true
  ·rw [if_pos e];exact wpS_pure ⟨g,M3.down fun _ _ _ hy=>bk_nil (ybeq e) hy⟩
  ·rw [if_neg e];exact q_hiMid L T (g.1.trans hk) ⟨M3,⟨pos_of e,Nat.le_trans c.1 ha.2⟩,hb⟩ (c.2.1 (pos_of e)) (le_app (Nat.le_refl _)) g
 ·rw [if_neg c0];exact q_hiMid L T (g.1.trans hk) M' (by have:=eq_of c.1 c0;subst this;exact c.2.1 ha.1) (Nat.le_refl _) g
theorem q_hiOne (L:LtOk prog w A E s κ a₀ rk)(T:Two a₀ rk a b)(hk:kindOf st=κ)(M:HiP rk a b na nb out):wpS (model prog w) A E s (hiOne a b na nb out mg ac bc) (EndOk (Fn rk a b) (HiP rk a b) (fun _ _ o=>o.size) (out.size+1) st) st:=by
 obtain ⟨M,ha,hb⟩:=M
 have hpa:=pre_lt ha.1 ha.2
 have hpb:=pre_lt (Nat.le_of_succ_le hb.1) hb.2
 unfold hiOne
 refine wpS_bind (q_elem hpb (wpS_bind (q_elem hpa (wpS_bind (L _ _ _ _ (T.mb _ (Array.getElem_mem _)) (T.ma _ (Array.getElem_mem _)) hk fun x hx=>?_)))))
 rw [←Ra_at (rk:=rk) hpb,←Ra_at (rk:=rk) hpa] at hx
 cases x with
 |true=>
  refine wpS_bind (q_elem hpa ?_)
  have M2:=M.pushH ha.1 hpa (K_one T.sb hpa hb.2 (Nat.le_of_lt (of_decide_eq_true hx.symm)))
  by_cases e:(na-1==0)=true
  ·rw [if_pos e];exact wpS_pure ⟨.refl,M2.down fun _ _ _ hy=>bk_nil (ybeq e) hy⟩
  rw [if_neg e]
  have L2:HiP rk a b (na-1) nb (out.push a[na-1]):=⟨M2,⟨pos_of e,Nat.le_of_lt hpa⟩,hb⟩
  by_cases c:ac+1≥mg
  ·rw [if_pos c];exact wpS_pure ⟨.refl,L2,le_push1 (Nat.le_refl _)⟩
  ·rw [if_neg c];exact wpS_pure ⟨.refl,L2,le_push1 (Nat.le_refl _)⟩
 |false=>
  refine wpS_bind (q_elem hpb ?_)
  have M2:=M.swap.pushH (Nat.le_of_succ_le hb.1) hpb (K_one T.sa hpb ha.2 (Nat.not_lt.mp (of_decide_eq_false hx.symm)))
  by_cases e:(nb-1==1)=true
  ·rw [if_pos e];exact wpS_pure ⟨.refl,M2.down (T.firstJ (Nat.lt_of_le_of_lt (Nat.zero_le _) hpb) ha.2 (ybeq e))⟩
  rw [if_neg e]
  have L2:HiP rk a b na (nb-1) (out.push b[nb-1]):=⟨M2.swap,ha,two_of hb.1 e,Nat.le_of_lt hpb⟩
  by_cases c:bc+1≥mg
  ·rw [if_pos c];exact wpS_pure ⟨.refl,L2,le_push1 (Nat.le_refl _)⟩
  ·rw [if_neg c];exact wpS_pure ⟨.refl,L2,le_push1 (Nat.le_refl _)⟩
theorem bk_all {a:Array Keyed}:bk a a.size=a.toList.reverse:=congrArg List.reverse (List.take_of_length_le (Nat.le_refl _))
theorem bk_pw {a:Array Keyed}(S:Nb (· ≤ ·) (Ra rk a) 0 a.size):(bk a a.size).Pairwise (Rg rk):=by rw [bk_all];exact List.pairwise_reverse.mpr (pw_all S)
theorem q_mergeHi (L:LtOk prog w A E s κ a₀ rk)(T:Two a₀ rk a b){Q:Array Keyed→SortSt→Prop}(hk:kindOf st=κ)(ha:0<a.size)(hb:0<b.size)(h:∀ r st',Gs st st'→Fn rk a b r→Q r st'):wpS (model prog w) A E s (mergeHi' a b) Q st:=by
 rw [mergeHi_parts]
 have hp:=pre_lt ha (Nat.le_refl _)
 refine wpS_bind (wpS_lift (wpAny_rule ⟨rfl,wpS_bind (q_elem hp ?_)⟩))
 have m0:(bk a a.size++bk b b.size).Perm (a.toList++b.toList):=by rw [bk_all,bk_all];exact (List.reverse_perm _).append (List.reverse_perm _)
 have M:Mg (Rg rk) (a.toList++b.toList) #[a[a.size-1]].toList (bk a (a.size-1)) (bk b b.size):=Mg.pushH (out:=#[]) ⟨m0,bk_pw T.sa,bk_pw T.sb⟩ ha hp (K_one T.sb hp (Nat.le_refl _) T.last)
 by_cases e:(a.size-1==0)=true
 ·rw [if_pos e];exact wpS_pure (h _ _ .refl (M.down fun _ _ _ hy=>bk_nil (ybeq e) hy))
 rw [if_neg e]
 by_cases e2:(b.size==1)=true
 ·rw [if_pos e2];exact wpS_pure (h _ _ .refl (M.swap.down (T.firstJ hb (Nat.sub_le _ _) (ybeq e2))))
 rw [if_neg e2]
 exact q_mergeL (F:=Fn rk a b) (P:=HiP rk a b) (z:=fun _ _ o=>o.size) (fun x y o p=>len_all (a:=a)▸p.1.lt (by unfold bk;rw [List.length_reverse,List.length_take,Array.length_toList,Nat.min_eq_left p.2.1.2];exact p.2.1.1)) ⟨M,⟨pos_of e,Nat.le_of_lt hp⟩,Nat.lt_of_le_of_ne hb fun q=>nbeq e2 q.symm,Nat.le_refl _⟩
  (fun _ _ _ _ _ _ _ g p=>q_hiOne L T (g.1.trans hk) p) (fun _ _ _ _ _ _ _ g p=>q_hiStep L T (g.1.trans hk) p) h
end
end Mine
end
section
namespace Mine
open PySem PyProof.Rows
theorem set_mid {P R:List Keyed}{q p:Keyed}:(P++q::R).set P.length p=P++p::R:=by
 rw [List.set_append_right _ _ (Nat.le_refl _),Nat.sub_self,List.set_cons_zero]
theorem wr_go {off:Nat}:∀(l Q:List Keyed) (n:Nat) (a:Array Keyed) (P R:List Keyed),a.toList=P++(Q++R)→P.length=off+n→Q.length=l.length→((l.zipIdx n).foldl (fun a (x:Keyed×Nat)=>a.setIfInBounds (off+x.2) x.1) a).toList=P++(l++R):=fun l=>by
 induction l with
 |nil=>exact fun Q n a P R e _ h2=>by rw [List.eq_nil_of_length_eq_zero h2] at e;exact e
 |cons p l ih=>
  intro Q n a P R e h1 h2
  cases Q with
  |nil=>cases h2
  |cons q Q=>
   rw [List.zipIdx_cons,List.foldl_cons,ih Q (n+1) (a.setIfInBounds (off+n) p) (P++ [p]) R (by rw [Array.toList_setIfInBounds,e,←h1,List.cons_append,set_mid,List.append_assoc];rfl) (by rw [List.length_append,h1];rfl) (Nat.succ.inj h2),List.append_assoc];rfl
theorem drop_seg {a:Array Keyed}{i j:Nat}(h:i≤j):a.toList.drop i=(a.extract i j).toList++a.toList.drop j:=by
 have:=drop_ext (a:=a) (i:=i) (k:=j-i);rwa [Nat.add_sub_cancel' h] at this
theorem take_seg {a:Array Keyed}{i j:Nat}(h:i≤j):a.toList.take j=a.toList.take i++(a.extract i j).toList:=by
 rw [ext_toList,←List.take_add,Nat.add_sub_cancel' h]
section
variable {rk:Keyed→Nat}{a xs:Array Keyed}{P M T:List Keyed}{n:Nat}
theorem Ra_list:Ra rk xs n=(xs.toList[n]?).elim 0 rk:=by rw [Array.getElem?_toList];rfl
theorem Ra_mid (e:xs.toList=P++(M++T))(h:n<M.length):Ra rk xs (P.length+n)=rk M[n]:=by
 rw [Ra_list,e,List.getElem?_append_right (Nat.le_add_right _ _),Nat.add_sub_cancel_left,List.getElem?_append_left h,getElem?_pos M n h];rfl
theorem nb_mid (e:xs.toList=P++(M++T))(h:M.Pairwise (Rl rk)):Nb (· ≤ ·) (Ra rk xs) P.length (P.length+M.length):=fun k h1 h2=>by
 obtain ⟨n,rfl⟩:=Nat.exists_eq_add_of_le h1
 have h3:n+1<M.length:=Nat.lt_of_add_lt_add_left (n:=P.length) h2
 rw [Nat.add_assoc,Ra_mid e h3,Ra_mid e (Nat.lt_of_succ_lt h3)]
 exact List.pairwise_iff_getElem.mp h _ _ _ _ (Nat.lt_succ_self n)
theorem Ra_low (e:xs.toList=P++T){T':List Keyed}(e':a.toList=P++T')(h:n<P.length):Ra rk xs n=Ra rk a n:=by
 rw [Ra_list,Ra_list,e,e',List.getElem?_append_left h,List.getElem?_append_left h]
theorem Ra_high (e:xs.toList=P++T){P':List Keyed}(e':a.toList=P'++T)(hl:P.length=P'.length)(h:P.length≤n):Ra rk xs n=Ra rk a n:=by
 rw [Ra_list,Ra_list,e,e',List.getElem?_append_right h,List.getElem?_append_right (hl▸h),hl]
end
noncomputable def Mgd (rk:Keyed→Nat)(a xs:Array Keyed)(lo hi:Nat):Prop:=Nb (· ≤ ·) (Ra rk xs) lo hi∧∀ n,(n<lo∨hi≤n)→Ra rk xs n=Ra rk a n
theorem len_mid {s n m L M:Nat}(hz:s+n+m≤L)(h:L=s+(M+(L-(s+n+m)))):M=n+m:=
 Nat.add_left_cancel (n:=s) (Nat.add_right_cancel (m:=L-(s+n+m)) ((Nat.add_assoc _ _ _).trans (h.symm.trans ((Nat.add_sub_cancel' hz).symm.trans (congrArg (· +(L-(s+n+m))) (Nat.add_assoc s n m))))))
theorem wr_ok {rk:Keyed→Nat}{a r:Array Keyed}{sa k na n' nb:Nat}(hz:sa+na+nb≤a.size)(hk:k≤na)(hn:n'≤nb)(S1:Nb (· ≤ ·) (Ra rk a) sa (sa+na))(S2:Nb (· ≤ ·) (Ra rk a) (sa+na) (sa+na+nb))(F:Fn rk (a.extract (sa+k) (sa+na)) (a.extract (sa+na) (sa+na+n')) r)
  (j1:0<k→Ra rk a (sa+k-1)≤Ra rk a (sa+na)) (j2:n'≠nb→Ra rk a (sa+na-1)≤Ra rk a (sa+na+n')):
  (r.toList.zipIdx.foldl (fun a (x:Keyed×Nat)=>a.setIfInBounds (sa+k+x.2) x.1) a).Perm a∧Mgd rk a (r.toList.zipIdx.foldl (fun a (x:Keyed×Nat)=>a.setIfInBounds (sa+k+x.2) x.1) a) sa (sa+na+nb):=by
 have h1:sa+k≤sa+na:=Nat.add_le_add_left hk _
 have h2:sa+na≤sa+na+n':=Nat.le_add_right _ _
 have h3:sa+na+n'≤sa+na+nb:=Nat.add_le_add_left hn _
 have e0:a.toList=a.toList.take (sa+k)++(((a.extract (sa+k) (sa+na)).toList++(a.extract (sa+na) (sa+na+n')).toList)++a.toList.drop (sa+na+n')):=by
  rw [List.append_assoc,←drop_seg h2,←drop_seg h1,List.take_append_drop]
 have e:=wr_go (off:=sa+k) r.toList _ 0 a _ _ e0 (by rw [List.length_take,Array.length_toList,Nat.min_eq_left (Nat.le_trans (Nat.le_trans h1 h2) (Nat.le_trans h3 hz))];rfl) F.1.length_eq.symm
 have pm:=Array.perm_iff_toList_perm.mpr (e▸(((F.1.append_right _).append_left _).trans (.of_eq e0.symm)))
 refine ⟨pm,?_⟩
 generalize r.toList.zipIdx.foldl (fun a (x:Keyed×Nat)=>a.setIfInBounds (sa+k+x.2) x.1) a=xs at e pm
 have hP:(a.toList.take sa).length=sa:=by rw [List.length_take,Array.length_toList];exact Nat.min_eq_left (Nat.le_trans (Nat.le_trans (Nat.le_add_right sa na) (Nat.le_add_right _ nb)) hz)
 rw [take_seg (Nat.le_add_right sa k),drop_seg h3,List.append_assoc,←List.append_assoc r.toList,←List.append_assoc (a.extract sa (sa+k)).toList] at e
 obtain ⟨M,eM⟩:∃ M,M=(a.extract sa (sa+k)).toList++(r.toList++(a.extract (sa+na+n') (sa+na+nb)).toList):=⟨_,rfl⟩
 rw [←eM] at e
 have hM:M.length=na+nb:=by
  have:=congrArg List.length e
  rw [(Array.perm_iff_toList_perm.mp pm).length_eq,List.length_append,List.length_append,hP,List.length_drop] at this
  exact len_mid hz this
 have R1:∀ y∈r.toList,y∈(a.extract (sa+k) (sa+na)).toList∨y∈(a.extract (sa+na) (sa+na+n')).toList:=fun y hy=>List.mem_append.mp (F.1.mem_iff.mp hy)
 have pw:M.Pairwise (Rl rk):=by
  rw [eM]
  refine List.pairwise_append.mpr ⟨pw_seg S1 (Nat.le_refl _) h1,List.pairwise_append.mpr ⟨F.2,pw_seg S2 h2 (Nat.le_refl _),fun x hx y hy=>?_⟩,fun x hx y hy=>?_⟩
  ·have q:=seg_ge S2 h2 (Nat.le_refl _) hy
   obtain ⟨m,m1,m2,_⟩:=mem_seg (rk:=rk) hy
   have hlt:=Nat.lt_of_le_of_lt m1 m2
   refine Nat.le_trans ((R1 x hx).elim (fun z=>?_) fun z=>?_) q
   ·exact Nat.le_trans (seg_le S1 (Nat.le_add_right _ _) (Nat.le_refl _) z) (j2 fun c=>absurd hlt (by rw [c];exact Nat.lt_irrefl _))
   ·obtain ⟨u,u1,u2,u3⟩:=mem_seg (rk:=rk) z
    exact u3▸S2.le u1 (Nat.le_of_lt u2) hlt
  ·obtain ⟨m,m1,m2,me⟩:=mem_seg (rk:=rk) hx
   have j:=j1 (Nat.pos_of_ne_zero fun c=>absurd (Nat.lt_of_le_of_lt m1 m2) (by rw [c];exact Nat.lt_irrefl _))
   have q:=Nat.le_trans (seg_le S1 (Nat.le_refl _) h1 hx) j
   cases List.mem_append.mp hy with
   |inl hy=>
    cases R1 y hy with
    |inl z=>
     obtain ⟨u,u1,u2,u3⟩:=mem_seg (rk:=rk) z
     show rk x≤rk y
     rw [←u3,←me]
     exact S1.le m1 (Nat.le_trans (Nat.le_of_lt m2) u1) u2
    |inr z=>exact Nat.le_trans q (seg_ge S2 (Nat.le_refl _) h3 z)
   |inr hy=>
    obtain ⟨u,u1,u2,u3⟩:=mem_seg (rk:=rk) hy
    exact Nat.le_trans q (u3▸S2.le (Nat.le_refl _) (Nat.le_trans h2 u1) u2)
 have nm:=nb_mid e pw
 rw [hM,hP,←Nat.add_assoc] at nm
 refine ⟨nm,fun n c=>c.elim (fun c=>Ra_low e (List.take_append_drop sa a.toList).symm (hP.symm▸c)) fun c=>?_⟩
 rw [←List.append_assoc] at e
 have hl:(a.toList.take sa++M).length=sa+na+nb:=by rw [List.length_append,hP,hM,Nat.add_assoc]
 exact Ra_high e (List.take_append_drop (sa+na+nb) a.toList).symm (by rw [hl,List.length_take,Array.length_toList,Nat.min_eq_left hz]) (hl.symm▸c)
theorem Ra_ext {rk:Keyed→Nat}{a:Array Keyed}{i j n:Nat}(h:i+n<j)(hj:j≤a.size):Ra rk (a.extract i j) n=Ra rk a (i+n):=by
 unfold Ra;rw [Array.getElem?_extract,if_pos (by rw [Nat.min_eq_left hj];exact Nat.lt_sub_of_add_lt (Nat.add_comm i n▸h))]
theorem ext_size {a:Array Keyed}{i j:Nat}(hj:j≤a.size):(a.extract i j).size=j-i:=by rw [Array.size_extract,Nat.min_eq_left hj]
theorem ext_nb {rk:Keyed→Nat}{a:Array Keyed}{i j lo hi:Nat}(S:Nb (· ≤ ·) (Ra rk a) lo hi)(h1:lo≤i)(h2:j≤hi)(hj:j≤a.size):Nb (· ≤ ·) (Ra rk (a.extract i j)) 0 (a.extract i j).size:=fun k _ h=>by
 rw [ext_size hj] at h
 have h:=Nat.add_lt_of_lt_sub' h
 rw [Ra_ext h hj,Ra_ext (Nat.lt_of_succ_lt h) hj]
 exact S (i+k) (Nat.le_add_right_of_le h1) (Nat.lt_of_lt_of_le h h2)
section
variable {prog:Program}{w:World}{A:Around}{E:Value→Shared→Prop}{s:Shared}{κ:SortKind}{a₀:Array Keyed}{rk:Keyed→Nat}
theorem wpS_set {σ:Type}{M:Model}{x st:σ}{Q:PUnit→σ→Prop}(h:Q ⟨⟩ x):wpS M A E s (set x:StateT σ Sem PUnit) Q st:=by
 unfold wpS;rw [StateT.run_set];exact wpAny_pure ⟨rfl,h⟩
theorem wpS_if {σ α:Type}{M:Model}{c:Prop} [Decidable c] {x y:StateT σ Sem α} {st:σ} {Q:α→σ→Prop} (h1:c→wpS M A E s x Q st) (h2:¬ c→wpS M A E s y Q st):wpS M A E s (if c then x else y) Q st:=by
 by_cases h:c
 ·rw [if_pos h];exact h1 h
 ·rw [if_neg h];exact h2 h
theorem mem_ext {a:Array Keyed}{i j:Nat}{x:Keyed}(h:x∈a.extract i j):x∈a:=by
 have:=Array.mem_toList_iff.mpr h
 rw [ext_toList] at this
 exact Array.mem_toList_iff.mp (List.mem_of_mem_drop (List.mem_of_mem_take this))
theorem ext_last {a:Array Keyed}{i j:Nat}(h:i<j)(hj:j≤a.size):Ra rk (a.extract i j) ((a.extract i j).size-1)=Ra rk a (j-1):=by
 have e:i+(j-i-1)=j-1:=by rw [←Nat.add_sub_assoc (Nat.sub_pos_of_lt h),Nat.add_sub_cancel' (Nat.le_of_lt h)]
 rw [ext_size hj,Ra_ext (e.symm▸Nat.sub_one_lt_of_lt h) hj,e]
theorem q_mergeAt (L:LtOk prog w A E s κ a₀ rk){i sa na nb pw pw2:Nat}{st:SortSt}{Q:Bool→SortSt→Prop}(hB:SB κ a₀ st)(p1:(pendingOf st)[i]? =some (sa,na,pw))(p2:(pendingOf st)[i+1]? =some (sa+na,nb,pw2))(hna:1≤na)(hnb:1≤nb)(hz:sa+na+nb≤a₀.size)
  (S1:Nb (· ≤ ·) (Rs rk st) sa (sa+na)) (S2:Nb (· ≤ ·) (Rs rk st) (sa+na) (sa+na+nb))
  (h:∀ st',SB κ a₀ st'→pendingOf st'=((pendingOf st).setIfInBounds i (sa,na+nb,pw)).eraseIdxIfInBounds (i+1)→Mgd rk (arrOf st) (arrOf st') sa (sa+na+nb)→Q true st'):wpS (model prog w) A E s (mergeAt' i) Q st:=by
 refine wpS_bind (m:=get) (wpS_get ?_)
 erw [p1,p2]
 refine wpS_bind (wpS_set ?_)
 have hz':sa+na+nb≤(arrOf st).size:=hB.size▸hz
 have mA:∀ x∈arrOf st,x∈a₀:=fun x hx=>hB.perm.mem_iff.mp hx
 have hsb:sa+na<(arrOf st).size:=Nat.lt_of_lt_of_le (Nat.lt_add_of_pos_right hnb) hz'
 refine wpS_bind (q_elem hsb (wpS_bind (q_gallop L hB.kind (mA _ (Array.getElem_mem hsb)) mA (Nat.le_of_lt hsb) hna fun k ck=>?_)))
 have ck:=cutR ck
 rw [←Ra_at (rk:=rk) hsb] at ck
 refine wpS_if (fun e1=>wpS_pure (h _ ⟨hB.perm,hB.kind,hB.failed⟩ rfl ⟨S1.join S2 ?_,fun _ _=>rfl⟩)) fun e1=>?_
 ·have e:=eq_of ck.1 (by rw [ybeq e1];exact Nat.lt_irrefl 0)
  subst e;exact ck.2.1 hna
 have hk':k<na:=Nat.lt_of_sub_pos (pos_of e1)
 have ek:sa+k+(na-k)=sa+na:=by rw [Nat.add_assoc,Nat.add_sub_cancel' ck.1]
 have hla:sa+k+(na-k)-1<(arrOf st).size:=by rw [ek];exact Nat.lt_of_le_of_lt (Nat.sub_le _ _) hsb
 refine wpS_bind (q_elem hla (wpS_bind (q_gallop L hB.kind (mA _ (Array.getElem_mem hla)) mA hz' (pre_lt hnb (Nat.le_refl _)) fun n' cn=>?_)))
 have cn:=cutL cn
 rw [←Ra_at (rk:=rk) hla,ek] at cn
 refine wpS_if (fun e2=>wpS_pure (h _ ⟨hB.perm,hB.kind,hB.failed⟩ rfl ⟨S1.join S2 ?_,fun _ _=>rfl⟩)) fun e2=>?_
 ·have:=cn.2.2 (by rw [ybeq e2];exact Nat.ne_of_lt hnb)
  rw [ybeq e2] at this;exact this
 have hb2:=Nat.le_trans (Nat.add_le_add_left cn.1 (sa+na)) hz'
 have l1:sa+k<sa+na:=Nat.add_lt_add_left hk' _
 have l2:sa+na<sa+na+n':=Nat.lt_add_of_pos_right (pos_of e2)
 have ha:0<((arrOf st).extract (sa+k) (sa+na)).size:=by rw [ext_size (Nat.le_of_lt hsb)];exact Nat.sub_pos_of_lt l1
 have hb:0<((arrOf st).extract (sa+na) (sa+na+n')).size:=by rw [ext_size hb2];exact Nat.sub_pos_of_lt l2
 have T:Two a₀ rk ((arrOf st).extract (sa+k) (sa+na)) ((arrOf st).extract (sa+na) (sa+na+n')):=
  ⟨fun x hx=>mA x (mem_ext hx),fun x hx=>mA x (mem_ext hx),ext_nb S1 (Nat.le_add_right _ _) (Nat.le_refl _) (Nat.le_of_lt hsb),ext_nb S2 (Nat.le_refl _) (Nat.add_le_add_left cn.1 _) hb2,
   by rw [Ra_ext (i:=sa+na) (n:=0) l2 hb2,Ra_ext (i:=sa+k) (n:=0) l1 (Nat.le_of_lt hsb)];exact ck.2.2 (Nat.ne_of_lt hk'),by rw [ext_last l2 hb2,ext_last l1 (Nat.le_of_lt hsb)];exact cn.2.1 (pos_of e2)⟩
 have fin:∀(r:Array Keyed) (st':SortSt),Gs (setPending st (((pendingOf st).setIfInBounds i (sa,na+nb,pw)).eraseIdxIfInBounds (i+1))) st'→Fn rk ((arrOf st).extract (sa+k) (sa+na)) ((arrOf st).extract (sa+na) (sa+na+n')) r→wpS (model prog w) A E s (do modify fun s=>setArr s (r.toList.zipIdx.foldl (fun a (x:Keyed×Nat)=>a.setIfInBounds (sa+k+x.2) x.1) (arrOf s));let s←get;pure (failedOf s).isNone) Q st':=fun r st' g hf=>by
  refine wpS_bind (wpS_modify (wpS_bind (wpS_get (wpS_pure ?_))))
  have e:(failedOf st').isNone=true:=by rw [g.2.2.2];show (failedOf st).isNone=true;rw [hB.failed];rfl
  have W:=wr_ok hz' ck.1 cn.1 S1 S2 hf ck.2.1 cn.2.2
  have ea:arrOf st'=arrOf st:=g.2.1
  rw [←ea] at W
  show Q (failedOf st').isNone _
  rw [e]
  exact h _ ⟨W.1.trans (ea▸hB.perm),g.1.trans hB.kind,g.2.2.2.trans hB.failed⟩ g.2.2.1 (ea▸W.2)
 exact wpS_if (fun _=>wpS_bind (q_mergeLo L T hB.kind ha hb fin)) fun _=>wpS_bind (q_mergeHi L T hB.kind ha hb fin)
end
end Mine
end
section
namespace Mine
open PySem PyProof.Rows
noncomputable def Tl (ρ:Nat→Nat):Nat→List (Nat×Nat×Nat)→Nat→Prop
 |m,[],lo=>m=lo
 |m,x::r,lo=>x.1=m∧1≤x.2.1∧Nb (· ≤ ·) ρ m (m+x.2.1)∧Tl ρ (m+x.2.1) r lo
section
variable {ρ ρ':Nat→Nat}{l r:List (Nat×Nat×Nat)}{lo:Nat}
theorem Tl.len:∀{m:Nat},Tl ρ m l lo→m+l.length≤lo:=by
 induction l with
 |nil=>exact fun h=>Nat.le_of_eq h
 |cons x l ih=>exact fun h=>Nat.le_trans (by rw [List.length_cons,Nat.add_comm l.length,←Nat.add_assoc];exact Nat.add_le_add_right (Nat.add_le_add_left h.2.1 _) _) (ih h.2.2.2)
theorem Tl.le {m:Nat}(h:Tl ρ m l lo):m≤lo:=Nat.le_trans (Nat.le_add_right _ _) h.len
theorem Tl.app:∀{m:Nat},Tl ρ m (l++r) lo↔∃ k,Tl ρ m l k∧Tl ρ k r lo:=by
 induction l with
 |nil=>exact ⟨fun h=>⟨_,rfl,h⟩,fun h=>h.elim fun _ z=>z.1.symm▸z.2⟩
 |cons x l ih=>exact ⟨fun h=>(ih.mp h.2.2.2).imp fun k z=>⟨⟨h.1,h.2.1,h.2.2.1,z.1⟩,z.2⟩,fun h=>h.elim fun k z=>⟨z.1.1,z.1.2.1,z.1.2.2.1,ih.mpr ⟨k,z.1.2.2.2,z.2⟩⟩⟩
theorem Tl.congr:∀{m:Nat},Tl ρ m l lo→(∀ k,m≤k→k<lo→ρ' k=ρ k)→Tl ρ' m l lo:=by
 induction l with
 |nil=>exact fun h _=>h
 |cons x l ih=>exact fun h q=>⟨h.1,h.2.1,h.2.2.1.congr fun k h1 h2=>q k h1 (Nat.lt_of_lt_of_le h2 h.2.2.2.le),ih h.2.2.2 fun k h1 h2=>q k (Nat.le_trans (Nat.le_add_right _ _) h1) h2⟩
theorem Tl.upd {f:Nat×Nat×Nat→Nat×Nat×Nat}(hf:∀ x,(f x).1=x.1∧(f x).2.1=x.2.1):∀{m i:Nat},Tl ρ m (l++r) lo→Tl ρ m (l.modify i f++r) lo:=by
 induction l with
 |nil=>exact fun h=>by rw [List.modify_nil];exact h
 |cons x l ih=>
  intro m i h
  cases i with
  |zero=>rw [List.modify_zero_cons];exact ⟨(hf x).1.trans h.1,by rw [(hf x).2];exact h.2.1,by rw [(hf x).2];exact h.2.2⟩
  |succ i=>rw [List.modify_succ_cons];exact ⟨h.1,h.2.1,h.2.2.1,ih h.2.2.2⟩
end
theorem list_two {α:Type}{l:List α}{i:Nat}(h:i+1<l.length):∃ pre x y post,l=pre++x::y::post∧pre.length=i:=
 ⟨l.take i,l[i],l[i+1],l.drop (i+2),by rw [←List.drop_eq_getElem_cons,←List.drop_eq_getElem_cons,List.take_append_drop],by rw [List.length_take];exact Nat.min_eq_left (Nat.le_of_lt (Nat.lt_of_succ_lt h))⟩
theorem at_mid {α:Type}{post:List α}{x y:α}{pre:List α}:(pre++x::y::post)[pre.length]? =some x∧(pre++x::y::post)[pre.length+1]? =some y:=by
 induction pre with
 |nil=>exact ⟨rfl,rfl⟩
 |cons p pre ih=>exact ih
theorem mid_set {α:Type}{v:α}{post:List α}{x y:α}{pre:List α}:((pre++x::y::post).set pre.length v).eraseIdx (pre.length+1)=pre++v::post:=by
 induction pre with
 |nil=>rfl
 |cons p pre ih=>rw [List.length_cons,List.cons_append,List.set_cons_succ,List.eraseIdx_cons_succ,ih,List.cons_append]
section
variable {prog:Program}{w:World}{A:Around}{E:Value→Shared→Prop}{s:Shared}{κ:SortKind}{a₀:Array Keyed}{rk:Keyed→Nat}{x:List (Nat×Nat×Nat)}{lo n:Nat}{st:SortSt}
noncomputable def At (κ:SortKind)(a₀:Array Keyed)(rk:Keyed→Nat)(x:List (Nat×Nat×Nat))(lo:Nat)(st:SortSt):Prop:=SB κ a₀ st∧Tl (Rs rk st) 0 ((pendingOf st).toList++x) lo∧lo≤a₀.size
theorem q_merge_tl (L:LtOk prog w A E s κ a₀ rk){i:Nat}{Q:Bool→SortSt→Prop}(h0:At κ a₀ rk x lo st)(hi:i+1<(pendingOf st).size)(h:∀ st',At κ a₀ rk x lo st'→(pendingOf st').size<(pendingOf st).size→Q true st'):wpS (model prog w) A E s (mergeAt' i) Q st:=by
 obtain ⟨hB,T,hlo⟩:=h0
 obtain ⟨pre,⟨sa,na,pw⟩,⟨sb,nb,pw2⟩,post,e,hl⟩:=list_two (l:=(pendingOf st).toList) hi
 rw [e,List.append_assoc] at T
 obtain ⟨m,T1,h1,n1,S1,h2,n2,S2,T2⟩:=Tl.app.mp T
 subst h1;subst h2
 have p1:(pendingOf st)[i]? =some (sa,na,pw):=by rw [←Array.getElem?_toList,e,←hl];exact at_mid.1
 have p2:(pendingOf st)[i+1]? =some (sa+na,nb,pw2):=by rw [←Array.getElem?_toList,e,←hl];exact at_mid.2
 refine q_mergeAt L hB p1 p2 n1 n2 (Nat.le_trans T2.le hlo) S1 S2 fun st' hB' hp M=>?_
 have ep:(pendingOf st').toList=pre++(sa,na+nb,pw)::post:=by
  rw [hp,Array.eraseIdxIfInBounds_eq,dif_pos (by rw [Array.size_setIfInBounds];exact hi),Array.toList_eraseIdx,Array.toList_setIfInBounds,e,←hl,mid_set]
 refine h st' ⟨hB',?_,hlo⟩ ?_
 ·rw [ep,List.append_assoc]
  refine Tl.app.mpr ⟨_,T1.congr fun k _ hk=>M.2 k (.inl hk),rfl,Nat.le_trans n1 (Nat.le_add_right _ _),?_⟩
  rw [←Nat.add_assoc]
  exact ⟨M.1,T2.congr fun k hk _=>M.2 k (.inr hk)⟩
 ·rw [←Array.length_toList,←Array.length_toList,ep,e,List.length_append,List.length_append]
  exact Nat.add_lt_add_left (Nat.lt_succ_self _) _
theorem At.run {st':SortSt}(b:At κ a₀ rk [] lo st)(q:RunS κ a₀ rk lo n st st')(m1:1≤n)(m2:lo+n≤a₀.size):At κ a₀ rk [(lo,n,0)] (lo+n) st':=
 ⟨q.1,Tl.app.mpr ⟨lo,by rw [q.2.1];exact Tl.congr (by have t:=b.2.1;rwa [List.append_nil] at t) fun k _ hk=>q.2.2.1 k hk,rfl,m1,q.2.2.2,rfl⟩,m2⟩
theorem At.push {z:Nat×Nat×Nat}(b:At κ a₀ rk [z] lo st):At κ a₀ rk [] lo (setPending st ((pendingOf st).push z)):=⟨⟨b.1.perm,b.1.kind,b.1.failed⟩,by
 show Tl _ 0 (((pendingOf st).push z).toList++ []) _
 rw [Array.toList_push,List.append_nil];exact b.2.1,b.2.2⟩
theorem At.upd {i pw:Nat}(b:At κ a₀ rk x lo st):At κ a₀ rk x lo (setPending st ((pendingOf st).modify i fun x=>(x.1,x.2.1,pw))):=⟨⟨b.1.perm,b.1.kind,b.1.failed⟩,by
 show Tl _ 0 (((pendingOf st).modify _ _).toList++x) _
 rw [Array.toList_modify];exact b.2.1.upd (f:=fun x=>(x.1,x.2.1,pw)) fun x=>⟨rfl,rfl⟩,b.2.2⟩
theorem minRun_pos:∀(f n r:Nat),1≤n→1≤minRun' f n r:=fun f=>by
 induction f with
 |zero=>exact fun n r h=>Nat.le_trans h (Nat.le_add_right _ _)
 |succ f ih=>
  intro n r h
  rw [minRun'_succ]
  split
  ·exact Nat.le_trans h (Nat.le_add_right _ _)
  ·exact ih _ _ (Nat.div_pos (Nat.le_trans (by decide:2≤64) (Nat.not_lt.mp ‹¬ n<64›)) Nat.two_pos)
theorem cond_some {α:Type}{c:Prop} [Decidable c] {x:Option α} {y:α} (h:(if c then x else none)=some y):c:=by
 by_cases q:c
 ·exact q
 ·rw [if_neg q] at h;cases h
theorem pre2 {n:Nat}(h:1<n):n-2+1<n:=by
 rw [←Nat.sub_add_comm h];exact Nat.sub_lt (Nat.lt_of_succ_lt h) Nat.one_pos
theorem pre3 {n:Nat}{c:Prop} [Decidable c] (h:1<n):(if c then n-2-1 else n-2)+1<n:=by
 split
 ·exact Nat.lt_of_le_of_lt (Nat.succ_le_succ (Nat.sub_le _ _)) (pre2 h)
 ·exact pre2 h
theorem At.fin (b:At κ a₀ rk [] a₀.size st)(h:(pendingOf st).size≤1):Nb (· ≤ ·) (Rs rk st) 0 a₀.size:=by
 have t:=b.2.1
 rw [List.append_nil] at t
 rw [←Array.length_toList] at h
 cases hp:(pendingOf st).toList with
 |nil=>rw [hp] at t;exact (show 0=a₀.size from t)▸Nb.few (Nat.zero_le _)
 |cons p l=>
  rw [hp] at t h
  obtain rfl:l=[]:=List.eq_nil_of_length_eq_zero (Nat.le_zero.mp (Nat.le_of_succ_le_succ h))
  exact (show 0+p.2.1=a₀.size from t.2.2.2)▸t.2.2.1
theorem fuel {x lo n z:Nat}(h:x≤lo∨z≤lo)(m1:1≤n):x+1≤lo+n∨z≤lo+n:=h.imp (fun h=>Nat.add_le_add h m1) fun h=>Nat.le_trans h (Nat.le_add_right _ _)
theorem q_sortRuns (L:LtOk prog w A E s κ a₀ rk){Q:Unit→SortSt→Prop}(hB:SB κ a₀ st)(hp:pendingOf st=#[])(h:∀ st',SB κ a₀ st'→Nb (· ≤ ·) (Rs rk st') 0 a₀.size→Q () st'):wpS (model prog w) A E s sortRuns' Q st:=by
 refine wpS_bind (m:=get) (wpS_get ?_)
 have hz:(arrOf st).size=a₀.size:=hB.size
 refine wpS_bind (wpS_mono (wpS_forRange (I:=fun x c st'=>c.1=none∧At κ a₀ rk [] c.2 st'∧(x≤c.2∨a₀.size≤c.2)) (Q:=fun c st'=>c.1=none∧At κ a₀ rk [] a₀.size st') (fun x c st' _ hx hc=>?_) (fun c st' hc=>⟨hc.1,?_⟩) ⟨rfl,⟨hB,by rw [hp];rfl,Nat.zero_le _⟩,.inl (Nat.le_refl _)⟩) fun c st' hc=>?_)
 ·obtain ⟨r,lo⟩:=c
  obtain rfl:r=none:=hc.1
  have a:=hc.2.1
  refine wpS_if (fun q=>wpS_pure ⟨rfl,?_⟩) fun q=>?_
  ·exact (Nat.le_antisymm a.2.2 (hz▸q):lo=a₀.size)▸a
  have hlo:lo<a₀.size:=Nat.lt_of_not_ge (hz▸q)
  have hn:lo+((arrOf st).size-lo)≤a₀.size:=by rw [hz];exact Nat.le_of_eq (Nat.add_sub_cancel' (Nat.le_of_lt hlo))
  have hn1:1≤(arrOf st).size-lo:=by rw [hz];exact Nat.sub_pos_of_lt hlo
  refine wpS_bind (q_countRun L hn hn1 a.1 fun n st2 k n1 n2=>?_)
  have m2:=Nat.le_trans (Nat.add_le_add_left n2 _) hn
  have a2:=a.run k n1 m2
  have f2:=fuel (n:=n) hc.2.2 n1
  refine wpS_if (fun qm=>wpS_bind (wpS_lift (wpAny_rule ⟨rfl,wpS_bind (q_binarySort L (Nat.le_trans (Nat.add_le_add_left (Nat.min_le_left _ (minRun' (arrOf st).size (arrOf st).size 0)) _) hn) n1 (Nat.le_min.mpr ⟨n2,Nat.le_of_lt qm⟩) a2.1 k.2.2.2 fun st3 k3=>wpS_if (fun z=>by cases z) fun _=>wpS_bind (wpS_get ?_))⟩))) fun _=>wpS_bind (wpS_get ?_)
  ·replace m2:=Nat.le_trans (Nat.add_le_add_left (Nat.min_le_left _ (minRun' (arrOf st).size (arrOf st).size 0)) _) hn
   replace n1:=Nat.le_min.mpr ⟨hn1,minRun_pos (arrOf st).size (arrOf st).size 0 (Nat.le_trans hn1 (Nat.sub_le _ _))⟩
   replace a2:=a.run ⟨k3.1,k3.2.1.trans k.2.1,fun j hj=>(k3.2.2.1 j hj).trans (k.2.2.1 j hj),k3.2.2.2⟩ n1 m2
   replace f2:=fuel (n:=min ((arrOf st).size-lo) (minRun' (arrOf st).size (arrOf st).size 0)) hc.2.2 n1
   split
   ·refine wpS_bind (wpS_mono (wpS_forRange (I:=fun _ c st'=>c.1=none∧At κ a₀ rk _ _ st') (Q:=fun c st'=>c.1=none∧At κ a₀ rk _ _ st') (fun x c st4 _ hx hc=>wpS_bind (wpS_get ?_)) (fun _ _ hc=>hc) ⟨rfl,a2⟩) fun c st4 hc=>?_)
    ·have hc':=hc.2
     dsimp only
     split
     ·rename_i he
      exact wpS_if (fun _=>wpS_pure ⟨rfl,hc'⟩) fun _=>wpS_bind (q_merge_tl L hc' (pre2 (cond_some he)) fun st5 a5 _=>wpS_if (fun z=>by cases z) fun _=>wpS_pure ⟨rfl,a5⟩)
     ·exact wpS_pure ⟨rfl,hc'⟩
    ·obtain ⟨r,u⟩:=c
     obtain rfl:r=none:=hc.1
     exact wpS_bind (wpS_modify (wpS_bind (wpS_modify (wpS_pure ⟨rfl,hc.2.upd.push,f2⟩))))
   ·exact wpS_bind (wpS_modify (wpS_pure ⟨rfl,a2.push,f2⟩))
  ·split
   ·refine wpS_bind (wpS_mono (wpS_forRange (I:=fun _ c st'=>c.1=none∧At κ a₀ rk _ _ st') (Q:=fun c st'=>c.1=none∧At κ a₀ rk _ _ st') (fun x c st4 _ hx hc=>wpS_bind (wpS_get ?_)) (fun _ _ hc=>hc) ⟨rfl,a2⟩) fun c st4 hc=>?_)
    ·have hc':=hc.2
     dsimp only
     split
     ·rename_i he
      exact wpS_if (fun _=>wpS_pure ⟨rfl,hc'⟩) fun _=>wpS_bind (q_merge_tl L hc' (pre2 (cond_some he)) fun st5 a5 _=>wpS_if (fun z=>by cases z) fun _=>wpS_pure ⟨rfl,a5⟩)
     ·exact wpS_pure ⟨rfl,hc'⟩
    ·obtain ⟨r,u⟩:=c
     obtain rfl:r=none:=hc.1
     exact wpS_bind (wpS_modify (wpS_bind (wpS_modify (wpS_pure ⟨rfl,hc.2.upd.push,f2⟩))))
   ·exact wpS_bind (wpS_modify (wpS_pure ⟨rfl,a2.push,f2⟩))
 ·exact (Nat.le_antisymm hc.2.1.2.2 (hc.2.2.elim (fun q=>Nat.le_trans (hz▸Nat.le_max_right 0 _) q) id):c.2=a₀.size)▸hc.2.1
 ·obtain ⟨r,lo⟩:=c
  obtain rfl:r=none:=hc.1
  refine wpS_bind (wpS_mono (wpS_forRange (I:=fun x c st'=>c.1=none∧At κ a₀ rk [] a₀.size st'∧((pendingOf st').size+x≤a₀.size∨(pendingOf st').size≤1)) (Q:=fun c st'=>c.1=none∧At κ a₀ rk [] a₀.size st'∧(pendingOf st').size≤1) (fun x c st4 _ hx hc=>wpS_bind (wpS_get ?_)) (fun c st4 hc=>⟨hc.1,hc.2.1,?_⟩) ⟨rfl,hc.2,.inl ?_⟩) fun c st4 hc=>?_)
  ·have hc':=hc.2.1
   exact wpS_if (fun q=>wpS_pure ⟨rfl,hc',q⟩) fun q=>wpS_bind (q_merge_tl L hc' (pre3 (Nat.lt_of_not_le q)) fun st5 a5 z5=>wpS_if (fun z=>by cases z) fun _=>wpS_pure ⟨rfl,a5,.inl (by have:=hc.2.2.resolve_right q;lia)⟩)
  ·have q:(pendingOf st4).size+max 0 (arrOf st).size≤a₀.size∨(pendingOf st4).size≤1:=hc.2.2
   rw [hz] at q;lia
  ·have:=hc.2.2.1.len
   rw [List.append_nil,Nat.zero_add,Array.length_toList] at this;exact this
  ·obtain ⟨r,u⟩:=c
   obtain rfl:r=none:=hc.1
   exact wpS_pure (h st4 hc.2.1.1 (hc.2.1.fin hc.2.2))
end
end Mine
end
section
namespace Mine
open PySem PyProof.Rows
theorem lex_irr (x:List Int):lexLt x x=false:=by
 induction x with
 |nil=>rfl
 |cons a x ih=>exact (if_pos rfl).trans ih
theorem lex_trans {x:List Int}:∀{y z:List Int},x.length=y.length→y.length=z.length→lexLt x y=true→lexLt y z=true→lexLt x z=true:=by
 induction x with
 |nil=>exact fun {y z} e1 _ h _=>by cases y with|nil=>cases h|cons=>cases e1
 |cons a x ih=>
  intro y z e1 e2 h1 h2
  cases y with
  |nil=>cases e1
  |cons b y=>
  cases z with
  |nil=>cases e2
  |cons c z=>
  have h1':(if a=b then lexLt x y else decide (a<b))=true:=h1
  have h2':(if b=c then lexLt y z else decide (b<c))=true:=h2
  show (if a=c then lexLt x z else decide (a<c))=true
  by_cases q1:a=b
  ·rw [if_pos q1] at h1'
   by_cases q2:b=c
   ·rw [if_pos q2] at h2'
    rw [if_pos (q1.trans q2)]
    exact ih (Nat.succ.inj e1) (Nat.succ.inj e2) h1' h2'
   ·rw [if_neg q2] at h2'
    rw [if_neg (by rw [q1];exact q2),q1];exact h2'
  ·rw [if_neg q1] at h1'
   have l1:=of_decide_eq_true h1'
   by_cases q2:b=c
   ·rw [if_neg (by rw [←q2];exact q1),←q2];exact h1'
   ·rw [if_neg q2] at h2'
    have l2:=Int.lt_trans l1 (of_decide_eq_true h2')
    rw [if_neg (Int.ne_of_lt l2)];exact decide_eq_true l2
theorem lex_total {x:List Int}:∀{y:List Int},x.length=y.length→lexLt x y=false→lexLt y x=false→x=y:=by
 induction x with
 |nil=>exact fun {y} e _ _=>by cases y with|nil=>rfl|cons=>cases e
 |cons a x ih=>
  intro y e h1 h2
  cases y with
  |nil=>cases e
  |cons b y=>
  have h1':(if a=b then lexLt x y else decide (a<b))=false:=h1
  have h2':(if b=a then lexLt y x else decide (b<a))=false:=h2
  by_cases q:a=b
  ·rw [if_pos q] at h1'
   rw [if_pos q.symm] at h2'
   rw [q,ih (Nat.succ.inj e) h1' h2']
  ·rw [if_neg q] at h1'
   rw [if_neg (Ne.symm q)] at h2'
   exact absurd (Int.le_antisymm (Int.not_lt.mp (of_decide_eq_false h2')) (Int.not_lt.mp (of_decide_eq_false h1'))) q
theorem lex_false:∀{x y:List Int},x.length=y.length→lexLt x y=false→lexLt y x=true∨x=y:=fun {x y} e h=>by
 cases q:lexLt y x with
 |true=>exact .inl rfl
 |false=>exact .inr (lex_total e h q)
theorem count_le {α:Type}{p q:α→Bool}{l:List α}:(∀ x∈l,p x=true→q x=true)→l.countP p≤l.countP q:=by
 induction l with
 |nil=>exact fun _=>Nat.le_refl _
 |cons x l ih=>
  intro h
  have:=ih fun y hy=>h y (.tail _ hy)
  rw [List.countP_cons,List.countP_cons]
  cases hp:p x with
  |false=>rw [if_neg Bool.noConfusion];exact Nat.le_trans this (Nat.le_add_right _ _)
  |true=>rw [if_pos rfl,if_pos (h x (.head _) hp)];exact Nat.succ_le_succ this
theorem count_lt {α:Type}{p q:α→Bool}{a:α}{l:List α}:a∈l→p a=false→q a=true→(∀ x∈l,p x=true→q x=true)→l.countP p<l.countP q:=by
 induction l with
 |nil=>exact fun ha=>by cases ha
 |cons x l ih=>
  intro ha hp hq h
  rw [List.countP_cons,List.countP_cons]
  cases ha with
  |head=>
   rw [hp,hq,if_neg Bool.noConfusion,if_pos rfl]
   exact Nat.lt_succ_of_le (count_le fun y hy=>h y (.tail _ hy))
  |tail _ ha=>
   have:=ih ha hp hq fun y hy=>h y (.tail _ hy)
   cases hx:p x with
   |false=>rw [if_neg Bool.noConfusion];exact Nat.lt_of_lt_of_le this (Nat.le_add_right _ _)
   |true=>rw [if_pos rfl,if_pos (h x (.head _) hx)];exact Nat.succ_lt_succ this
noncomputable def TupI (h:Heap)(v:Value)(is:List Int):Prop:=∃ a o xs n,v=.ref a∧h.get? a=some o∧o.cls=.type "tuple"∧o.data=.seq xs n∧IntsAre xs.toList is
theorem ints_uniq {vs:List Value}{is js:List Int}(h1:IntsAre vs is)(h2:IntsAre vs js):is=js:=by rw [←h1.nums,←h2.nums]
theorem TupI.uniq {h:Heap}{v:Value}{is js:List Int}(h1:TupI h v is)(h2:TupI h v js):is=js:=by
 obtain ⟨a,o,xs,n,rfl,g1,_,g2,g3⟩:=h1
 obtain ⟨b,p,ys,m,e,k1,_,k2,k3⟩:=h2
 obtain rfl:a=b:=by injection e
 obtain rfl:=Option.some.inj (g1.symm.trans k1)
 rw [g2] at k2
 obtain rfl:xs=ys:=by injection k2
 exact ints_uniq g3 k3
theorem TupI.keep {h h':Heap}{v:Value}{is:List Int}(t:TupI h v is)(k:∀ b o,h.get? b=some o→h'.get? b=some o):TupI h' v is:=by
 obtain ⟨a,o,xs,n,e,g1,g2⟩:=t
 exact ⟨a,o,xs,n,e,k _ _ g1,g2⟩
noncomputable def ky (h:Heap)(v:Value):List Int:=Classical.epsilon (TupI h v)
theorem ky_eq {h:Heap}{v:Value}{is:List Int}(t:TupI h v is):ky h v=is:=TupI.uniq (Classical.epsilon_spec (p:=TupI h v) ⟨is,t⟩) t
section
variable {prog:Program}{w:World}{A:Around}{E:Value→Shared→Prop}{s:Shared}
theorem katlex {fin:Bool}{Q:Bool→Shared→Prop}{vs:List Value}{is:List Int}(h1:IntsAre vs is):∀{ws:List Value} {js:List Int} (i:Nat),IntsAre ws js→Q (lexZ fin is js) s→PySem.W.KatLex prog w A true fin Q (vs.zip ws) i s:=by
 induction h1 with
 |nil=>exact fun i h2 q=>PySem.W.kat_nil q
 | @cons a t _ is h1 ih=>
  intro ws js i h2 q
  cases h2 with
  |nil=>exact PySem.W.kat_nil q
  | @cons b t2 _ js h2=>
   rw [List.zip_cons_cons]
   refine PySem.W.kat_cons (wpAny_eqBool_int ?_)
   have q':Q (if a=b then lexZ fin is js else decide (a<b)) s:=q
   by_cases e:a=b
   ·rw [if_pos e] at q'
    rw [beq_iff_eq.mpr e]
    exact PySem.W.kat_yes (ih (i+1) h2 q')
   ·rw [if_neg e] at q'
    rw [beq_false_of_ne e]
    refine PySem.W.kat_no ?_
    cases hi:(true&&i==0) with
    |true=>exact oneLt_int q'
    |false=>exact PySem.W.kat_one _ _ (lt_int q')
theorem key_lt {x y:Value}{is js:List Int}{Q:Bool→Shared→Prop}(hx:TupI s.heap x is)(hy:TupI s.heap y js)(hl:is.length=js.length)(q:Q (lexLt is js) s):wpAny (model prog w) A (keyLt' (tuples' true) x y) Q E s:=by
 obtain ⟨a,o,xs,n,rfl,g1,_,g2,g3⟩:=hx
 obtain ⟨b,p,ys,m,rfl,k1,_,k2,k3⟩:=hy
 refine PySem.W.kat_lt g1 g2 k1 k2 (katlex g3 0 k3 ?_)
 have e:¬ xs.size<ys.size:=by
  have l1:=congrArg List.length g3.nums
  have l2:=congrArg List.length k3.nums
  rw [List.length_map,Array.length_toList] at l1 l2
  rw [l1,l2,hl];exact Nat.lt_irrefl _
 rw [decide_eq_false e]
 exact q
end
end Mine
end
section
namespace Mine
open PySem PyProof.Rows
noncomputable def rkG (kf:Value→List Int)(vs:List Value)(p:Keyed):Nat:=vs.countP fun u=>lexLt (kf u) (kf p.1)
theorem rk_lt {kf:Value→List Int}{vs:List Value}{n:Nat}(T:∀ v∈vs,(kf v).length=n){x y:Keyed}(hx:x.1∈vs)(hy:y.1∈vs):decide (rkG kf vs x<rkG kf vs y)=lexLt (kf x.1) (kf y.1):=by
 have lx:=T _ hx
 have ly:=T _ hy
 cases q:lexLt (kf x.1) (kf y.1) with
 |true=>exact decide_eq_true (count_lt hx (lex_irr _) q fun z hz hp=>lex_trans ((T z hz).trans lx.symm) (lx.trans ly.symm) hp q)
 |false=>
  refine decide_eq_false (Nat.not_lt.mpr (count_le fun z hz hp=>?_))
  rcases lex_false (lx.trans ly.symm) q with e|e
  ·exact lex_trans ((T z hz).trans ly.symm) (ly.trans lx.symm) hp e
  ·rw [e];exact hp
theorem mem_pairs {vs:List Value}{x:Keyed}(h:x∈pairsOf vs):x.1∈vs∧x.2=x.1:=by
 unfold pairsOf at h
 obtain ⟨i,hi,rfl⟩:=Array.getElem_of_mem h
 simp only [Array.getElem_zip,List.getElem_toArray]
 exact ⟨List.getElem_mem _,trivial⟩
noncomputable def midH (h:Heap)(a:Addr)(vs:List Value):Heap:=((h.update a (Obj.mapSeq fun _=>#[])).push (seqObj "tuple" vs.toArray 0)).push (seqObj "list" #[] 0)
noncomputable def Keeps (h h':Heap):Prop:=∀ b o,h.get? b=some o→h'.get? b=some o
structure SortK (prog:Program)(w:World)(s:Shared)(κ:SortKind)(kf:Value→List Int)(vs:List Value)(n:Nat):Prop where
 len:∀ v∈vs,(kf v).length=n
 lt:∀ h',Keeps s.heap h'→∀ x∈vs,∀ y∈vs,∀(A:Around) (E:Value→Shared→Prop) (Q:Bool→Shared→Prop),Q (lexLt (kf x) (kf y)) {s with heap:=h'}→wpAny (model prog w) A (keyLt' κ x y) Q E {s with heap:=h'}
 kind:∀ h',Keeps s.heap h'→2≤vs.length→∀(A:Around) (E:Value→Shared→Prop) (Q:SortKind→Shared→Prop),Q κ {s with heap:=h'}→wpAny (model prog w) A (keyKind' vs.toArray) Q E {s with heap:=h'}
section
variable {prog:Program}{w:World}{A:Around}{E:Value→Shared→Prop}{s:Shared}{κ:SortKind}{kf:Value→List Int}
theorem SortK.ok {vs:List Value}{n:Nat}{h':Heap}(K:SortK prog w s κ kf vs n)(k:Keeps s.heap h'):LtOk prog w A E {s with heap:=h'} κ (pairsOf vs) (rkG kf vs):=fun x y st Q hx hy hk h=>by
 obtain ⟨hx,_⟩:=mem_pairs hx
 obtain ⟨hy,_⟩:=mem_pairs hy
 rw [lt'_eq]
 refine wpS_bind (wpS_get ?_)
 rw [hk]
 refine wpS_bind (wpS_lift (wpAny_attempt (K.lt h' k _ hx _ hy _ _ _ ⟨rfl,?_⟩)))
 rw [←rk_lt K.len hx hy]
 exact wpS_pure (h _ rfl)
theorem sort_gen {a:Addr}{vs:List Value}{n:Nat}{rk:Keyed→Nat}{P:Fin→Shared→Prop}(ho:s.heap.get? a=some (seqObj "list" vs.toArray n))(hz:vs.length≤sizeLine)
  (hk:2≤vs.length→∀ Q:SortKind→Shared→Prop,Q κ {s with heap:=midH s.heap a vs}→wpAny (model prog w) A (keyKind' vs.toArray) Q E {s with heap:=midH s.heap a vs}) (L:LtOk prog w A E {s with heap:=midH s.heap a vs} κ (pairsOf vs) rk)
  (h:∀ xs:Array Keyed,xs.Perm (pairsOf vs)→Nb (· ≤ ·) (Ra rk xs) 0 (pairsOf vs).size→P (.done (.ret .none)) {s with heap:=sortedHeap s.heap a vs (xs.map (·.2))}):wpAny (model prog w) A (Builtin.«list.sort» ⟨[.ref a],[]⟩) P E s:=by
 rw [list_sort_plain]
 have ha:a<s.heap.objs.size:=Heap.lt_size ho
 refine wpAny_bind (listItems_at ho rfl ?_)
 refine wpAny_bind (listUpdate_at ho rfl ?_ (by rw [List.size_toArray];exact hz) (Nat.zero_le _))
 obtain ⟨e1,ho1⟩:∃ e1,(s.heap.update a (Obj.mapSeq fun _=>#[])).get? a=some (seqObj "list" #[] e1):=⟨_,get?_update_seq ho (fun _=>#[])⟩
 refine wpAny_bind (seqEpoch_at ho1 rfl ?_)
 refine wpAny_bind (wpAny_newTuple ?_)
 refine wpAny_bind (wpAny_newList ?_)
 refine wpAny_holding ?_
 have ho6:(midH s.heap a vs).get? a=some (seqObj "list" #[] e1):=by
  unfold midH
  rw [Heap.get?_push_ne _ _ _ (by rw [size_push',Heap.size_update];exact Nat.ne_of_lt (Nat.lt_succ_of_lt ha)),Heap.get?_push_ne _ _ _ (by rw [Heap.size_update];exact Nat.ne_of_lt ha)]
  exact ho1
 show wpAny (model prog w) A _ P E {s with heap:=midH s.heap a vs}
 dsimp only
 have sz:∀ xs:Array Keyed,xs.Perm (pairsOf vs)→(xs.map (·.2)).size≤sizeLine+1:=fun xs hp=>by
  rw [Array.size_map,hp.size_eq,pairsOf_size];exact Nat.le_succ_of_le hz
 by_cases h2:vs.toArray.size<2
 ·rw [if_pos h2,if_pos h2]
  refine wpAny_bind (wpAny_pure ?_)
  rw [StateT.run_pure]
  refine wpAny_bind (wpAny_pure ?_)
  dsimp only
  refine wpAny_bind (seqEpoch_at ho6 rfl ?_)
  refine wpAny_bind (listUpdate_at ho6 rfl ?_ (Nat.zero_le _) (sz (vs.toArray.zip vs.toArray) (Array.Perm.refl _)))
  simp only [bne_self_eq_false,Bool.false_eq_true,if_false]
  exact wpAny_pure (h (vs.toArray.zip vs.toArray) (Array.Perm.refl _) (Nb.few (by rw [pairsOf_size];rw [List.size_toArray] at h2;exact Nat.le_of_lt_succ h2)))
 ·rw [if_neg h2,if_neg h2]
  rw [List.size_toArray] at h2
  refine wpAny_bind (hk (Nat.not_lt.mp h2) _ ?_)
  refine wpAny_bind (wpAny_mono (q_sortRuns (a₀:=pairsOf vs) (κ:=κ) (rk:=rk) (st:=SortSt.mk' κ (vs.toArray.zip vs.toArray) #[] 7 none)
   (Q:=fun _ st'=>(arrOf st').Perm (pairsOf vs)∧failedOf st'=none∧Nb (· ≤ ·) (Ra rk (arrOf st')) 0 (pairsOf vs).size) L ⟨Array.Perm.refl _,rfl,rfl⟩ rfl fun st' b hs=>⟨b.perm,b.failed,hs⟩) ?_ fun _ _ e=>e)
  rintro ⟨⟨⟩,st'⟩ s' ⟨rfl,hp,hf,hs⟩
  dsimp only
  refine wpAny_bind (seqEpoch_at ho6 rfl ?_)
  refine wpAny_bind (listUpdate_at ho6 rfl ?_ (Nat.zero_le _) (sz _ hp))
  rw [hf]
  simp only [bne_self_eq_false,Bool.false_eq_true,if_false]
  exact wpAny_pure (h _ hp hs)
theorem sort_out {vs:List Value}{n:Nat}{xs:Array Keyed}(T:∀ v∈vs,(kf v).length=n)(hp:xs.Perm (pairsOf vs))(hs:Nb (· ≤ ·) (Ra (rkG kf vs) xs) 0 (pairsOf vs).size):∃ out:List Value,xs.map (·.2)=out.toArray∧out.Perm vs∧out.Pairwise (fun x y=>lexLt (kf y) (kf x)=false):=by
 have hin:∀ x∈xs,x.1∈vs∧x.2=x.1:=fun x hx=>mem_pairs (hp.mem_iff.mp hx)
 refine ⟨xs.toList.map (·.2),Array.toList_inj.mp (by rw [Array.toList_map]),?_,?_⟩
 ·have p2:(xs.toList.map (·.2)).Perm ((pairsOf vs).toList.map (·.2)):=(Array.perm_iff_toList_perm.mp hp).map _
  have e2:(pairsOf vs).toList.map (·.2)=vs:=by
   unfold pairsOf
   rw [Array.toList_zip]
   exact List.map_snd_zip (Nat.le_refl _)
  rwa [e2] at p2
 ·refine List.pairwise_map.mpr (List.pairwise_iff_getElem.mpr fun i j hi hj hij=>?_)
  rw [Array.length_toList] at hi hj
  have hs':=hs.le (Nat.zero_le _) (Nat.le_of_lt hij) (by rw [←hp.size_eq];exact hj)
  rw [Ra_at hi,Ra_at hj] at hs'
  obtain ⟨m1,n1⟩:=hin _ (Array.getElem_mem hi)
  obtain ⟨m2,n2⟩:=hin _ (Array.getElem_mem hj)
  have:=rk_lt T m2 m1
  rw [decide_eq_false (Nat.not_lt.mpr hs')] at this
  rw [Array.getElem_toList,Array.getElem_toList,n1,n2]
  exact this.symm
noncomputable def preH (h:Heap)(vs:List Value):Heap:=((h.push (seqObj "list" #[] 0)).update h.objs.size (Obj.mapSeq (· ++vs.toArray))).push (seqObj "list" vs.toArray 0)
theorem sorted_gen {l:Addr}{vs:List Value}{m:Nat}{Q:Value→Shared→Prop}(hl:s.heap.IsList l vs.toArray)(K:SortK prog w s κ kf vs m)(hz:vs.length≤sizeLine)
  (h:∀ out:List Value,out.Perm vs→out.Pairwise (fun x y=>lexLt (kf y) (kf x)=false)→Q (.ref (s.heap.objs.size+1)) {s with heap:=sortedAll s.heap vs out.toArray}):wpAny (model prog w) A (call (.builtin "sorted") [.ref l]) Q E s:=by
 refine Calls.call_function_entry kind_sorted plain_sorted entry_sorted (args_sorted1 _) ?_
 unfold Builtin.«sorted»
 refine wpAny_bind (m:=checkCount "sorted" 1 1 _) (wpAny_pure ?_)
 refine wpAny_bind (collect_list hl ?_ hz)
 refine wpAny_bind (wpAny_newList ?_)
 have hsz:((s.heap.push (seqObj "list" #[] 0)).update s.heap.objs.size (Obj.mapSeq (· ++vs.toArray))).objs.size=s.heap.objs.size+1:=by rw [Heap.size_update,size_push']
 have hoL:(preH s.heap vs).get? (s.heap.objs.size+1)=some (seqObj "list" vs.toArray 0):=by unfold preH;rw [←hsz];exact Heap.get?_push_size _ rfl
 have hsz2:(preH s.heap vs).objs.size=s.heap.objs.size+2:=by unfold preH;rw [size_push',hsz]
 have keep:Keeps s.heap (midH (preH s.heap vs) (s.heap.objs.size+1) vs):=fun b o q=>by
  have hlt:b<s.heap.objs.size:=Heap.lt_size q
  refine Heap.get?_push_of_some _ (Heap.get?_push_of_some _ ?_)
  rw [Heap.get?_update_ne _ _ _ _ (Nat.ne_of_lt (Nat.lt_succ_of_lt hlt))]
  unfold preH
  rw [Heap.get?_push_ne _ _ _ (by rw [hsz];exact Nat.ne_of_lt (Nat.lt_succ_of_lt hlt)),Heap.get?_update_ne _ _ _ _ (Nat.ne_of_lt hlt),Heap.get?_push_ne _ _ _ (Nat.ne_of_lt hlt)]
  exact q
 show wpAny _ _ _ _ _ {s with heap:=preH s.heap vs}
 rw [hsz]
 refine wpAny_bind (wpAny_holding (wpAny_call_entry slot_list_sort ⟨_,hoL,rfl⟩ entry_list_sort (sort_gen (s:={s with heap:=preH s.heap vs}) hoL hz (fun h2 Q q=>K.kind _ keep h2 _ _ Q q) (K.ok keep) fun xs hp hs=>⟨_,rfl,?_⟩) (args_list_sort _)))
 obtain ⟨out,e,a1,a2⟩:=sort_out K.len hp hs
 rw [e]
 exact wpAny_pure ⟨_,rfl,h out a1 a2⟩
noncomputable def Tups (h:Heap)(vs:List Value)(n:Nat):Prop:=1≤n∧∀ v∈vs,∃ is,TupI h v is∧is.length=n
theorem Tups.at {h:Heap}{vs:List Value}{n:Nat}(T:Tups h vs n){v:Value}(hv:v∈vs):TupI h v (ky h v)∧(ky h v).length=n:=by
 obtain ⟨is,t,l⟩:=T.2 v hv
 rw [ky_eq t];exact ⟨t,l⟩
theorem Tups.keep {h h':Heap}{vs:List Value}{n:Nat}(T:Tups h vs n)(k:∀ b o,h.get? b=some o→h'.get? b=some o):Tups h' vs n:=⟨T.1,fun v hv=>(T.2 v hv).imp fun _ z=>⟨z.1.keep k,z.2⟩⟩
theorem kind_tups {vs:List Value}{n:Nat}{Q:SortKind→Shared→Prop}(T:Tups s.heap vs n)(h1:1≤vs.length)(h:Q (tuples' true) s):wpAny (model prog w) A (keyKind' vs.toArray) Q E s:=by
 have key:∀ vs:List Value,(∀ v∈vs,∃ is,TupI s.heap v is∧is.length=n)→∃ fs,PySem.W.KatTups s.heap vs fs∧fs.length=vs.length∧∀ f∈fs,∃ i t,f=Value.int i t:=fun vs=>by
  induction vs with
  |nil=>intro _;exact ⟨[],.nil,rfl,fun _ h=>(by cases h)⟩
  |cons v vs ih=>
   intro hv
   obtain ⟨fs,k1,k2,k3⟩:=ih fun u hu=>hv u (.tail _ hu)
   obtain ⟨is,⟨a,o,⟨xs⟩,m,rfl,g1,g2,g3,g4⟩,l⟩:=hv v (.head _)
   cases g4 with
   |nil=>exact absurd T.1 (by rw [←l];exact Nat.lt_irrefl 0)
   |cons i t _=>exact ⟨.int i t::fs,.cons g1 g2 g3 rfl k1,congrArg Nat.succ k2,fun f hf=>(List.mem_cons.mp hf).elim (fun e=>⟨i,t,e⟩) (k3 f)⟩
 obtain ⟨fs,k1,k2,k3⟩:=key vs T.2
 refine PySem.W.kat_kind (T:=.type "int") k1 (k2▸h1) (fun v hv=>?_) rfl ?_
 ·obtain ⟨i,t,rfl⟩:=k3 v hv
  exact PySem.W.Looks.of_pure rfl
 ·exact h
theorem sorted_tups {l:Addr}{vs:List Value}{m:Nat}{Q:Value→Shared→Prop}(hl:s.heap.IsList l vs.toArray)(T:Tups s.heap vs m)(hz:vs.length≤sizeLine)
  (h:∀ out:List Value,out.Perm vs→out.Pairwise (fun x y=>lexLt (ky s.heap y) (ky s.heap x)=false)→Q (.ref (s.heap.objs.size+1)) {s with heap:=sortedAll s.heap vs out.toArray}):wpAny (model prog w) A (call (.builtin "sorted") [.ref l]) Q E s:=
 sorted_gen (κ:=tuples' true) (kf:=ky s.heap) hl ⟨fun v hv=>(T.at hv).2,fun h' k x hx y hy A E Q q=>key_lt (s:={s with heap:=h'}) ((T.at hx).1.keep k) ((T.at hy).1.keep k) ((T.at hx).2.trans (T.at hy).2.symm) q,fun h' k h2 A E Q q=>kind_tups (s:={s with heap:=h'}) (T.keep k) (Nat.le_of_succ_le h2) q⟩ hz h
noncomputable def kI:Value→List Int
 | .int i _=>[i]
 |_=>[0]
theorem lex_one {i j:Int}:lexLt [i] [j]=decide (i<j):=by
 show (if i=j then false else decide (i<j))=_
 split
 ·rename_i q;rw [q,decide_eq_false (Int.lt_irrefl _)]
 ·rfl
theorem ints_kI {vs:List Value}{ns:List Int}(hI:IntsAre vs ns):vs.map kI=ns.map fun i=>[i]:=by
 induction hI with
 |nil=>rfl
 |cons i t _ ih=>rw [List.map_cons,List.map_cons,ih];rfl
theorem ints_of {vs:List Value}{ns:List Int}(hI:IntsAre vs ns):∀ v∈vs,∃ i t,v=Value.int i t:=by
 induction hI with
 |nil=>exact fun _ h=>by cases h
 |cons i t _ ih=>
  intro v hv
  cases hv with
  |head=>exact ⟨i,t,rfl⟩
  |tail _ hv=>exact ih v hv
theorem of_ints {vs:List Value}:(∀ v∈vs,∃ i t,v=Value.int i t)→∃ ns,IntsAre vs ns:=by
 induction vs with
 |nil=>exact fun _=>⟨[],.nil⟩
 |cons v vs ih=>
  intro h
  obtain ⟨i,t,rfl⟩:=h v (.head _)
  exact (ih fun u hu=>h u (.tail _ hu)).imp' _ fun ns z=> .cons i t z
theorem map_one {a b:List Int}(h:(a.map fun i=>[i]).Perm (b.map fun i=>[i])):a.Perm b:=by
 have e:∀ l:List Int,(l.map fun i=>[i]).map (fun l=>l.headD 0)=l:=fun l=>by rw [List.map_map];exact List.map_id l
 rw [←e a,←e b];exact h.map _
theorem sorted_asc {l:Addr}{vs:List Value}{ns:List Int}{Q:Value→Shared→Prop}(hl:s.heap.IsList l vs.toArray)(hI:IntsAre vs ns)(hasc:ns.Pairwise (· ≤ ·))(hz:vs.length≤sizeLine)
  (h:∀ out:Array Value,IntsAre out.toList ns→Q (.ref (s.heap.objs.size+1)) {s with heap:=sortedAll s.heap vs out}):wpAny (model prog w) A (call (.builtin "sorted") [.ref l]) Q E s:=by
 refine sorted_gen (κ:=oneType') (kf:=kI) (m:=1) hl ⟨fun v hv=>?_,fun h' k x hx y hy A E Q q=>?_,fun h' k h2 A E Q q=>?_⟩ hz fun out a1 a2=>h out.toArray ?_
 ·obtain ⟨i,t,rfl⟩:=ints_of hI v hv;rfl
 ·obtain ⟨i,t,rfl⟩:=ints_of hI x hx
  obtain ⟨j,u,rfl⟩:=ints_of hI y hy
  rw [keyLt'_oneType]
  exact oneLt_int (lex_one▸q)
 ·cases vs with
  |nil=>exact absurd h2 (Nat.not_succ_le_zero _)
  |cons v₁ vs=>
   cases vs with
   |nil=>exact absurd (Nat.le_of_succ_le_succ h2) (Nat.not_succ_le_zero _)
   |cons v₂ rest=>rw [keyKind_ints hI];exact wpAny_pure q
 ·obtain ⟨ms,hm⟩:=of_ints fun v hv=>ints_of hI v (a1.mem_iff.mp hv)
  have p:ms.Perm ns:=map_one (by rw [←ints_kI hm,←ints_kI hI];exact a1.map _)
  have q:ms.Pairwise (· ≤ ·):=by
   have:(out.map kI).Pairwise (fun x y=>lexLt y x=false):=List.pairwise_map.mpr a2
   rw [ints_kI hm] at this
   exact (List.pairwise_map.mp this).imp fun z=>by rw [lex_one] at z;exact Int.not_lt.mp (of_decide_eq_false z)
  obtain rfl:ms=ns:=p.eq_of_pairwise (fun x y _ _ p q=>Int.le_antisymm p q) q hasc
  exact hm
end
end Mine
end
section
namespace Mine
open PySem
section
variable {W:Amb}{fs:List Env}{Ψ Ψ':Psi}{H:MH}{s s':Shared}{A:Around}{E:Value→Shared→Prop}{Q:MV→MH→Prop}
theorem PostE.grown {a:Addr}{items:Array Value}{n:Nat}{vs:List MV}{h':Heap}{tk:Nat}(S:St W fs Ψ H s)(hk:∀ b o,s.heap.get? b=some o→h'.get? b=some o)(ha:s.heap.objs.size≤a)
  (hl:IsL h' a items n) (hv:All2 (VRel Ψ) items.toList vs) (hb:vs.length≤bigList) (h:New H Q vs):PostE W fs Ψ Q (.ref a) {s with heap:=h',toks:=tk}:=
 .placed (s':={s with heap:=h',toks:=tk}) S hk (Heap.get?_none_of_le ha) (W.big.elim fun _ x=>x.elim fun _ y=>beq_eq_false_iff_ne.mpr (Nat.ne_of_gt (Nat.lt_of_lt_of_le (Nat.lt_trans y.1 (Heap.lt_size (S.base _ _ y.2))) ha))) hl hv hb rfl rfl h
theorem PostE.same {v:Value}{mv:MV}{h':Heap}{tk:Nat}(S:St W fs Ψ H s)(hk:∀ b o,s.heap.get? b=some o→h'.get? b=some o)(hv:VRel Ψ v mv)(h:Q mv H):PostE W fs Ψ Q v {s with heap:=h',toks:=tk}:=
 .now (S.of_all (s':={s with heap:=h',toks:=tk}) hk rfl rfl) hv h
theorem bools_of {vs:List Value}{bs:List Bool}(h:All2 (VRel Ψ) vs (bs.map .bool)):vs=bs.map Value.bool:=by
 induction bs generalizing vs with
 |nil=>cases h;rfl
 |cons i is ih=>cases h with|cons hv t=>obtain rfl:=vbool hv;rw [ih t];rfl
noncomputable def biVal:String→Value
 |"range"=> .type "range"
 |"list"=> .type "list"
 |"str"=> .type "str"
 |"int"=> .type "int"
 |b=> .builtin b
theorem all2_1 {α β:Type}{R:α→β→Prop}{l:List α}{b:β}(h:All2 R l [b]):∃ a,l=[a]∧R a b:=by
 cases h with|cons h t=>cases t;exact ⟨_,rfl,h⟩
theorem all2_2 {α β:Type}{R:α→β→Prop}{l:List α}{b c:β}(h:All2 R l [b,c]):∃ a a',l=[a,a']∧R a b∧R a' c:=by
 cases h with|cons h t=>obtain ⟨a',rfl,h'⟩:=all2_1 t;exact ⟨_,_,rfl,h,h'⟩
theorem arg_ref {l:List Value}{a:Addr}(h:All2 (VRel Ψ) l [.ref a]):l=[.ref a]:=by obtain ⟨v,rfl,h1⟩:=all2_1 h;rw [vref h1]
theorem arg_int {l:List Value}{a:Int}(h:All2 (VRel Ψ) l [.int a]):∃ t,l=[.int a t]:=by obtain ⟨v,rfl,h1⟩:=all2_1 h;obtain ⟨t,rfl⟩:=vint h1;exact ⟨t,rfl⟩
theorem arg_ints {l:List Value}{a b:Int}(h:All2 (VRel Ψ) l [.int a,.int b]):∃ t u,l=[.int a t,.int b u]:=by
 obtain ⟨v,v',rfl,h1,h2⟩:=all2_2 h;obtain ⟨t,rfl⟩:=vint h1;obtain ⟨u,rfl⟩:=vint h2;exact ⟨t,u,rfl⟩
theorem arg_int3 {l:List Value}{a b c:Int}(h:All2 (VRel Ψ) l [.int a,.int b,.int c]):∃ t u v,l=[.int a t,.int b u,.int c v]:=by
 cases h with|cons h t=>obtain ⟨x,rfl⟩:=vint h;obtain ⟨u,v,rfl⟩:=arg_ints t;exact ⟨_,_,_,rfl⟩
theorem newRange {a b c:Int}{t u v:Tok}{tk:Nat}(S:St W fs Ψ H s)(hs:smallI a∧smallI b∧smallI c∧0<c)(h:Q (.rng a b c) H):
  PostE W fs Ψ Q (.ref s.heap.objs.size) {s with heap:=s.heap.push {cls:=.type "range",data:=.fields #[.int a t,.int b u,.int c v]},toks:=tk}:=
 ⟨_,H,.rng a b c,S.push (s':={s with heap:=s.heap.push {cls:=.type "range",data:=.fields #[.int a t,.int b u,.int c v]},toks:=tk}) (k:=.rng a b c) rfl ⟨⟨t,u,v,rfl⟩,hs⟩ rfl rfl rfl,
  S.pushKeep _,.rng (Psi.set_self _ _ _),h⟩
theorem small0:smallI 0:=⟨by decide,by decide⟩
theorem small1:smallI 1:=⟨by decide,by decide⟩
theorem all_getD (bs:List Bool):(List.range bs.length).all (fun i=>bs.getD i false)=bs.all id:=by
 induction bs with
 |nil=>rfl
 |cons b bs ih=>rw [List.length_cons,List.range_succ_eq_map,List.all_cons,List.all_map,List.all_cons,←ih];rfl
theorem bi_all {a:Addr}{bs:List Bool}(S:St W fs Ψ H s)(hh:A.handled=none)(hl:LstAt H a (bs.map .bool))(h:Q (.bool (bs.all id)) H):wpAny W.M A (call (.builtin "all") [.ref a]) (PostE W fs Ψ Q) E s:=by
 obtain ⟨items,l1,r1,z,_⟩:=S.lstAt hl
 have e:=bools_of r1
 rw [List.length_map] at z
 have hne:a≠s.heap.objs.size:=Nat.ne_of_lt (l1.elim fun _ q=>Heap.lt_size q.1)
 refine call_all_walk (wpAny_pyIter_list l1 ⟨_,_,_,_,_,_,fun i=>bs.getD i false,rfl,Walks.list (A:=A.in1) hh _ a hne items,⟨⟨_,Heap.get?_push_size _ rfl,rfl,rfl⟩,l1.push _⟩,?_,?_⟩)
 ·intro i v s2 QQ EE hP hQ
  have:items.toList[i]? =some v:=(Array.getElem?_toList ..).trans hP
  rw [e,List.getElem?_map] at this
  obtain ⟨b,hb',rfl⟩:=Option.map_eq_some_iff.mp this
  have hQ':QQ (bs.getD i false) s2:=hQ
  rw [List.getD_eq_getElem?_getD,hb'] at hQ'
  exact wpAny_truthy_bool hQ'
 ·intro h' tk hk
  rw [z,all_getD]
  show PostE W fs Ψ Q _ {s with heap:=h',toks:=tk}
  exact .same S (fun b o e=>hk b o (fun q=>Nat.ne_of_lt (Heap.lt_size e) (List.mem_singleton.mp q)) (Heap.get?_push_of_some _ e)) .bool h
theorem keys_of:∀(l:List Value) (kvs:List (Int×Value)) (es:List (Int×MV)),l.length=kvs.length→All2 (ERel Ψ) kvs es→
  (∀(j:Nat) (v:Value),l[j]? =some v→∃ k x,kvs[j]? =some (k,x)∧(intKind W.prog W.w).is k v=true)→All2 (VRel Ψ) l (es.map fun e=>MV.int e.1):=by
 intro l kvs es hl r
 induction r generalizing l with
 |nil=>intro _;cases l with|nil=>exact .nil|cons _ _=>cases hl
 | @cons p q kvs es h1 _ ih=>
  intro hv
  cases l with
  |nil=>cases hl
  |cons v l=>
   obtain ⟨k,x,e1,e2⟩:=hv 0 v rfl
   obtain rfl:=Option.some.inj e1
   obtain ⟨t',rfl⟩:=Value.isInt_shape e2
   refine .cons ?_ (ih l (Nat.succ.inj hl) fun j v' e=>hv (j+1) v' e)
   show VRel Ψ (.int k t') (.int q.1)
   rw [←h1.1];exact .int
theorem bi_listD {a:Addr}{es:List (Int×MV)}(S:St W fs Ψ H s)(hh:A.handled=none)(hl:H a=some (.dct es))(hb:es.length≤bigList)(h:New H Q (es.map fun e=> .int e.1)):wpAny W.M A (call (.type "list") [.ref a]) (PostE W fs Ψ Q) E s:=by
 obtain ⟨kvs,d,r,ns⟩:=S.dct hl
 obtain ⟨ep,hda⟩:=d.dictAt
 refine PySem.W.kdl_call (PySem.W.kdl_dict ns) hh hda (by rw [r.length_eq];exact big_le hb) fun h' tk acc' c' hk hS hacc=>?_
 exact .grown S hk (Nat.le_refl _) hS (keys_of _ _ _ (by rw [Array.length_toList];exact hacc.1) r fun j v e=>hacc.2 j v (by rw [←Array.getElem?_toList];exact e)) (by rw [List.length_map];exact hb) h
theorem all2_get {α β:Type}{R:α→β→Prop}:∀{l:List α} {r:List β},l.length=r.length→(∀(j:Nat) a b,l[j]? =some a→r[j]? =some b→R a b)→All2 R l r
 | [],[],_,_=> .nil
 |a::l,b::r,h,k=> .cons (k 0 a b rfl rfl) (all2_get (Nat.succ.inj h) fun j a b e1 e2=>k (j+1) a b e1 e2)
theorem bi_listR {x:Addr}{a b:Int}(S:St W fs Ψ H s)(hh:A.handled=none)(hl:Ψ x=some (.rng a b 1))(hb:(rangeL a b 1).length≤bigList)(h:New H Q ((rangeL a b 1).map .int)):wpAny W.M A (call (.type "list") [.ref x]) (PostE W fs Ψ Q) E s:=by
 obtain ⟨⟨t,u,v,hr⟩,hs⟩:=rng_at S hl
 have hn:=(rangeSize_le (a:=a) (b:=b) hs.2.2.2).1
 have hb':=big_le hb
 rw [rangeL_length] at hb'
 refine call_list_range hh hr (small_of hs) (Int.toNat_of_nonneg hn).symm hb' fun h' tk acc' c' hk hS hacc=>?_
 refine .grown S hk (Nat.le_refl _) hS ?_ (by rw [List.length_map];exact hb) h
 refine all2_get (by rw [List.length_map,rangeL_length,Array.length_toList];exact hacc.1) fun j y z e1 e2=>?_
 obtain ⟨t',rfl⟩:=hacc.2 j y (by rw [←Array.getElem?_toList];exact e1)
 rw [List.getElem?_map] at e2
 obtain ⟨i,hi,rfl⟩:=Option.map_eq_some_iff.mp e2
 unfold rangeL at hi
 rw [List.getElem?_map] at hi
 obtain ⟨m,hm,rfl⟩:=Option.map_eq_some_iff.mp hi
 obtain ⟨hm1,hm2⟩:=List.getElem?_eq_some_iff.mp hm
 rw [List.getElem_range] at hm2
 subst hm2
 rw [Int.mul_one,Int.one_mul]
 exact .int
theorem bi_max {a:Addr}{is:List Int}{m:Int}(S:St W fs Ψ H s)(hh:A.handled=none)(hl:LstAt H a (is.map .int))(hm:m∈is)(hx:∀ i∈is,i≤m)(h:Q (.int m) H):wpAny W.M A (call (.builtin "max") [.ref a]) (PostE W fs Ψ Q) E s:=by
 obtain ⟨items,l1,r1,z,_⟩:=S.lstAt hl
 have hI:=intsAre_of r1
 obtain ⟨xs,e⟩:=hI.allInts.items
 have hns:is=xs.toList.map (·.1):=by rw [←hI.numsOf,←nums_intItems,←e]
 have hln:is.length=xs.size:=by rw [hns,List.length_map,Array.length_toList]
 have hsz:0<xs.size:=hln▸List.length_pos_of_mem hm
 have l2:s.heap.IsList a (intItems xs):=by rw [←e];exact l1
 refine max_intList hh l2 hsz fun v h' tk hv' hk=>?_
 obtain ⟨t,rfl⟩:=intItems_at hv'
 obtain ⟨g1,g2⟩:=argBest_gt (numAt xs) (xs.size-1)
 obtain ⟨j,hj,hj'⟩:=PySem.mem_getD (hns▸hm)
 rw [List.length_map,Array.length_toList] at hj
 have m3:=g2 j (Nat.le_sub_one_of_lt hj)
 have hlt:argBest (fun i j=>decide (numAt xs i>numAt xs j)) (xs.size-1)<is.length:=by rw [hln];exact Nat.lt_of_le_of_lt g1 (Nat.sub_one_lt_of_lt hsz)
 have m2:=hx _ (PySem.getD_mem hlt)
 rw [PySem.numAt_eq,PySem.numAt_eq,←hns] at m3
 rw [←hns] at hj'
 rw [hj'] at m3
 rw [PySem.numAt_eq,←hns,Int.le_antisymm m2 m3]
 exact .same S hk .int h
theorem ints_all2 {l:List Value}{is:List Int}(h:PyProof.Rows.IntsAre l is):All2 (VRel Ψ) l (is.map .int):=by
 induction h with
 |nil=>exact .nil
 |cons _ _ _ ih=>exact .cons .int ih
theorem bi_sortedT {a:Addr}{ls:List (List Int)}{n:Nat}(S:St W fs Ψ H s)(hl:LstAt H a (ls.map tupI))(h1:1≤n)(hn:∀ is∈ls,is.length=n)(h:∀ ls':List (List Int),ls'.Perm ls→ls'.Pairwise (fun x y=>lexLt y x=false)→New H Q (ls'.map tupI)):wpAny W.M A (call (.builtin "sorted") [.ref a]) (PostE W fs Ψ Q) E s:=by
 obtain ⟨items,l1,r1,z,b⟩:=S.lstAt hl
 have key:∀{vs:List Value} {ls:List (List Int)},All2 (VRel Ψ) vs (ls.map tupI)→(∀ is∈ls,is.length=n)→(∀ v∈vs,∃ is,TupI s.heap v is∧is.length=n∧VRel Ψ v (tupI is))∧ls=vs.map (ky s.heap):=fun {vs ls} r=>by
  induction ls generalizing vs with
  |nil=>intro _;cases r;exact ⟨fun _ h=>(by cases h),rfl⟩
  |cons is ls ih=>
   intro hn
   rw [List.map_cons] at r
   cases r with
   |cons hv r=>
    obtain ⟨k1,k2⟩:=ih r fun js hj=>hn js (.tail _ hj)
    obtain ⟨x,rfl,hx⟩:=vtup hv
    obtain ⟨its,⟨o,g1,g2,m,g3⟩,r2,_,_⟩:=tup_at S hx
    have t:TupI s.heap (.ref x) is:=⟨x,o,its,m,rfl,g1,g2,g3,intsAre_of r2⟩
    refine ⟨fun v hv'=>?_,?_⟩
    ·rcases List.mem_cons.mp hv' with rfl|hv'
     ·exact ⟨is,t,hn is (.head _),hv⟩
     ·exact k1 v hv'
    ·rw [List.map_cons,ky_eq t,←k2]
 obtain ⟨k1,k2⟩:=key r1 hn
 have b':ls.length≤bigList:=by rw [List.length_map] at b;exact b
 have zl:items.toList.length=ls.length:=by rw [Array.length_toList,z,List.length_map]
 refine sorted_tups (vs:=items.toList) (m:=n) (by rw [Array.toArray_toList];exact l1) ⟨h1,fun v hv=>(k1 v hv).imp fun _ z=>⟨z.1,z.2.1⟩⟩ (by rw [zl];exact big_le b') fun out a1 a2=>?_
 obtain ⟨e,he⟩:=PyProof.Rows.sortedAll_at s.heap items.toList out.toArray
 have p1:(out.map (ky s.heap)).Perm ls:=by rw [k2];exact a1.map _
 refine .grown (tk:=s.toks) S (fun _ _=>PyProof.Rows.sortedAll_old) (Nat.le_succ _) he ?_ ?_ (h _ p1 (List.pairwise_map.mpr a2))
 ·show All2 (VRel Ψ) out ((out.map (ky s.heap)).map tupI)
  refine all2_get (by rw [List.length_map,List.length_map]) fun j y m e1 e2=>?_
  rw [List.getElem?_map,List.getElem?_map,e1] at e2
  obtain rfl:=Option.some.inj e2
  obtain ⟨is,t,_,hv⟩:=k1 y (a1.mem_iff.mp (List.mem_of_getElem? e1))
  rw [ky_eq t];exact hv
 ·rw [List.length_map,p1.length_eq];exact b'
theorem op_bi {hd:Bool}{b:String}{args:List Value}{vs:List MV}(S:St W fs Ψ H s)(hv:All2 (VRel Ψ) args vs)(hh:hd=false→A.handled=none)(h:BiR hd H Q b vs):
  wpAny W.M A (call (biVal b) args) (PostE W fs Ψ Q) E s:=by
 cases h with
 |lenL h q=>
  obtain rfl:=arg_ref hv
  obtain ⟨items,l,r,z,b⟩:=S.lstAt h
  exact Calls.call_len_list l (by rw [z];unfold bigList at b;lia) (z.symm▸ .int S q)
 |lenT q=>
  obtain ⟨v,rfl,h1⟩:=all2_1 hv
  obtain ⟨a,rfl,h2⟩:=vtup h1
  obtain ⟨items,ht,r,z,b⟩:=tup_at S h2
  exact PyProof.Rows.len_tuple ht (by rw [z];unfold bigList at b;lia) (z.symm▸ .int S q)
 |range1 h q=>obtain ⟨t,rfl⟩:=arg_int hv;exact call_range_1 (newRange S ⟨small0,h,small1,by decide⟩ q)
 |range2 h0 h q=>obtain ⟨t,u,rfl⟩:=arg_ints hv;exact call_range_2 (newRange S ⟨h0,h,small1,by decide⟩ q)
 | @min2 a b h q=>
  obtain ⟨t,u,rfl⟩:=arg_ints hv
  refine min_two_ints (hh h) fun h' tk hk=> .same (mv:=.int (minI a b)) S hk ?_ q
  unfold minI;split<;>exact .int
 | @max2 a b h q=>
  obtain ⟨t,u,rfl⟩:=arg_ints hv
  refine max_two_ints (hh h) fun h' tk hk=> .same (mv:=.int (maxI a b)) S hk ?_ q
  unfold maxI;split<;>exact .int
 |maxL h hl hm hx q=>obtain rfl:=arg_ref hv;exact bi_max S (hh h) hl hm hx q
 |allL h hl q=>obtain rfl:=arg_ref hv;exact bi_all S (hh h) hl q
 |listL h hl q=>
  obtain rfl:=arg_ref hv
  obtain ⟨items,⟨ol,l1,hc,n,hdt⟩,r1,z,b⟩:=S.lstAt hl
  exact call_list_seq _ (.inl rfl) l1 hc hdt (fun h' c' hk hS=> .grown (tk:=s.toks) S hk (Nat.le_refl _) hS r1 b q) (z▸big_le b)
 |sortedL hl ha q=>
  obtain rfl:=arg_ref hv
  obtain ⟨items,l1,r1,z,b⟩:=S.lstAt hl
  refine sorted_asc (vs:=items.toList) (by rw [Array.toArray_toList];exact l1) (intsAre_of r1) ha (by rw [Array.length_toList,z];exact big_le b) fun out ho=>?_
  obtain ⟨e,he⟩:=PyProof.Rows.sortedAll_at s.heap items.toList out
  exact .grown (tk:=s.toks) S (fun _ _=>PyProof.Rows.sortedAll_old) (Nat.le_succ _) he (ints_all2 ho) b q
 |listD h hl hb q=>obtain rfl:=arg_ref hv;exact bi_listD S (hh h) hl hb q
 |sortedT hl h1 hn q=>obtain rfl:=arg_ref hv;exact bi_sortedT S hl h1 hn q
 |lenS hl q=>obtain ⟨v,rfl,h1⟩:=all2_1 hv;obtain ⟨t,rfl⟩:=vstr h1;exact P.len_str (by unfold bigList at hl;lia) (.now (S.toks _) .int q)
 | @strI i h q=>
  obtain ⟨t,rfl⟩:=arg_int hv
  refine P.str_of_int ?_ (.now (S.toks _) .str q)
  by_cases z:i.natAbs=0
  ·rw [z];decide
  ·exact Nat.lt_trans ((Nat.log2_lt z).mpr h) (by decide)
 |intS hl hn q=>obtain ⟨v,rfl,h1⟩:=all2_1 hv;obtain ⟨t,rfl⟩:=vstr h1;exact PySem.W.KIN.call_text hn hl (.now (S.toks _) .int q)
 | @range3 a b c h0 h1 h2 hc q=>
  obtain ⟨t,u,v,rfl⟩:=arg_int3 hv
  refine call_range_3 (by lia) (newRange S ⟨h0,h1,h2,hc⟩ q) (Or.inl (PyProof.noPylong_of_log2 ?_))
  obtain ⟨c1,c2⟩:=h2
  exact Nat.lt_trans ((Nat.log2_lt (by lia)).mpr (show c.natAbs<2^41 by lia)) (by decide)
 |listT h q=>
  obtain ⟨v,rfl,h1⟩:=all2_1 hv
  obtain ⟨a,rfl,h2⟩:=vtup h1
  obtain ⟨items,⟨ol,l1,hc,n,hdt⟩,r,z,b⟩:=tup_at S h2
  exact call_list_seq _ (.inr rfl) l1 hc hdt (fun h' c' hk hS=> .grown (tk:=s.toks) S hk (Nat.le_refl _) hS r b q) (z▸big_le b)
 |listR h hb q=>
  obtain ⟨v,rfl,h1⟩:=all2_1 hv
  obtain ⟨x,rfl,ha⟩:=vrng h1
  exact bi_listR S (hh h) ha hb q
end
end Mine
end
section
namespace Mine
open PySem
abbrev Names:=List (Str×NameKind)
noncomputable def strEqL:List Nat→List Nat→Bool
 | [],[]=>true
 |a::r,b::q=>Nat.beq a b&&strEqL r q
 |_,_=>false
noncomputable def strEq (a b:Str):Bool:=strEqL a.cps.toList b.cps.toList
theorem strEqL_eq:∀{a b:List Nat},strEqL a b=true→a=b
 | [],[],_=>rfl
 |_::_,_::_,h=>by
  simp only [strEqL,Bool.and_eq_true] at h
  rw [Nat.eq_of_beq_eq_true h.1,strEqL_eq h.2]
theorem strEq_eq {a b:Str}(h:strEq a b=true):a=b:=by
 obtain ⟨⟨a⟩⟩:=a;obtain ⟨⟨b⟩⟩:=b
 have:=strEqL_eq (a:=a) (b:=b) h
 rw [this]
structure Facts (W:Amb)(K:PySem.W.Frag):Prop where
 inn:K.In W.h₀
 top:∃ p loose mg mb,PySem.W.TopRead p loose mg mb W.h₀
 nolim:W.h₀.NoLimit
structure Cx (n:Nat)(hd:Bool)(A:Around)(fs:List Env)(env:Env)(nm:Names):Prop where
 frames:A.frames=some fs
 top:∃ e₀ outer,fs=e₀::outer∧e₀.frame=env.frame
 names:env.scope.names=nm
 hand:hd=false→A.handled=none
 depth:A.depth+n≤900
 units:A.units+4*n≤9000
section
variable {W:Amb}{fs:List Env}{Ψ Ψ₁:Psi}{H:MH}{s:Shared}{A:Around}{Q:MV→MH→Prop}{X:String→MH→Prop}
theorem lift {t:Sem Value}(K:Keep none_ Ψ Ψ₁)(h:wpAny W.M A t (PostE W fs Ψ₁ Q) (PostX W fs Ψ₁ X) s):wpAny W.M A t (PostE W fs Ψ Q) (PostX W fs Ψ X) s:=
 wpAny_mono h (fun _ _ x=>x.from K) fun _ _ x=>x.from K
end
variable (W:Amb)(K:PySem.W.Frag)(Δ:CallT)(n:Nat)
noncomputable def SndE (nm:Names)(e:ME)(x:PySem.Expr):Prop:=
 ∀ ⦃hd:Bool⦄{A:Around} {fs:List Env} {env:Env} {ρ:Sto} {Ψ:Psi} {H:MH} {s:Shared} {Q:MV→MH→Prop} {X:String→MH→Prop},
  Cx n hd A fs env nm→EnvRel Ψ env ρ→St W fs Ψ H s→wE Δ hd e ρ H Q X→wpAny W.M A (eval x env) (PostE W fs Ψ Q) (PostX W fs Ψ X) s
noncomputable def SndL (nm:Names)(es:MEs)(xs:List PySem.Expr):Prop:=
 ∀ ⦃hd:Bool⦄{A:Around} {fs:List Env} {env:Env} {ρ:Sto} {Ψ:Psi} {H:MH} {s:Shared} {pos:Pos} {Q:List MV→MH→Prop} {X:String→MH→Prop},
  Cx n hd A fs env nm→EnvRel Ψ env ρ→St W fs Ψ H s→wEs Δ hd es ρ H Q X→wpAny W.M A (spliced (backTo pos (starEach xs env))) (fun vs s'=>vs.length=xs.length∧PostL W fs Ψ Q vs s') (PostX W fs Ψ X) s
noncomputable def SndT (nm:Names)(e:ME)(x:PySem.Expr):Prop:=
 ∀ ⦃hd:Bool⦄{A:Around} {fs:List Env} {env:Env} {ρ:Sto} {Ψ:Psi} {H:MH} {s:Shared} {k:Bool→MH→Prop} {X:String→MH→Prop},
  Cx n hd A fs env nm→EnvRel Ψ env ρ→St W fs Ψ H s→wE Δ hd e ρ H (asTruth k) X→wpAny W.M A (isTrue x env (eval x env)) (PostB W fs Ψ k) (PostX W fs Ψ X) s
noncomputable def varKind (k:Option NameKind):Bool:=match k with
 |some .local|some .cell|some .free=>true
 |_=>false
noncomputable def isVar (nm:Names)(x:String)(id:Str):Bool:=strEq id (Str.ofString x)&&varKind (nm.lookup id)&& !(id==("__debug__":Str))&& !(id==("__classdict__":Str))&& !(x==".0")
noncomputable def isGlob (nm:Names)(x:String)(id:Str):Bool:=strEq id (Str.ofString x)&&(nm.lookup id==some .globalImplicit)&& !(id==("__debug__":Str))
variable {W K Δ n}
section
variable {nm:Names}
theorem monoE {A:Around}{fs:List Env}{Ψ:Psi}{s:Shared}{t:Sem Value}{Z:MV→MH→Prop}{X:String→MH→Prop}{R:Value→Shared→Prop}(h:wpAny W.M A t (PostE W fs Ψ Z) (PostX W fs Ψ X) s)
  (k:∀ Ψ₁ H₁ mv v s₁,St W fs Ψ₁ H₁ s₁→Keep none_ Ψ Ψ₁→VRel Ψ₁ v mv→Z mv H₁→R v s₁):wpAny W.M A t R (PostX W fs Ψ X) s:=
 wpAny_mono h (fun v s₁ p=>by cases p with|mk Ψ₁ H₁ mv S K hv q=>exact k Ψ₁ H₁ mv v s₁ S K hv q) fun _ _ x=>x
theorem monoB {A:Around}{fs:List Env}{Ψ:Psi}{s:Shared}{t:Sem Bool}{Z:Bool→MH→Prop}{X:String→MH→Prop}{R:Bool→Shared→Prop}(h:wpAny W.M A t (PostB W fs Ψ Z) (PostX W fs Ψ X) s)
  (k:∀ Ψ₁ H₁ b s₁,St W fs Ψ₁ H₁ s₁→Keep none_ Ψ Ψ₁→Z b H₁→R b s₁):wpAny W.M A t R (PostX W fs Ψ X) s:=
 wpAny_mono h (fun v s₁ p=>by cases p with|mk Ψ₁ H₁ S K q=>exact k Ψ₁ H₁ v s₁ S K q) fun _ _ x=>x
theorem snd_none {k:Nat}{pos:Pos}:SndE W Δ n nm .none (.Constant .none k pos):=by
 intro hd A fs env ρ Ψ H s Q X _ _ S h
 exact wpAny_pure (.now S .none h)
theorem snd_bool {b:Bool}{k:Nat}{pos:Pos}:SndE W Δ n nm (.bool b) (.Constant (.bool b) k pos):=by
 intro hd A fs env ρ Ψ H s Q X _ _ S h
 exact wpAny_pure (.now S .bool h)
theorem snd_int {i:Int}{k:Nat}{pos:Pos}:SndE W Δ n nm (.int i) (.Constant (.int i) k pos):=by
 intro hd A fs env ρ Ψ H s Q X _ _ S h
 exact wpAny_Constant_int (.int S h)
theorem snd_str {x:String}{k:Nat}{pos:Pos}:SndE W Δ n nm (.str x) (.Constant (.str (Str.ofString x)) k pos):=by
 intro hd A fs env ρ Ψ H s Q X _ _ S h
 exact Calls.Constant_str (.now (S.toks _) .str h)
theorem and_of {a b:Bool}(h:(a&&b)=true):a=true∧b=true:=Bool.and_eq_true_iff.mp h
theorem not_of {a:Bool}(h:(!a)=true):a=false:=Bool.not_eq_true' a▸h
theorem varKind_of {k:Option NameKind}(h:varKind k=true):k=some .local∨k=some .cell∨k=some .free:=by
 unfold varKind at h;split at h
 ·exact .inl rfl
 ·exact .inr (.inl rfl)
 ·exact .inr (.inr rfl)
 ·exact absurd h Bool.noConfusion
theorem loadVar {hd:Bool}{A:Around}{fs:List Env}{env:Env}{ρ:Sto}{Ψ:Psi}{H:MH}{s:Shared}{E:Value→Shared→Prop}{QQ:Value→Shared→Prop}{x:String}{id:Str}{v:MV}
  (C:Cx n hd A fs env nm) (R:EnvRel Ψ env ρ) (S:St W fs Ψ H s) (hx:isVar nm x id=true) (hv:ρ x=some v) (h:∀ w,VRel Ψ w v→QQ w s):wpAny W.M A (loadName env id) QQ E s:=by
 obtain ⟨hx,h5⟩:=and_of hx
 obtain ⟨hx,h4⟩:=and_of hx
 obtain ⟨hx,_⟩:=and_of hx
 obtain ⟨h1,h2⟩:=and_of hx
 obtain rfl:=strEq_eq h1
 have cl:∀{c:Addr},Ψ c=some (.cell (some v))→∃ o w,s.heap.get? c=some o∧o.data=.cell (some w)∧VRel Ψ w v:=fun hm=>by
  obtain ⟨o,ho,_,hf⟩:=S.typed _ _ hm
  exact (hf v rfl).elim fun w z=>⟨o,w,ho,z⟩
 rcases varKind_of (C.names▸h2) with hk|hk|hk
 ·obtain ⟨m,hm,hmv⟩:=R.loc
  obtain ⟨o,ho,ents,k,hd',hs,hf⟩:=S.typed _ _ hm
  obtain ⟨w,hw,hr⟩:=hf x v (hmv x v (beq_eq_false_iff_ne.mp (not_of h5)) hk hv)
  exact wpAny_loadName_local R.kind hk ⟨o,ents,k,ho,hd',hs,fun _=>rfl⟩ hw (h w hr)
 ·obtain ⟨c,hc,hm⟩:=R.val x v (.inl hk) hv
  obtain ⟨o,w,ho,hd',hr⟩:=cl hm
  exact wpAny_loadName_cell R.kind hk hc ⟨o,ho,hd'⟩ (h w hr)
 ·obtain ⟨c,hc,hm⟩:=R.val x v (.inr hk) hv
  obtain ⟨o,w,ho,hd',hr⟩:=cl hm
  exact wpAny_loadName_free R.kind hk hc ⟨o,ho,hd'⟩ (h w hr) (not_of h4)
theorem snd_var {x:String}{id:Str}{pos:Pos}(hx:isVar nm x id=true):SndE W Δ n nm (.var x) (.Name id pos):=by
 intro hd A fs env ρ Ψ H s Q X C R S h
 obtain ⟨v,hv,h⟩:=h
 exact wpAny_Name (loadVar C R S hx hv fun w hr=> .now S hr h) (not_of (and_of (and_of (and_of hx).1).1).2)
theorem loadGlob {hd:Bool}{A:Around}{fs:List Env}{env:Env}{ρ:Sto}{Ψ:Psi}{H:MH}{s:Shared}{E:Value→Shared→Prop}{QQ:Value→Shared→Prop}{x:String}{id:Str}{pos:Pos}{v:Value}
  (F:Facts W K) (C:Cx n hd A fs env nm) (R:EnvRel Ψ env ρ) (S:St W fs Ψ H s) (hx:isGlob nm x id=true) (hv:PySem.W.nsIn K mainGlobals (Str.ofString x)=some (some v)) (h:QQ v s):wpAny W.M A (eval (.Name id pos) env) QQ E s:=by
 obtain ⟨hx,h3⟩:=and_of hx
 obtain ⟨h1,h2⟩:=and_of hx
 replace h3:=not_of h3
 replace h2:=C.names▸eq_of_beq h2
 obtain rfl:=strEq_eq h1
 obtain ⟨p,loose,mg,mb,T⟩:=F.top
 refine Calls.Name_function_global R.kind h2 (Calls.loadGlobal_global (mg:=mg) ?_ (PySem.W.mg_of F.inn T.g hv) h) h3
 rw [R.glob]
 exact T.g.keeps S.base
theorem loadBlt {hd:Bool}{A:Around}{fs:List Env}{env:Env}{ρ:Sto}{Ψ:Psi}{H:MH}{s:Shared}{E:Value→Shared→Prop}{QQ:Value→Shared→Prop}{x:String}{id:Str}{pos:Pos}{v:Value}
  (F:Facts W K) (C:Cx n hd A fs env nm) (R:EnvRel Ψ env ρ) (S:St W fs Ψ H s) (hx:isGlob nm x id=true) (hv:PySem.W.nsIn K mainGlobals (Str.ofString x)=some none) (hb:bootBuiltins (Str.ofString x)=some v) (hn:Str.ofString x≠"__name__") (h:QQ v s):wpAny W.M A (eval (.Name id pos) env) QQ E s:=by
 obtain ⟨hx,h3⟩:=and_of hx
 obtain ⟨h1,h2⟩:=and_of hx
 replace h3:=not_of h3
 replace h2:=C.names▸eq_of_beq h2
 obtain rfl:=strEq_eq h1
 obtain ⟨p,loose,mg,mb,T⟩:=F.top
 refine Calls.Name_function_global R.kind h2 (Calls.loadGlobal_builtin (mg:=mg) (mb:=mb) ?_ (PySem.W.mg_none_of F.inn T.g hv) ?_ ((T.builtins _ hn).trans hb) h) h3
 ·rw [R.glob];exact T.g.keeps S.base
 ·rw [R.blt];exact T.b.keeps S.base
theorem snd_bin {op:BOp}{l r:ME}{l' r':PySem.Expr}{pos:Pos}(hl:SndE W Δ n nm l l')(hr:SndE W Δ n nm r r'):SndE W Δ n nm (.bin op l r) (.BinOp l' (opOf op) r' pos):=by
 intro hd A fs env ρ Ψ H s Q X C R S h
 refine wpAny_BinOp (monoE (hl C R S h) fun Ψ₁ H₁ ma a s₁ S₁ K₁ va h₁=>?_)
 refine wpAny_mono (monoE (hr C (R.keep K₁) S₁ h₁) fun Ψ₂ H₂ mb b s₂ S₂ K₂ vb h₂=>?_) (fun _ _ x=>x) fun _ _ x=>x.from K₁
 exact lift (K₁.trans K₂) (op_bin S₂ (va.mono K₂.fix) vb h₂)
theorem snd_neg {e:ME}{x:PySem.Expr}{pos:Pos}(he:SndE W Δ n nm e x):SndE W Δ n nm (.neg e) (.UnaryOp .USub x pos):=by
 intro hd A fs env ρ Ψ H s Q X C R S h
 refine wpAny_bind (monoE (he C R S h) fun Ψ₁ H₁ ma a s₁ S₁ K₁ va h₁=>?_)
 obtain ⟨i,rfl,h₁⟩:=h₁
 obtain ⟨t,rfl⟩:=vint va
 exact lift K₁ (wpAny_bind (wpAny_standAt (wpAny_holding (P.neg_int (.int S₁ h₁)))))
theorem snd_not {e:ME}{x:PySem.Expr}{pos:Pos}(he:SndE W Δ n nm e x):SndE W Δ n nm (.not e) (.UnaryOp .Not x pos):=by
 intro hd A fs env ρ Ψ H s Q X C R S h
 refine wpAny_bind (monoE (he C R S h) fun Ψ₁ H₁ ma a s₁ S₁ K₁ va h₁=>?_)
 obtain ⟨b,rfl,h₁⟩:=asTruth_of h₁
 obtain rfl:=vbool va
 exact lift K₁ (wpAny_bind (wpAny_standAt (wpAny_holding (PyProof.Rows.not_of (wpAny_truthy_bool (.now S₁ .bool h₁))))))
noncomputable def stopAt:BoolOp→Bool
 | .And=>false
 | .Or=>true
theorem boolOp_cons {A:Around}{fs:List Env}{Ψ:Psi}{s:Shared}{Q:MV→MH→Prop}{X:String→MH→Prop}{pos:Pos}{op:BoolOp}{t t':Sem Value}{rest:List (Sem Value)}{Z:Bool→MH→Prop}
  (h:wpAny W.M A t (PostE W fs Ψ (asTruth Z)) (PostX W fs Ψ X) s)
  (k:∀ Ψ₁ H₁ s₁ b,St W fs Ψ₁ H₁ s₁→Keep none_ Ψ Ψ₁→Z b H₁→if b=stopAt op then Q (.bool b) H₁ else wpAny W.M A (boolOp pos op (t'::rest)) (PostE W fs Ψ₁ Q) (PostX W fs Ψ₁ X) s₁):
  wpAny W.M A (boolOp pos op (t::t'::rest)) (PostE W fs Ψ Q) (PostX W fs Ψ X) s:=by
 refine wpAny_bind (monoE h fun Ψ₁ H₁ mv v s₁ S₁ K₁ va h₁=>?_)
 obtain ⟨b,rfl,h₁⟩:=asTruth_of h₁
 obtain rfl:=vbool va
 have:=k Ψ₁ H₁ s₁ b S₁ K₁ h₁
 refine wpAny_bind (wpAny_standAt (wpAny_bind (wpAny_holding (wpAny_truthy_bool ?_))))
 cases op<;>cases b<;>first
  |exact wpAny_pure ⟨Ψ₁,H₁,.bool _,S₁,K₁,.bool,this⟩
  |exact lift K₁ this
noncomputable def wB (Δ:CallT)(hd:Bool)(op:BoolOp)(es:MEs)(ρ:Sto)(H:MH)(Q:MV→MH→Prop)(X:String→MH→Prop):Prop:=match op with
 | .And=>wAnd Δ hd es ρ H Q X
 | .Or=>wOr Δ hd es ρ H Q X
theorem wB_one {hd:Bool}{op:BoolOp}{e:ME}{ρ:Sto}{H:MH}{Q:MV→MH→Prop}{X:String→MH→Prop}(h:wB Δ hd op (.cons e .nil) ρ H Q X):wE Δ hd e ρ H Q X:=by cases op<;>exact h
theorem wB_cons {hd:Bool}{op:BoolOp}{e e':ME}{es:MEs}{ρ:Sto}{H:MH}{Q:MV→MH→Prop}{X:String→MH→Prop}(h:wB Δ hd op (.cons e (.cons e' es)) ρ H Q X):
  ∃ Z,wE Δ hd e ρ H (asTruth Z) X∧∀ b H₁,Z b H₁→if b=stopAt op then Q (.bool b) H₁ else wB Δ hd op (.cons e' es) ρ H₁ Q X:=by
 cases op
 ·exact ⟨_,h,fun b H₁ z=>by cases b<;>exact z⟩
 ·exact ⟨_,h,fun b H₁ z=>by cases b<;>exact z⟩
noncomputable def SndAnd (nm:Names)(es:MEs)(xs:List PySem.Expr):Prop:=
 ∀ ⦃hd:Bool⦄{A:Around} {fs:List Env} {env:Env} {ρ:Sto} {Ψ:Psi} {H:MH} {s:Shared} {pos:Pos} {op:BoolOp} {Q:MV→MH→Prop} {X:String→MH→Prop},
  Cx n hd A fs env nm→EnvRel Ψ env ρ→St W fs Ψ H s→wB Δ hd op es ρ H Q X→wpAny W.M A (boolOp pos op (evalEach xs env)) (PostE W fs Ψ Q) (PostX W fs Ψ X) s
theorem sndAnd_one {e:ME}{x:PySem.Expr}(he:SndE W Δ n nm e x):SndAnd (W:=W) (Δ:=Δ) (n:=n) nm (.cons e .nil) [x]:=fun _=>fun C R S h=>he C R S (wB_one h)
theorem sndAnd_cons {e e':ME}{es:MEs}{x x':PySem.Expr}{xs:List PySem.Expr}(he:SndE W Δ n nm e x)(hr:SndAnd (W:=W) (Δ:=Δ) (n:=n) nm (.cons e' es) (x'::xs)):SndAnd (W:=W) (Δ:=Δ) (n:=n) nm (.cons e (.cons e' es)) (x::x'::xs):=by
 intro hd A fs env ρ Ψ H s pos op Q X C R S h
 obtain ⟨Z,h1,h2⟩:=wB_cons h
 refine boolOp_cons (rest:=evalEach xs env) (he C R S h1) fun Ψ₁ H₁ s₁ b S₁ K₁ z=>?_
 have:=h2 b H₁ z
 split at this
 ·rename_i q;rw [if_pos q];exact this
 ·rename_i q;rw [if_neg q];exact hr C (R.keep K₁) S₁ this
theorem snd_bop {op:BoolOp}{es:MEs}{e:ME}{xs:List PySem.Expr}{pos:Pos}(h:SndAnd (W:=W) (Δ:=Δ) (n:=n) nm es xs)(he:∀{hd ρ H Q X},wE Δ hd e ρ H Q X→wB Δ hd op es ρ H Q X):SndE W Δ n nm e (.BoolOp op xs pos):=fun _=>fun C R S z=>h C R S (he z)
theorem sndT_not {e:ME}{x:PySem.Expr}{pos:Pos}(he:SndT W Δ n nm e x):SndT W Δ n nm (.not e) (.UnaryOp .Not x pos):=by
 intro hd A fs env ρ Ψ H s k X C R S h
 exact PyProof.Rows.isTrue_not (monoB (he (k:=fun b H=>k (!b) H) C R S h) fun Ψ' H' b s' S K' q=>⟨Ψ',H',S,K',q⟩)
theorem sndT_plain {e:ME}{x:PySem.Expr}(he:SndE W Δ n nm e x)(hp:∀ env whole,isTrue x env whole=(do let v←whole;standAt x.pos;holding [v] (truthy v))):SndT W Δ n nm e x:=by
 intro hd A fs env ρ Ψ H s k X C R S h
 rw [hp]
 refine wpAny_bind (monoE (he C R S h) fun Ψ₁ H₁ mv v s₁ S₁ K₁ va h₁=>?_)
 obtain ⟨b,rfl,h₁⟩:=asTruth_of h₁
 obtain rfl:=vbool va
 exact wpAny_bind (wpAny_standAt (wpAny_holding (wpAny_truthy_bool ⟨Ψ₁,H₁,S₁,K₁,h₁⟩)))
theorem PostB.from {A:Around}{fs:List Env}{Ψ Ψ₁:Psi}{k:Bool→MH→Prop}{X:String→MH→Prop}{s:Shared}{t:Sem Bool}(K:Keep none_ Ψ Ψ₁)(h:wpAny W.M A t (PostB W fs Ψ₁ k) (PostX W fs Ψ₁ X) s):wpAny W.M A t (PostB W fs Ψ k) (PostX W fs Ψ X) s:=
 wpAny_mono (monoB h fun Ψ' H' b s' S K' q=>(⟨Ψ',H',S,K.trans K',q⟩:PostB W fs Ψ k b s')) (fun _ _ x=>x) fun _ _ x=>x.from K
noncomputable def SndAllT (nm:Names)(es:MEs)(xs:List PySem.Expr):Prop:=
 ∀ ⦃hd:Bool⦄{A:Around} {fs:List Env} {env:Env} {ρ:Sto} {Ψ:Psi} {H:MH} {s:Shared} {op:BoolOp} {k:Bool→MH→Prop} {X:String→MH→Prop},
  Cx n hd A fs env nm→EnvRel Ψ env ρ→St W fs Ψ H s→wB Δ hd op es ρ H (asTruth k) X→wpAny W.M A (allTrue op xs env) (PostB W fs Ψ k) (PostX W fs Ψ X) s
theorem allTrue_cons {M:Model}{A:Around}{op:BoolOp}{x:PySem.Expr}{xs:List PySem.Expr}{env:Env}{Q:Bool→Shared→Prop}{E:Value→Shared→Prop}{s:Shared}
  (h:wpAny M A (isTrue x env (eval x env)) (fun b s'=>if b=stopAt op then Q b s' else wpAny M A (allTrue op xs env) Q E s') E s):wpAny M A (allTrue op (x::xs) env) Q E s:=by
 cases op
 ·exact wpAny_allTrue_And_cons (wpAny_mono h (fun b s' q=>by cases b<;>exact q) fun _ _ x=>x)
 ·exact wpAny_allTrue_Or_cons (wpAny_mono h (fun b s' q=>by cases b<;>exact q) fun _ _ x=>x)
theorem allTrue_nil {M:Model}{A:Around}{op:BoolOp}{env:Env}{Q:Bool→Shared→Prop}{E:Value→Shared→Prop}{s:Shared}(h:Q (!stopAt op) s):wpAny M A (allTrue op [] env) Q E s:=by
 cases op
 ·exact wpAny_allTrue_And_nil h
 ·exact wpAny_allTrue_Or_nil h
theorem bne_not {a b:Bool}(h:¬ a=b):a=!b:=by cases a<;>cases b<;>first|rfl|exact absurd rfl h
theorem sndAllT_one {e:ME}{x:PySem.Expr}(he:SndT W Δ n nm e x):SndAllT (W:=W) (Δ:=Δ) (n:=n) nm (.cons e .nil) [x]:=by
 intro hd A fs env ρ Ψ H s op k X C R S h
 refine allTrue_cons (wpAny_mono (he C R S (wB_one h)) (fun b s₁ h₁=>?_) fun _ _ x=>x)
 by_cases q:b=stopAt op
 ·rw [if_pos q];exact h₁
 ·rw [if_neg q];exact allTrue_nil (bne_not q▸h₁)
theorem sndAllT_cons {e e':ME}{es:MEs}{x x':PySem.Expr}{xs:List PySem.Expr}(he:SndT W Δ n nm e x)(hr:SndAllT (W:=W) (Δ:=Δ) (n:=n) nm (.cons e' es) (x'::xs)):SndAllT (W:=W) (Δ:=Δ) (n:=n) nm (.cons e (.cons e' es)) (x::x'::xs):=by
 intro hd A fs env ρ Ψ H s op k X C R S h
 obtain ⟨Z,h1,h2⟩:=wB_cons h
 refine allTrue_cons (monoB (he C R S h1) fun Ψ₁ H₁ b s₁ S₁ K₁ z=>?_)
 have:=h2 b H₁ z
 by_cases q:b=stopAt op
 ·rw [if_pos q] at this ⊢;exact ⟨Ψ₁,H₁,S₁,K₁,this⟩
 ·rw [if_neg q] at this ⊢;exact PostB.from K₁ (hr C (R.keep K₁) S₁ this)
theorem sndT_bop {op:BoolOp}{es:MEs}{e:ME}{xs:List PySem.Expr}{pos:Pos}(h:SndAllT (W:=W) (Δ:=Δ) (n:=n) nm es xs)(he:∀{hd ρ H Q X},wE Δ hd e ρ H Q X→wB Δ hd op es ρ H Q X):SndT W Δ n nm e (.BoolOp op xs pos):=fun _=>fun C R S z=>wpAny_isTrue_BoolOp (h C R S (he z))
end
end Mine
end
section
namespace Mine
open PySem
section
variable {W:Amb}{K:PySem.W.Frag}{Δ:CallT}{n:Nat}{nm:Names}
theorem wpAny_release {M:Model}{A:Around}{E:Value→Shared→Prop}{s:Shared}{vs keep:List Value}{Q:Unit→Shared→Prop}(h:Q () s):wpAny M A (release vs keep) Q E s:=fun Γ p _=>by
 rw [Sem.wp_release];exact h
noncomputable def notSet (x:PySem.Expr):Bool:=!Nat.beq x.ctorIdx 7
theorem notSet_marks {op:CmpOp}{e:PySem.Expr}(h:notSet e=true):behindInMarks op e=false:=by
 cases e<;>first|rfl|exact absurd h Bool.noConfusion
noncomputable def SndC (W:Amb)(Δ:CallT)(n:Nat)(nm:Names)(c:MCs)(ops:List CmpOp)(xs:List PySem.Expr):Prop:=
 ∀ ⦃hd:Bool⦄{A:Around} {fs:List Env} {env:Env} {ρ:Sto} {Ψ:Psi} {H:MH} {s:Shared} {pos:Pos} {a:Value} {ma:MV} {X:String→MH→Prop},
  Cx n hd A fs env nm→EnvRel Ψ env ρ→St W fs Ψ H s→VRel Ψ a ma→
  (∀{Q:MV→MH→Prop},wC Δ hd c ma ρ H Q X→wpAny W.M A (compareChain pos a ops (markedEach ops xs (evalEach xs env))) (PostE W fs Ψ Q) (PostX W fs Ψ X) s)∧
  (∀{k:Bool→MH→Prop},wC Δ hd c ma ρ H (asTruth k) X→wpAny W.M A (testChain pos a ops (markedEach ops xs (evalEach xs env))) (PostB W fs Ψ k) (PostX W fs Ψ X) s)
theorem units_of {hd:Bool}{A:Around}{fs:List Env}{env:Env}(C:Cx n hd A fs env nm):A.units+65<cLine:=by have:=C.units;unfold cLine;lia
theorem cmp_step {A:Around}{fs:List Env}{Ψ Ψ₁:Psi}{H₁:MH}{s₁:Shared}{op:COp}{a b:Value}{ma mb:MV}{r:Bool}{X:String→MH→Prop}{R:Value→Shared→Prop}
  (S₁:St W fs Ψ₁ H₁ s₁) (va:VRel Ψ₁ a ma) (vb:VRel Ψ₁ b mb) (hr:CmpR H₁ op ma mb r) (hu:A.units+65<cLine) (K₁:Keep none_ Ψ Ψ₁) (k:∀ Ψ₂ s₂,St W fs Ψ₂ H₁ s₂→Keep none_ Ψ₁ Ψ₂→R (.bool r) s₂):wpAny W.M A (compareOp (copOf op) a b) R (PostX W fs Ψ X) s₁:=by
 refine wpAny_mono (op_cmp (Q:=fun mv H=>mv=.bool r∧H=H₁) (E:=PostX W fs Ψ X) S₁ va vb hr hu ⟨rfl,rfl⟩) (fun v s₂ p=>?_) fun _ _ x=>x
 cases p with
 |mk Ψ₂ H₂ mv S K hv q=>
  obtain ⟨rfl,rfl⟩:=q
  obtain rfl:=vbool hv
  exact k _ _ S K
theorem sndC_one {op:COp}{e:ME}{x:PySem.Expr}(F:Facts W K)(hx:notSet x=true)(he:SndE W Δ n nm e x):SndC W Δ n nm (.cons op e .nil) [copOf op] [x]:=by
 intro hd A fs env ρ Ψ H s pos a ma X C R S va
 have e1:markedEach [copOf op] [x] (evalEach [x] env)=[eval x env]:=by
  show [markedBehindIn (copOf op) x (eval x env)]=_
  rw [markedBehindIn_of_false (notSet_marks hx)]
 rw [e1]
 refine ⟨fun {Q} h=>?_,fun {k} h=>?_⟩
 ·refine wpAny_bind (wpAny_holding (monoE (he C R S h) fun Ψ₁ H₁ mb b s₁ S₁ K₁ vb h₁=>?_))
  obtain ⟨r,hr,h₁⟩:=h₁
  exact wpAny_bind (wpAny_standAt (wpAny_operating (cmp_step S₁ (va.mono K₁.fix) vb hr (units_of C) K₁ fun Ψ₂ s₂ S₂ K₂=>⟨Ψ₂,H₁,.bool r,S₂,K₁.trans K₂,.bool,h₁⟩)))
 ·refine wpAny_bind (wpAny_holding (monoE (he C R S h) fun Ψ₁ H₁ mb b s₁ S₁ K₁ vb h₁=>?_))
  obtain ⟨r,hr,h₁⟩:=h₁
  exact wpAny_bind (wpAny_standAt (wpAny_bind (wpAny_operating (cmp_step S₁ (va.mono K₁.fix) vb hr (units_of C) K₁ fun Ψ₂ s₂ S₂ K₂=>wpAny_holding (wpAny_truthy_bool ⟨Ψ₂,H₁,S₂,K₁.trans K₂,h₁⟩)))))
theorem chain_cons {pos:Pos}{a:Value}{o o':CmpOp}{ops:List CmpOp}{t:Sem Value}(ts:List (Sem Value)):compareChain pos a (o::o'::ops) (t::ts)=(do
   let rv←holding [a] t
   standAt pos
   let c←holding [a,rv] (compareOp o a rv)
   release [a,rv] [c]
   if←holding [c,rv] (truthy c) then compareChain pos rv (o'::ops) ts else pure c):=by cases ts<;>rfl
theorem test_cons {pos:Pos}{a:Value}{o o':CmpOp}{ops:List CmpOp}{t:Sem Value}(ts:List (Sem Value)):testChain pos a (o::o'::ops) (t::ts)=(do
   let rv←holding [a] t
   standAt pos
   let c←holding [a,rv] (compareOp o a rv)
   release [a,rv] [c]
   if←holding [c,rv] (truthy c) then testChain pos rv (o'::ops) ts else pure false):=by cases ts<;>rfl
theorem sndC_cons {op op':COp}{e e':ME}{c:MCs}{x x':PySem.Expr}{o':CmpOp}{ops:List CmpOp}{xs:List PySem.Expr}(F:Facts W K)(he:SndE W Δ n nm e x)(hr:SndC W Δ n nm (.cons op' e' c) (o'::ops) (x'::xs)):
  SndC W Δ n nm (.cons op e (.cons op' e' c)) (copOf op::o'::ops) (x::x'::xs):=by
 intro hd A fs env ρ Ψ H s pos a ma X C R S va
 have e1:markedEach (copOf op::o'::ops) (x::x'::xs) (evalEach (x::x'::xs) env)=eval x env::markedEach (o'::ops) (x'::xs) (evalEach (x'::xs) env):=by
  cases ops<;>cases xs<;>rfl
 rw [e1]
 refine ⟨fun {Q} h=>?_,fun {k} h=>?_⟩
 ·rw [chain_cons]
  refine wpAny_bind (wpAny_holding (monoE (he C R S h) fun Ψ₁ H₁ mb b s₁ S₁ K₁ vb h₁=>?_))
  obtain ⟨r,hc,h₁⟩:=h₁
  refine wpAny_bind (wpAny_standAt (wpAny_bind (wpAny_holding (cmp_step S₁ (va.mono K₁.fix) vb hc (units_of C) K₁ fun Ψ₂ s₂ S₂ K₂=>wpAny_bind (wpAny_release (wpAny_bind (wpAny_holding (wpAny_truthy_bool ?_))))))))
  cases r with
  |true=>exact lift (K₁.trans K₂) ((hr C (R.keep (K₁.trans K₂)) S₂ (vb.mono K₂.fix)).1 h₁)
  |false=>exact wpAny_pure ⟨Ψ₂,H₁,.bool false,S₂,K₁.trans K₂,.bool,h₁⟩
 ·rw [test_cons]
  refine wpAny_bind (wpAny_holding (monoE (he C R S h) fun Ψ₁ H₁ mb b s₁ S₁ K₁ vb h₁=>?_))
  obtain ⟨r,hc,h₁⟩:=h₁
  refine wpAny_bind (wpAny_standAt (wpAny_bind (wpAny_holding (cmp_step S₁ (va.mono K₁.fix) vb hc (units_of C) K₁ fun Ψ₂ s₂ S₂ K₂=>wpAny_bind (wpAny_release (wpAny_bind (wpAny_holding (wpAny_truthy_bool ?_))))))))
  cases r with
  |true=>exact PostB.from (K₁.trans K₂) ((hr C (R.keep (K₁.trans K₂)) S₂ (vb.mono K₂.fix)).2 h₁)
  |false=>exact wpAny_pure ⟨Ψ₂,H₁,S₂,K₁.trans K₂,h₁⟩
theorem snd_cmp {l:ME}{c:MCs}{l':PySem.Expr}{ops:List CmpOp}{xs:List PySem.Expr}{pos:Pos}(hl:SndE W Δ n nm l l')(hc:SndC W Δ n nm c ops xs):SndE W Δ n nm (.cmp l c) (.Compare l' ops xs pos):=by
 intro hd A fs env ρ Ψ H s Q X C R S h
 exact wpAny_bind (monoE (hl C R S h) fun Ψ₁ H₁ ma a s₁ S₁ K₁ va h₁=>lift K₁ ((hc C (R.keep K₁) S₁ va).1 h₁))
theorem sndT_cmp {l:ME}{c:MCs}{l':PySem.Expr}{ops:List CmpOp}{xs:List PySem.Expr}{pos:Pos}(hl:SndE W Δ n nm l l')(hc:SndC W Δ n nm c ops xs):SndT W Δ n nm (.cmp l c) (.Compare l' ops xs pos):=by
 intro hd A fs env ρ Ψ H s k X C R S h
 exact wpAny_bind (monoE (hl C R S h) fun Ψ₁ H₁ ma a s₁ S₁ K₁ va h₁=>PostB.from K₁ ((hc C (R.keep K₁) S₁ va).2 h₁))
noncomputable def notStarred (x:PySem.Expr):Bool:=!Nat.beq x.ctorIdx 22
theorem starEach_cons {x:PySem.Expr}{xs:List PySem.Expr}{env:Env}(h:notStarred x=true):starEach (x::xs) env=(false,eval x env)::starEach xs env:=by
 cases x<;>first|rfl|exact absurd h Bool.noConfusion
theorem sndL_nil:SndL W Δ n nm .nil []:=by
 intro hd A fs env ρ Ψ H s pos Q X C R S h
 exact wpAny_pure ⟨rfl,Ψ,H,[],S,.refl _ _,.nil,h⟩
theorem sndL_cons {e:ME}{es:MEs}{x:PySem.Expr}{xs:List PySem.Expr}(hx:notStarred x=true)(he:SndE W Δ n nm e x)(hr:SndL W Δ n nm es xs):SndL W Δ n nm (.cons e es) (x::xs):=by
 intro hd A fs env ρ Ψ H s pos Q X C R S h
 rw [starEach_cons hx]
 refine Calls.spliced_cons (monoE (he C R S h) fun Ψ₁ H₁ ma a s₁ S₁ K₁ va h₁=>?_)
 refine wpAny_mono (hr (pos:=pos) C (R.keep K₁) S₁ h₁) (fun vs s₂ h₂=>?_) fun _ _ x=>x.from K₁
 obtain ⟨hl,Ψ₂,H₂,mvs,S₂,K₂,vb,h₂⟩:=h₂
 exact ⟨congrArg Nat.succ hl,Ψ₂,H₂,ma::mvs,S₂,K₁.trans K₂,.cons (va.mono K₂.fix) vb,h₂⟩
theorem monoL {A:Around}{fs:List Env}{Ψ:Psi}{s:Shared}{t:Sem (List Value)}{m:Nat}{Z:List MV→MH→Prop}{X:String→MH→Prop}{R:List Value→Shared→Prop}(h:wpAny W.M A t (fun vs s'=>vs.length=m∧PostL W fs Ψ Z vs s') (PostX W fs Ψ X) s)
  (k:∀ Ψ₁ H₁ mvs vs s₁,vs.length=m→St W fs Ψ₁ H₁ s₁→Keep none_ Ψ Ψ₁→All2 (VRel Ψ₁) vs mvs→Z mvs H₁→R vs s₁):wpAny W.M A t R (PostX W fs Ψ X) s:=
 wpAny_mono h (fun v s₁ p=>by cases p.2 with|mk Ψ₁ H₁ mv S K hv q=>exact k Ψ₁ H₁ mv v s₁ p.1 S K hv q) fun _ _ x=>x
theorem len_small {α:Type}{vs:List α}{m:Nat}(h:vs.length=m)(hs:m≤1000):vs.toArray.size≤sizeLine:=by rw [List.size_toArray,h];exact Nat.le_trans hs (by decide)
theorem len_big {α β:Type}{R:α→β→Prop}{vs:List α}{ws:List β}{m:Nat}(r:All2 R vs ws)(h:vs.length=m)(hs:m≤1000):ws.length≤bigList:=by rw [←r.length_eq,h];exact Nat.le_trans hs (by decide)
theorem snd_list {es:MEs}{xs:List PySem.Expr}{pos:Pos}(hl:SndL W Δ n nm es xs)(hsz:xs.length≤1000):SndE W Δ n nm (.list es) (.List xs pos):=by
 intro hd A fs env ρ Ψ H s Q X C R S h
 exact PyProof.Rows.List_ (monoL (hl C R S h) fun Ψ₁ H₁ mvs vs s₁ hlen S₁ K₁ va h₁=>lift K₁ (wpAny_newObj_type (.newList S₁ va (len_big va hlen hsz) h₁) (len_small hlen hsz)))
theorem newTuple_post {A:Around}{fs:List Env}{Ψ:Psi}{H:MH}{s:Shared}{Q:MV→MH→Prop}{E:Value→Shared→Prop}{vs:List Value}{mvs:List MV}{m:Nat}(S:St W fs Ψ H s)(va:All2 (VRel Ψ) vs mvs)(h:Q (.tup mvs) H)(hl:vs.length=m)(hsz:m≤1000):
  wpAny W.M A (newTuple vs) (PostE W fs Ψ Q) E s:=
 wpAny_newObj_type ⟨_,H,.tup mvs,S.push (s':={s with heap:=s.heap.push {cls:=.type "tuple",data:=.seq vs.toArray}}) (k:=.tup mvs) rfl ⟨vs.toArray,0,rfl,va.mono fun _ _=>VRel.mono (.set_new _ S.none_at),len_big va hl hsz⟩ rfl rfl rfl,S.pushKeep _,.tup (Psi.set_self _ _ _),h⟩ (len_small hl hsz)
theorem snd_tup {es:MEs}{xs:List PySem.Expr}{k:Nat}{pos:Pos}(hl:SndL W Δ n nm es xs)(hsz:xs.length≤1000):SndE W Δ n nm (.tup es) (.Tuple xs k pos):=by
 intro hd A fs env ρ Ψ H s Q X C R S h
 exact PyProof.Rows.Tuple_ (monoL (hl C R S h) fun Ψ₁ H₁ mvs vs s₁ hlen S₁ K₁ va h₁=>lift K₁ (newTuple_post S₁ va h₁ hlen hsz))
theorem snd_dict {pos:Pos}:SndE W Δ n nm .dict (.Dict [] [] pos):=by
 intro hd A fs env ρ Ψ H s Q X C R S h
 show wpAny W.M A (do standAt pos;newDict) _ _ s
 refine wpAny_bind (wpAny_standAt ?_)
 refine wpAny_newObj_type ?_
 have S':=S.push (s':={s with heap:=s.heap.push {cls:=.type "dict",data:=.dict #[]}}) (k:=.dct []) rfl
  ⟨[],⟨#[],0,⟨rfl,rfl,rfl⟩,rfl,fun _ he=>by simp at he,.nil,.nil⟩,.nil⟩ rfl rfl rfl
 exact ⟨_,_,.ref s.heap.objs.size,S'.shown (o:=.dct []) (Psi.set_self _ _ _),S.pushKeep _,.ref,h _ S.free_at⟩
noncomputable def notSlice (x:PySem.Expr):Bool:=!Nat.beq x.ctorIdx 26
theorem notSlice_sub {y:PySem.Expr}(h:notSlice y=true):∀ o i,subscripted y false o i=operate [o,i] (getItem o i):=fun o i=>by cases y<;>first|rfl|exact absurd h Bool.noConfusion
noncomputable def SndO (W:Amb)(Δ:CallT)(n:Nat)(nm:Names)(e:ME)(x:Option PySem.Expr):Prop:=match x with
 |none=>e=.none
 |some x=>SndE W Δ n nm e x
theorem valueOrNone_ {e:ME}{x:Option PySem.Expr}(h:SndO W Δ n nm e x){hd:Bool}{A:Around}{fs:List Env}{env:Env}{ρ:Sto}{Ψ:Psi}{H:MH}{s:Shared}{Q:MV→MH→Prop}{X:String→MH→Prop}
  (C:Cx n hd A fs env nm) (R:EnvRel Ψ env ρ) (S:St W fs Ψ H s) (z:wE Δ hd e ρ H Q X):wpAny W.M A (valueOrNone (evalOpt x env)) (PostE W fs Ψ Q) (PostX W fs Ψ X) s:=by
 cases x with
 |none=>obtain rfl:e=.none:=h;exact wpAny_pure (.now S .none z)
 |some x=>exact h C R S z
theorem snd_slice {e lo hi:ME}{x:PySem.Expr}{l u:Option PySem.Expr}{pos pos':Pos}(he:SndE W Δ n nm e x)(hl:SndO W Δ n nm lo l)(hu:SndO W Δ n nm hi u):SndE W Δ n nm (.slice e lo hi) (.Subscript x (.Slice l u none pos') pos):=by
 intro hd A fs env ρ Ψ H s Q X C R S h
 refine PyProof.Rows.Subscript_ (monoE (he C R S h) fun Ψ₁ H₁ ma a s₁ S₁ K₁ va h₁=>?_)
 refine wpAny_bind (wpAny_mono (monoE (valueOrNone_ hl C (R.keep K₁) S₁ h₁) fun Ψ₂ H₂ mb b s₂ S₂ K₂ vb h₂=>?_) (fun _ _ x=>x) fun _ _ x=>x.from K₁)
 have K12:=K₁.trans K₂
 refine wpAny_bind (wpAny_holding (wpAny_mono (monoE (valueOrNone_ hu C (R.keep K12) S₂ h₂) fun Ψ₃ H₃ mc c s₃ S₃ K₃ vc h₃=>?_) (fun _ _ x=>x) fun _ _ x=>x.from K12))
 refine wpAny_bind (wpAny_holding (wpAny_pure ?_))
 refine wpAny_newObj_type ?_
 exact lift (K12.trans K₃) (op_slice S₃ (va.mono (K₂.trans K₃).fix) (vb.mono K₃.fix) vc h₃ fun o i=>rfl)
theorem snd_sub {e i:ME}{x y:PySem.Expr}{pos:Pos}(hs:notSlice y=true)(he:SndE W Δ n nm e x)(hi:SndE W Δ n nm i y):SndE W Δ n nm (.sub e i) (.Subscript x y pos):=by
 intro hd A fs env ρ Ψ H s Q X C R S h
 refine PyProof.Rows.Subscript_ (monoE (he C R S h) fun Ψ₁ H₁ ma a s₁ S₁ K₁ va h₁=>?_)
 refine wpAny_mono (monoE (hi C (R.keep K₁) S₁ h₁) fun Ψ₂ H₂ mb b s₂ S₂ K₂ vb h₂=>?_) (fun _ _ x=>x) fun _ _ x=>x.from K₁
 obtain ⟨x,hx,q⟩:=h₂
 exact lift (K₁.trans K₂) (op_sub S₂ (va.mono K₂.fix) vb hx q (notSlice_sub hs))
end
end Mine
end
section
namespace Mine
open PySem
section
variable {W:Amb}{K:PySem.W.Frag}{Δ:CallT}{n:Nat}{nm:Names}
theorem Facts.at {fs:List Env}{Ψ:Psi}{H:MH}{s:Shared}(F:Facts W K)(S:St W fs Ψ H s):K.In s.heap:=F.inn.keeps S.base
noncomputable def allPlain (xs:List PySem.Expr):Bool:=xs.all notStarred
theorem backTo_plain {xs:List PySem.Expr}{pos:Pos}{env:Env}(h:allPlain xs=true):(backTo pos (starEach xs env)).any (·.1)=false:=by
 induction xs with
 |nil=>rfl
 |cons x xs ih=>
  obtain ⟨h1,h2⟩:=and_of h
  rw [starEach_cons h1]
  exact ih h2
theorem evalArgs_of {xs:List PySem.Expr}{pos:Pos}{env:Env}{f:Value}{M:Model}{A:Around}{E:Value→Shared→Prop}{s:Shared}{Q:Args→Shared→Prop}(hp:allPlain xs=true)
  (h:wpAny M A (spliced (backTo pos (starEach xs env))) (fun vs s'=>Q ⟨vs,[]⟩ s') E s):wpAny M A (evalArgs f true (backTo pos (starEach xs env)) []) Q E s:=by
 cases xs with
 |nil=>
  unfold evalArgs
  show wpAny M A (spliced []>>=_) Q E s
  refine wpAny_bind (wpAny_mono h (fun vs s' h'=>?_) fun _ _ x=>x)
  refine wpAny_bind (wpAny_pure ?_)
  refine wpAny_holding ?_
  exact wpAny_bind (wpAny_pure (wpAny_bind (wpAny_pure (wpAny_pure h'))))
 |cons x xs=>
  rw [starEach_cons (and_of hp).1] at h ⊢
  exact Calls.evalArgs_plain h
theorem callArgs {hd:Bool}{A:Around}{fs:List Env}{env:Env}{ρ:Sto}{Ψ:Psi}{H:MH}{s:Shared}{Q:MV→MH→Prop}{X:String→MH→Prop}{es:MEs}{xs:List PySem.Expr}{pos:Pos}{f:Value}{first:List Value}{Z:List MV→MH→Prop}
  (hk:∀ h,W.h₀.StaysIn h→∃ k,(k=Keeper.frame∨k=Keeper.machine∨k=Keeper.boundFrame)∧PySem.W.Looks W.M h (keeperOf f) k)
  (hp:allPlain xs=true) (hl:SndL W Δ n nm es xs) (C:Cx n hd A fs env nm) (R:EnvRel Ψ env ρ) (S:St W fs Ψ H s) (h:wEs Δ hd es ρ H Z X)
  (k:∀ Ψ₁ H₁ s₁ vs mvs,St W fs Ψ₁ H₁ s₁→Keep none_ Ψ Ψ₁→All2 (VRel Ψ₁) vs mvs→Z mvs H₁→wpAny W.M A (call f (first++vs)) (PostE W fs Ψ₁ Q) (PostX W fs Ψ₁ X) s₁):
  wpAny W.M A (callWith pos f first (backTo pos (starEach xs env)) []) (PostE W fs Ψ Q) (PostX W fs Ψ X) s:=by
 refine PySem.W.callWith_of (P:=fun h=>W.h₀.StaysIn h) ?_ hk (evalArgs_of hp (monoL (hl C R S h) fun Ψ₁ H₁ mvs vs s₁ _ S₁ K₁ va h₁=>⟨S₁.base,lift K₁ (k Ψ₁ H₁ s₁ vs mvs S₁ K₁ va h₁)⟩))
 rw [backTo_plain hp];rfl
theorem keeps_builtin {h:Heap}{f:Value}(hf:∀ a,f≠ .ref a):∃ k,(k=Keeper.frame∨k=Keeper.machine∨k=Keeper.boundFrame)∧PySem.W.Looks W.M h (keeperOf f) k:=
 ⟨.machine,.inr (.inl rfl),by cases f<;>first|exact absurd rfl (hf _)|exact PySem.W.Looks.now⟩
noncomputable def biNames:List String:=["len","range","min","max","all","list","sorted","str","int"]
noncomputable def biOk (K:PySem.W.Frag)(b:String):Bool:=biNames.contains b&&(PySem.W.nsIn K mainGlobals (Str.ofString b)==some none)
theorem bi_all_ok:(biNames.all fun b=>(bootBuiltins (Str.ofString b)==some (biVal b))&& !(Str.ofString b=="__name__")&&(match biVal b with| .ref _=>false|_=>true))=true:=by kernel_rfl
theorem bi_boot {b:String}(h:biNames.contains b=true):bootBuiltins (Str.ofString b)=some (biVal b)∧Str.ofString b≠"__name__"∧∀ a,biVal b≠ .ref a:=by
 obtain ⟨h1,h2⟩:=and_of (List.all_eq_true.mp bi_all_ok b (List.contains_iff_mem.mp h))
 obtain ⟨h1,h3⟩:=and_of h1
 exact ⟨eq_of_beq h1,beq_eq_false_iff_ne.mp (not_of h3),fun a q=>by rw [q] at h2;exact Bool.noConfusion h2⟩
theorem snd_bi {b:String}{es:MEs}{xs:List PySem.Expr}{id:Str}{p pos:Pos}(F:Facts W K)(hb:biOk K b=true)(hx:isGlob nm b id=true)(hp:allPlain xs=true)(hl:SndL W Δ n nm es xs):
  SndE W Δ n nm (.bi b es) (.Call (.Name id p) xs [] pos):=by
 intro hd A fs env ρ Ψ H s Q X C R S h
 obtain ⟨h1,h2,h3⟩:=bi_boot (and_of hb).1
 exact wpAny_bind (loadBlt F C R S hx (eq_of_beq (and_of hb).2) h1 h2 (callArgs (fun h _=>keeps_builtin h3) hp hl C R S h fun Ψ₁ H₁ s₁ vs mvs S₁ K₁ va z=>op_bi S₁ va C.hand z))
noncomputable def constIs:Value→MV→Bool
 | .int i _,.int j=>decide (i=j)
 | .str s _,.str t=>strEq s t
 |_,_=>false
theorem constIs_rel {Ψ:Psi}{v:Value}{mv:MV}(h:constIs v mv=true):VRel Ψ v mv:=by
 unfold constIs at h;split at h
 ·obtain rfl:=of_decide_eq_true h;exact .int
 ·obtain rfl:=strEq_eq h;exact .str
 ·exact Bool.noConfusion h
noncomputable def gcOk (K:PySem.W.Frag)(x:String)(mv:MV):Bool:=match PySem.W.nsIn K mainGlobals (Str.ofString x) with
 |some (some v)=>constIs v mv
 |_=>false
theorem snd_gconst {x:String}{mv:MV}{id:Str}{pos:Pos}(F:Facts W K)(hg:gcOk K x mv=true)(hx:isGlob nm x id=true):SndE W Δ n nm (.gconst x mv) (.Name id pos):=by
 intro hd A fs env ρ Ψ H s Q X C R S h
 unfold gcOk at hg
 split at hg
 ·rename_i v hv
  exact loadGlob F C R S hx hv (.now S (constIs_rel hg) h)
 ·exact Bool.noConfusion hg
theorem nsFind_list {es:Array DictEntry}{x:Str}:nsFind es x=(es.toList.find? (·.key.isStr x)).map (·.val):=by
 unfold nsFind findBy
 rw [Array.find?_toList]
theorem noRef {es:Array DictEntry}(h:StrKeys es):es.toList.any (·.refKey)=false:=by
 rw [List.any_eq_false]
 intro e he
 obtain ⟨m,t,q⟩:=h e (by simpa using he)
 simp [DictEntry.refKey,q]
theorem look_own {es:Array DictEntry}{k:Nat}{o:Obj}{x:Str}(h:StrKeys es)(hd:o.data=.dict es k):PySem.W.lookIn x o=some (nsFind es x):=by
 unfold PySem.W.lookIn
 rw [hd,nsFind_list]
 dsimp only
 cases q:List.find? (fun x_1=>x_1.key.isStr x) es.toList with
 |some e=>rfl
 |none=>simp [noRef h]
inductive InstO (W:Amb)(Ψ:Psi)(h:Heap)(a:Addr)(l:List (String×MV)):Prop
 |mk (ox:Obj)(d:Addr)(od:Obj)(ents:Array DictEntry)(k:Nat)(h1:Ψ a=some (.inst d))(h2:Ψ d=some (.idict a l))(I:PySem.W.InstAt h a ox (W.ca "Train") (some od))(hd:ox.dict=some d)(hod:h.get? d=some od)(he:od.ExactDict)(hk:od.data=.dict ents k)(hs:StrKeys ents)(hsz:ents.size≤l.length)
  (hn:∀ x,fsGet l x=none→nsFind ents (Str.ofString x)=none) (hf:∀ x mv,fsGet l x=some mv→∃ v,nsFind ents (Str.ofString x)=some v∧VRel Ψ v mv)
theorem St.inst {fs:List Env}{Ψ:Psi}{H:MH}{s:Shared}(S:St W fs Ψ H s){a:Addr}{l:List (String×MV)}(h:H a=some (.inst l)):InstO W Ψ s.heap a l:=by
 obtain ⟨d,h1,h2⟩:=S.heap a _ h
 obtain ⟨ox,ho,hc,hd,hp⟩:=S.typed _ _ h1
 obtain ⟨od,hod,he,ents,k,hk,hs,hn,hf⟩:=S.typed _ _ h2
 exact ⟨ox,d,od,ents,k,h1,h2,⟨ho,hc,by unfold PySem.W.notCls;rw [hp],by rw [hd];exact hod⟩,hd,hod,he,hk,hs.1,hs.2,hn,hf⟩
theorem handed_of {Ψ:Psi}{v:Value}{mv:MV}(h:VRel Ψ v mv):PySem.W.handedIn v=true:=by cases h<;>rfl
noncomputable def attrOk (ca:String→Addr)(K:PySem.W.Frag)(f:Str):Bool:=PySem.W.plainGet K (ca "Train") f&&PySem.W.hasDictIn K (ca "Train")&&(PySem.W.findIn K (.ref (ca "Train")) f==some none)
theorem op_attr {A:Around}{fs:List Env}{Ψ:Psi}{H:MH}{s:Shared}{Q:MV→MH→Prop}{E:Value→Shared→Prop}{v:Value}{mv x:MV}{f:String}{b:Bool}(F:Facts W K)(ha:attrOk W.ca K (Str.ofString f)=true)(S:St W fs Ψ H s)(hv:VRel Ψ v mv)(h:AttrR H mv f x)(q:Q x H):
  wpAny W.M A (getAttr v (Str.ofString f) b) (PostE W fs Ψ Q) E s:=by
 cases h with
 |mk hl hx=>
  obtain rfl:=vref hv
  obtain ⟨ox,d,od,ents,k,h1,h2,I,hd,hod,he,hk,hs,hsz,hn,hf⟩:=S.inst hl
  obtain ⟨w,hw,vw⟩:=hf _ _ hx
  exact PySem.W.get_value (F.at S) I (PySem.W.plainGet_of (and_of (and_of ha).1).1).1 (PySem.W.findObj_own (and_of (and_of ha).1).2 (eq_of_beq (and_of ha).2) rfl ((look_own hs hk).trans (by rw [hw]))) (handed_of vw) (.now (S.toks _) vw q)
noncomputable def notSuper (x:PySem.Expr):Bool:=!Nat.beq x.ctorIdx 16
theorem base_of {o:PySem.Expr}{name:Str}{env:Env}{t:Sem Value}(h:notSuper o=true):attributeBase o name env t=t:=by
 cases o<;>first|rfl|exact absurd h Bool.noConfusion
theorem snd_attr {e:ME}{x:PySem.Expr}{f:String}{nf:Str}{pos:Pos}(F:Facts W K)(hf:strEq nf (Str.ofString f)=true)(ha:attrOk W.ca K (Str.ofString f)=true)(hb:notSuper x=true)(he:SndE W Δ n nm e x):SndE W Δ n nm (.attr e f) (.Attribute x nf pos):=by
 intro hd A fs env ρ Ψ H s Q X C R S h
 obtain rfl:=strEq_eq hf
 refine PyProof.Rows.Attribute_any_ (monoE (he C R S h) fun Ψ₁ H₁ mv v s₁ S₁ K₁ va h₁=>h₁.elim fun x z=>lift K₁ (op_attr F ha S₁ va z.1 z.2)) ?_
 rw [arm_eval_Attribute,base_of hb]
theorem methCall {o:PySem.Expr}{name:Str}{apos pos:Pos}{args:List PySem.Expr}{env:Env}{M:Model}{A:Around}{E:Value→Shared→Prop}{s:Shared}{Q:Value→Shared→Prop}(hb:notSuper o=true)(hp:allPlain args=true)(hl:args.length<29)(hpos:(apos.endLine==pos.line)=true)
  (h:wpAny M A (eval o env) (fun ov s₁=>∀ pl,wpAny M A (getMethod ov name pl) (fun fx s₂=>wpAny M A (callWith pos fx.1 fx.2 (backTo pos (starEach args env)) []) Q E s₂) E s₁) E s):
  wpAny M A (eval (.Call (.Attribute o name apos) args [] pos) env) Q E s:=by
 rw [arm_eval_Call,base_of hb]
 refine wpAny_bind (wpAny_mono h (fun ov s₁ h₁=>wpAny_bind (wpAny_standAt ?_)) fun _ _ x=>x)
 have hfew:methodCallForm (args.length+([]:List Keyword).length) (backTo pos (starEach args env)) (backToKw pos (keywordEach [] env))=true:=by
  unfold methodCallForm
  have e1:(backTo pos (starEach args env)).all (fun x=>!x.1)=true:=by
   have:=backTo_plain (pos:=pos) (env:=env) hp
   rw [List.any_eq_false] at this
   rw [List.all_eq_true]
   intro x hx;simpa using this x hx
  rw [e1]
  have:args.length+([]:List Keyword).length+(if (backToKw pos (keywordEach [] env)).isEmpty then 0 else 1)<30:=by
   show args.length+0+0<30
   lia
  simp only [Bool.true_and,Bool.and_eq_true,decide_eq_true_eq]
  exact ⟨rfl,this⟩
 unfold methodCall
 rw [hfew]
 unfold calleeOf
 rw [if_pos rfl]
 refine wpAny_bind (wpAny_holding (wpAny_mono (h₁ _) (fun fx s₂ h₂=>?_) fun _ _ x=>x))
 unfold methodCallPos
 rw [hpos,Bool.not_true,Bool.false_or,if_pos rfl]
 exact wpAny_bind (wpAny_pure h₂)
end
end Mine
end
section
namespace Mine
open PySem
section
variable {W:Amb}{K:PySem.W.Frag}{Δ:CallT}{n:Nat}{nm:Names}{fs:List Env}{Ψ:Psi}{H:MH}{s:Shared}{A:Around}{Q:MV→MH→Prop}{E:Value→Shared→Prop}{X:String→MH→Prop}
theorem St.setObj (S:St W fs Ψ H s){a:Addr}{k₀ k:HK}{o:Obj}{mo:MObj}{tk:Nat}{h':Heap}(e0:Ψ a=some k₀)(hd:k₀.data=true)(hi:∀ b fs,k₀≠ .idict b fs)(hk:HRel (Ψ.set a k) a mo)(hr:W.O (Ψ.set a k) o k)
  (hs:Heap.SameBut a s.heap h') (ho:h'.get? a=some o) (hdc:∀ es,k=.dct es→(a==sysModules)=false) (q:Q .none (H.set a mo)):PostE W fs Ψ Q .none {s with heap:=h',toks:=tk}∧St W fs (Ψ.set a k) (H.set a mo) {s with heap:=h',toks:=tk}:=by
 have S':St W fs (Ψ.set a k) (H.set a mo) {s with heap:=h',toks:=tk}:=by
  refine S.turned (s':={s with heap:=h',toks:=tk}) e0 (sort_data hd).2 (fun m z=>by subst z;exact Bool.noConfusion hd) hr hs ho (fun b x e=>?_) rfl rfl hdc
  by_cases q:b=a
  ·subst q;exact Option.some.inj ((MH.set_self _ _ _).symm.trans e)▸hk
  ·have:=S.heap b x ((MH.set_ne _ _ q).symm.trans e)
   cases x with
   |inst l=>exact this.imp fun d z=>⟨(Psi.set_ne _ _ q).trans z.1,(Psi.set_ne _ _ (fun w=>by subst w;exact hi _ _ (Option.some.inj (e0.symm.trans z.2)))).trans z.2⟩
   |_=>exact (Psi.set_ne _ _ q).trans this
 exact ⟨⟨_,_,.none,S',.set_data _ e0 hd,.none,q⟩,S'⟩
theorem set_list (S:St W fs Ψ H s){a:Addr}{l l':List MV}{items:Array Value}{k:Nat}{tk:Nat}{h':Heap}(h:H a=some (.lst l))(va:All2 (VRel Ψ) items.toList l')(hb:l'.length≤bigList)
  (hs:Heap.SameBut a s.heap h') (ho:h'.get? a=some {cls:=.type "list",dict:=none,data:=.seq items k,slots:=#[]}):
  St W fs (Ψ.set a (.lst l')) (H.set a (.lst l')) {s with heap:=h',toks:=tk}∧Keep none_ Ψ (Ψ.set a (.lst l')):=
 have e0:Ψ a=some (.lst l):=S.heap a _ h
 ⟨(S.setObj (Q:=fun _ _=>True) (mo:=.lst l') e0 rfl (fun _ _ q=>HK.noConfusion q) (Psi.set_self _ _ _) ⟨items,k,rfl,va.mono fun _ _=>VRel.mono (.set_turn _ e0 rfl),hb⟩ hs ho (fun _ q=>HK.noConfusion q) trivial).2,.set_data _ e0 rfl⟩
theorem set_dict (S:St W fs Ψ H s){a:Addr}{l l':List (Int×MV)}{kvs:List (Int×Value)}{tk:Nat}{h':Heap}(h:H a=some (.dct l))(va:All2 (ERel Ψ) kvs l')
  (hs:Heap.SameBut a s.heap h') (ho:h'.DictOf (intKind W.prog W.w) a kvs):
  St W fs (Ψ.set a (.dct l')) (H.set a (.dct l')) {s with heap:=h',toks:=tk}∧Keep none_ Ψ (Ψ.set a (.dct l')):=by
 have e0:Ψ a=some (.dct l):=S.heap a _ h
 obtain ⟨o,ho,hd⟩:=Heap.dictOf_iff.mp ho
 exact ⟨(S.setObj (Q:=fun _ _=>True) (mo:=.dct l') e0 rfl (fun _ _ q=>HK.noConfusion q) (Psi.set_self _ _ _) ⟨kvs,hd,va.mono fun _ _ x=>⟨x.1,x.2.mono (.set_turn _ e0 rfl)⟩⟩ hs ho (fun _ _=>S.dsys _ _ e0) trivial).2,.set_data _ e0 rfl⟩
theorem op_append {a:Addr}{l:List MV}{v:Value}{x:MV}(S:St W fs Ψ H s)(h:H a=some (.lst l))(hl:l.length<bigList)(hv:VRel Ψ v x)(hq:Q .none (H.set a (.lst (l++ [x])))):
  wpAny W.M A (call (.builtin "list.append") [.ref a,v]) (PostE W fs Ψ Q) E s:=by
 obtain ⟨items,k,h1,r,z,b⟩:=S.lst h
 refine call_meets F.slot_list_append ⟨_,h1,rfl⟩ F.entry_list_append (F.args_list_append_2 _ _) (AutoListH.list_append_list_val_0 a items k v (by rw [z];unfold bigList at hl;unfold sizeLine;lia)) ⟨h1,?_⟩
 obtain ⟨k',ho⟩:∃ k',(s.heap.update a (Obj.mapSeq fun xs=>xs.push v)).get? a=some {cls:=.type "list",dict:=none,data:=.seq (items.push v) k',slots:=#[]}:=⟨_,(Heap.get?_update_self _ h1 rfl).trans rfl⟩
 obtain ⟨S',K'⟩:=set_list (tk:=s.toks) S h (l':=l++ [x]) (items:=items.push v) (by rw [Array.toList_push];exact r.append (.cons hv .nil)) (by rw [List.length_append];exact hl) (Heap.SameBut.update ..) ho
 exact ⟨_,_,.none,S',K',.none,hq⟩
theorem All2.erase {α β:Type}{R:α→β→Prop}{l:List α}{r:List β}(h:All2 R l r):∀ i:Nat,All2 R (l.eraseIdx i) (r.eraseIdx i):=by
 induction h with
 |nil=>intro i;exact .nil
 |cons h t ih=>intro i;cases i with
  |zero=>exact t
  |succ i=>exact .cons h (ih i)
theorem map_eraseIdx {α β:Type}(f:α→β):∀(l:List α) (i:Nat),(l.eraseIdx i).map f=(l.map f).eraseIdx i
 | [],_=>rfl
 |_::_,0=>rfl
 |x::l,i+1=>congrArg (f x:: ·) (map_eraseIdx f l i)
theorem erase_idx {x:Int}:∀{is:List Int},x∈is→is.idxOf x<is.length∧is[is.idxOf x]? =some x∧(∀ m,m<is.idxOf x→is[m]? ≠some x)∧(is.erase x).map MV.int=(is.map MV.int).eraseIdx (is.idxOf x):=by
 intro is h
 have h1:is.idxOf x<is.length:=List.idxOf_lt_length_of_mem h
 refine ⟨h1,by rw [List.getElem?_eq_getElem h1,List.getElem_idxOf],fun m hm q=>?_,by rw [List.erase_eq_eraseIdx_of_idxOf rfl];exact map_eraseIdx _ _ _⟩
 have:=List.not_of_lt_findIdx (p:=(· ==x)) hm
 have hl:m<is.length:=Nat.lt_trans hm h1
 rw [List.getElem?_eq_getElem hl] at q
 rw [Option.some.inj q] at this
 simp at this
theorem op_remove {a:Addr}{is:List Int}{i:Int}{t:Tok}(S:St W fs Ψ H s)(h:H a=some (.lst (is.map .int)))(hi:i∈is)(hq:Q .none (H.set a (.lst ((is.erase i).map .int)))):
  wpAny W.M A (call (.builtin "list.remove") [.ref a,.int i t]) (PostE W fs Ψ Q) E s:=by
 obtain ⟨items,k,h1,r,z,b⟩:=S.lst h
 obtain ⟨j1,j2,j3,j4⟩:=erase_idx hi
 rw [List.length_map] at z b
 have hI:=intsAre_of r
 have at_:∀(m:Nat) (hm:m<items.size) (y:Int),is[m]? =some y→PyProof.Rows.isInt i items[m]=(y==i):=fun m hm y hy=>by
  obtain ⟨v,hv,hr⟩:=r.get m (.int y) (by rw [List.getElem?_map,hy];rfl)
  rw [Array.getElem?_toList,Array.getElem?_eq_getElem hm] at hv
  rw [Option.some.inj hv]
  obtain ⟨t,rfl⟩:=vint hr
  rfl
 refine call_meets F.slot_list_remove ⟨_,h1,rfl⟩ F.entry_list_remove (F.args_list_remove_2 _ _) (MeetsSeq.list_remove a items k (.int i t) (PyProof.Rows.isInt i) (fun y hy=>PyProof.Rows.eq_isInt i t hI y (by simpa using hy)) (is.idxOf i) (z▸j1)
  ((at_ _ _ _ j2).trans (beq_self_eq_true i)) (fun m hm hlt=>?_) (z▸big_le b)) ⟨h1,?_⟩
 ·have hm':m<is.length:=z▸hm
  rw [at_ m hm _ (List.getElem?_eq_getElem hm')]
  exact beq_eq_false_iff_ne.mpr fun q=>j3 m hlt (by rw [List.getElem?_eq_getElem hm',q])
 ·obtain ⟨k',ho⟩:∃ k',(s.heap.update a (Obj.mapSeq fun xs=>xs.eraseIdxIfInBounds (is.idxOf i))).get? a=some {cls:=.type "list",dict:=none,data:=.seq (items.eraseIdxIfInBounds (is.idxOf i)) k',slots:=#[]}:=⟨_,(Heap.get?_update_self _ h1 rfl).trans rfl⟩
  obtain ⟨S',K'⟩:=set_list (tk:=s.toks) S h (l':=(is.erase i).map .int) (items:=items.eraseIdxIfInBounds (is.idxOf i)) (by rw [j4,Array.eraseIdxIfInBounds,dif_pos (z▸j1:is.idxOf i<items.size),Array.toList_eraseIdx];exact r.erase _) (by rw [List.length_map];exact Nat.le_trans List.length_erase_le b) (Heap.SameBut.update ..) ho
  exact ⟨_,_,.none,S',K',.none,hq⟩
theorem All2.map_both {α β γ δ:Type}{R:α→β→Prop}{T:γ→δ→Prop}{f:α→γ}{g:β→δ}{l:List α}{r:List β}(h:All2 R l r)(k:∀ a b,R a b→T (f a) (g b)):All2 T (l.map f) (r.map g):=by
 induction h with
 |nil=>exact .nil
 |cons h _ ih=>exact .cons (k _ _ h) ih
theorem without_rel {kvs:List (Int×Value)}{es:List (Int×MV)}{k:Int}(r:All2 (ERel Ψ) kvs es):All2 (ERel Ψ) (without kvs k) (dDel es k):=by
 unfold without dDel
 induction r with
 |nil=>exact .nil
 | @cons p q l r h _ ih=>
  rw [List.filter_cons,List.filter_cons,h.1]
  split
  ·exact .cons h ih
  ·exact ih
theorem stored_rel {kvs:List (Int×Value)}{es:List (Int×MV)}{k:Int}{v:Value}{x:MV}(hv:VRel Ψ v x)(r:All2 (ERel Ψ) kvs es):All2 (ERel Ψ) (stored kvs k v) (dSet es k x):=by
 have e1:kvs.any (fun kv=>decide (kv.1=k))=es.any (fun kv=>decide (kv.1=k)):=by
  induction r with
  |nil=>rfl
  |cons h _ ih=>rw [List.any_cons,List.any_cons,h.1,ih]
 unfold stored dSet
 rw [e1]
 split
 ·refine r.map_both fun p q h=>?_
  rw [h.1]
  by_cases z:q.1=k
  ·rw [if_pos z,if_pos z];exact ⟨rfl,hv⟩
  ·rw [if_neg z,if_neg z];exact h
 ·exact r.append (.cons ⟨rfl,hv⟩ .nil)
theorem op_dpop {a:Addr}{es:List (Int×MV)}{k:Int}{t:Tok}{x:MV}(S:St W fs Ψ H s)(h:H a=some (.dct es))(hl:es.length≤bigList)(hx:dGet es k=some x)(hq:Q x (H.set a (.dct (dDel es k)))):
  wpAny W.M A (call (.builtin "dict.pop") [.ref a,.int k t]) (PostE W fs Ψ Q) E s:=by
 obtain ⟨kvs,d,r,_⟩:=S.dct h
 rcases valueAt_dct k r with ⟨_,h2⟩|⟨v,mv,h1,h2,hr⟩
 ·exact nn h2 hx
 ·obtain rfl:=Option.some.inj (h2.symm.trans hx)
  refine call_meetsIn F.slot_dict_pop d.typeIs F.entry_dict_pop (F.args_dict_pop_2 _ _) (meets_dict_pop_there (intKind W.prog W.w) a intKey [] (.inl rfl) rfl) ⟨kvs,v,d,by rw [r.length_eq];exact big_le hl,h1,fun h' hd hs=>?_⟩
  obtain ⟨S',K'⟩:=set_dict (tk:=s.toks+1) S h (without_rel (k:=k) r) hs hd
  exact ⟨_,_,mv,S',K',hr.mono K'.fix,hq⟩
theorem op_index {a:Addr}{is:List Int}{i:Int}{t:Tok}(S:St W fs Ψ H s)(h:H a=some (.lst (is.map .int)))(hi:i∈is)(hq:Q (.int (is.idxOf i)) H):
  wpAny W.M A (call (.builtin "list.index") [.ref a,.int i t]) (PostE W fs Ψ Q) E s:=by
 obtain ⟨items,k,h1,r,z,b⟩:=S.lst h
 obtain ⟨j1,j2,j3,_⟩:=erase_idx hi
 rw [List.length_map] at z b
 have hI:=intsAre_of r
 have at_:∀(m:Nat) (hm:m<items.size) (y:Int),is[m]? =some y→PyProof.Rows.isInt i items[m]=(y==i):=fun m hm y hy=>by
  obtain ⟨v,hv,hr⟩:=r.get m (.int y) (by rw [List.getElem?_map,hy];rfl)
  rw [Array.getElem?_toList,Array.getElem?_eq_getElem hm] at hv
  rw [Option.some.inj hv]
  obtain ⟨t,rfl⟩:=vint hr
  rfl
 refine call_meets F.slot_list_index ⟨_,h1,rfl⟩ F.entry_list_index (F.args_list_index_2 _ _) (SeqAt.list_indexAt a items k none #[] (.int i t) (PyProof.Rows.isInt i) (is.idxOf i) (z▸j1) (by unfold bigList at b;lia)
  ((at_ _ _ _ j2).trans (beq_self_eq_true i)) (fun m hm hlt=>?_)) ⟨h1,fun y hy=>(PyProof.Rows.eq_isInt i t hI y (by simpa using hy)).at _ _,.int S hq⟩
 have hm':m<is.length:=z▸hm
 rw [at_ m hm _ (List.getElem?_eq_getElem hm')]
 exact beq_eq_false_iff_ne.mpr fun q=>j3 m hlt (by rw [List.getElem?_eq_getElem hm',q])
theorem op_lpop {a:Addr}{l:List MV}{i:Int}{x:MV}{t:Tok}(S:St W fs Ψ H s)(h:H a=some (.lst l))(h0:0≤i)(hx:l[i.toNat]? =some x)(hq:Q x (H.set a (.lst (l.eraseIdx i.toNat)))):
  wpAny W.M A (call (.builtin "list.pop") [.ref a,.int i t]) (PostE W fs Ψ Q) E s:=by
 obtain ⟨items,k,h1,r,z,b⟩:=S.lst h
 obtain ⟨v,hv,hr⟩:=r.get _ _ hx
 rw [Array.getElem?_toList] at hv
 have hlt:i.toNat<items.size:=by
  by_cases q:i.toNat<items.size
  ·exact q
  ·rw [Array.getElem?_eq_none (Nat.not_lt.mp q)] at hv;cases hv
 unfold bigList at b
 refine call_meets F.slot_list_pop ⟨_,h1,rfl⟩ F.entry_list_pop (F.args_list_pop_2 _ _) (MeetsSeq.list_pop_at a items k i t i.toNat v (by unfold Builtin.List.listFitsIndex;simp;lia) (by unfold seqIndex?;dsimp only;rw [if_neg (Int.not_lt.mpr h0),if_pos (Bool.and_eq_true_iff.mpr ⟨decide_eq_true h0,decide_eq_true ((Int.toNat_lt h0).mp hlt)⟩)]) hv (z▸big_le (by unfold bigList;exact b))) ⟨h1,?_⟩
 obtain ⟨k',ho⟩:∃ k',(s.heap.update a (Obj.mapSeq fun xs=>xs.eraseIdxIfInBounds i.toNat)).get? a=some {cls:=.type "list",dict:=none,data:=.seq (items.eraseIdxIfInBounds i.toNat) k',slots:=#[]}:=⟨_,(Heap.get?_update_self _ h1 rfl).trans rfl⟩
 obtain ⟨S',K'⟩:=set_list (tk:=s.toks) S h (l':=l.eraseIdx i.toNat) (items:=items.eraseIdxIfInBounds i.toNat) (by rw [Array.eraseIdxIfInBounds,dif_pos hlt,Array.toList_eraseIdx];exact r.erase _) (by unfold bigList;exact Nat.le_trans (List.length_eraseIdx_le _ _) b) (Heap.SameBut.update ..) ho
 exact ⟨_,_,x,S',K',hr.mono K'.fix,hq⟩
theorem op_get {a:Addr}{es:List (Int×MV)}{k:Int}{t:Tok}{v:Value}{d:MV}(S:St W fs Ψ H s)(h:H a=some (.dct es))(hv:VRel Ψ v d)(hq:Q ((dGet es k).getD d) H):
  wpAny W.M A (call (.builtin "dict.get") [.ref a,.int k t,v]) (PostE W fs Ψ Q) E s:=by
 obtain ⟨kvs,m,r,ns⟩:=S.dct h
 refine call_meetsIn F.slot_dict_get m.typeIs F.entry_dict_get (F.args_dict_get_3 _ _ _) (meets_dict_get_default (intKind W.prog W.w) a intKey ns v) ⟨_,m.mapOf,?_⟩
 rcases valueAt_dct k r with ⟨h1,h2⟩|⟨u,mu,h1,h2,hr⟩
 ·rw [h1];rw [h2] at hq;exact .now (S.toks _) hv hq
 ·rw [h1];rw [h2] at hq;exact .now (S.toks _) hr hq
theorem strs_all2 {l:List (Str×Tok)}{ts:List Str}(h:l.map (·.1)=ts):All2 (VRel Ψ) (strValues l) (ts.map .str):=by
 subst h
 induction l with
 |nil=>exact .nil
 |cons p l ih=>exact .cons .str ih
theorem strs_of {vs:List Value}{ts:List Str}(h:All2 (VRel Ψ) vs (ts.map .str)):∃ l:List (Str×Tok),vs=strValues l∧l.map (·.1)=ts:=by
 induction ts generalizing vs with
 |nil=>cases h;exact ⟨[],rfl,rfl⟩
 |cons x ts ih=>cases h with|cons hv t=>obtain ⟨l,rfl,rfl⟩:=ih t;obtain ⟨u,rfl⟩:=vstr hv;exact ⟨(x,u)::l,rfl,rfl⟩
theorem op_split {x y:Str}{t u:Tok}(S:St W fs Ψ H s)(hy:(y.length==0)=false)(hx:x.length<bigList)(hq:New H Q ((Txt.split x y).map .str)):
  wpAny W.M A (call (.builtin "str.split") [.str x t,.str y u]) (PostE W fs Ψ Q) E s:=by
 have y1:1≤y.length:=Nat.pos_of_ne_zero (beq_eq_false_iff_ne.mp hy)
 have hw:=PyProof.Rows.split_weight x y y1
 have hlen:((Txt.split x y).map MV.str).length≤bigList:=by rw [List.length_map];lia
 have fin:∀(l:List (Str×Tok)) (k:Nat),l.map (·.1)=Txt.split x y→PostE W fs Ψ Q (.ref s.heap.objs.size) {s with heap:=s.heap.push {cls:=.type "list",data:=.seq (strValues l).toArray},toks:=k}:=fun l k e=>
  .newList (s:={s with toks:=k}) (S.toks k) (strs_all2 e) hlen hq
 have hz:=big_le (Nat.le_of_lt hx)
 cases h1:(decide (x.length<y.length)||decide (Builtin.Str.strKind x<Builtin.Str.strKind y))
 ·cases hf:(Builtin.Str.occurrences x y 0 x.length (x.length+1)).isEmpty
  ·have es:Txt.split x y=Builtin.Str.partsBetween x (Builtin.Str.occurrences x y 0 x.length (x.length+1)) y.length:=(if_neg (ne_true_of_eq_false h1)).trans (if_neg (ne_true_of_eq_false hf))
   refine call_meets F.slot_str_split (typeIs_str _ _ _) F.entry_str_split (F.args_str_split_2 _ _) (meets_str_split_sep x y t u h1 hy hf hz (by rw [←es];rw [List.length_map] at hlen;exact big_le hlen)) ?_
   show wants _ E _ {s with toks:=_,heap:=s.heap.push {cls:=.type "list",data:=.seq (strsFrom s.toks (Builtin.Str.partsBetween x (Builtin.Str.occurrences x y 0 x.length (x.length+1)) y.length)).toArray}}
   rw [strsFrom_eq]
   exact fin (numbered s.toks _) _ ((numbered_texts _ _).trans es.symm)
  ·exact call_meets F.slot_str_split (typeIs_str _ _ _) F.entry_str_split (F.args_str_split_2 _ _) (meets_str_split_not_found x y t u h1 hy hf) (fin [(x,t)] s.toks ((if_neg (ne_true_of_eq_false h1)).trans (if_pos hf)).symm)
 ·exact call_meets F.slot_str_split (typeIs_str _ _ _) F.entry_str_split (F.args_str_split_2 _ _) (meets_str_split_cannot_occur x y t u h1) (fin [(x,t)] s.toks (if_pos h1).symm)
theorem op_join {x:Str}{a:Addr}{ts:List Str}{t:Tok}(S:St W fs Ψ H s)(h:LstAt H a (ts.map .str))(hok:JoinOk x ts=true)(hq:Q (.str (Txt.join x ts)) H):
  wpAny W.M A (call (.builtin "str.join") [.str x t,.ref a]) (PostE W fs Ψ Q) E s:=by
 obtain ⟨items,l1,r,z,b⟩:=S.lstAt h
 obtain ⟨l,e,ht⟩:=strs_of r
 exact SC.join (l:=l) (by rw [←e,Array.toArray_toList];exact l1) ht hok fun t' k=> .now (S.toks k) .str hq
noncomputable def bmId:Nat→String→String
 |0,m=>"dict."++m
 |1,m=>"list."++m
 |_,m=>"str."++m
theorem not_both {a:Addr}{l:List MV}{es:List (Int×MV)}(h:H a=some (.lst l))(h':H a=some (.dct es)){P:Prop}:P:=absurd (h.symm.trans h') fun q=>MObj.noConfusion (Option.some.inj q)
theorem op_bm {m:String}{v:Value}{vs:List Value}{mv:MV}{mvs:List MV}{k:Nat}(S:St W fs Ψ H s)(hv:VRel Ψ v mv)(hvs:All2 (VRel Ψ) vs mvs)(hk:KindR H mv m k)(h:BmR H Q m mv mvs):wpAny W.M A (call (.builtin (bmId k m)) (v::vs)) (PostE W fs Ψ Q) E s:=by
 cases h with
 |append h hl q=>
  obtain rfl:=vref hv
  obtain ⟨v,rfl,hv⟩:=all2_1 hvs
  cases hk with
  |lst _ _=>exact op_append S h hl hv q
  |dct h' _=>exact not_both h h'
 |remove h hi q=>
  obtain rfl:=vref hv
  obtain ⟨t,rfl⟩:=arg_int hvs
  cases hk with
  |lst _ _=>exact op_remove S h hi q
  |dct h' _=>exact not_both h h'
 |index h hi q=>
  obtain rfl:=vref hv
  obtain ⟨t,rfl⟩:=arg_int hvs
  cases hk with
  |lst _ _=>exact op_index S h hi q
  |dct h' _=>exact not_both h h'
 |lpop h h0 hx q=>
  obtain rfl:=vref hv
  obtain ⟨t,rfl⟩:=arg_int hvs
  cases hk with
  |lst _ _=>exact op_lpop S h h0 hx q
  |dct h' _=>exact not_both h h'
 |dpop h hl hx q=>
  obtain rfl:=vref hv
  obtain ⟨t,rfl⟩:=arg_int hvs
  cases hk with
  |lst h' _=>exact not_both h' h
  |dct _ _=>exact op_dpop S h hl hx q
 |get h q=>
  obtain rfl:=vref hv
  obtain ⟨i,v,rfl,hi,hv⟩:=all2_2 hvs
  obtain ⟨t,rfl⟩:=vint hi
  cases hk with
  |lst h' _=>exact not_both h' h
  |dct _ _=>exact op_get S h hv q
 |split hy hx q=>
  obtain ⟨t,rfl⟩:=vstr hv
  obtain ⟨v,rfl,h1⟩:=all2_1 hvs
  obtain ⟨u,rfl⟩:=vstr h1
  cases hk
  exact op_split S hy hx q
 |join h hok q=>
  obtain ⟨t,rfl⟩:=vstr hv
  obtain rfl:=arg_ref hvs
  cases hk
  exact op_join S h hok q
theorem get_list {m:String}(hm: ["append","remove","index","pop"].contains m=true){a:Addr}{l:List MV}{pl:Sem Bool}{QQ:Value×List Value→Shared→Prop}(S:St W fs Ψ H s)(h:H a=some (.lst l))(q:QQ (.builtin (bmId 1 m),[.ref a]) s):wpAny W.M A (getMethod (.ref a) (Str.ofString m) pl) QQ E s:=by
 obtain ⟨items,k,h1,r,z,b⟩:=S.lst h
 rcases List.mem_cons.mp (List.contains_iff_mem.mp hm) with rfl|hm
 ·exact getMethod_builtin ⟨_,h1,rfl⟩ F.plainAttrs_list F.slot_list_append F.type_list_append (fun a' q=>Value.ref.inj q▸⟨_,h1,rfl⟩) q
 rcases List.mem_cons.mp hm with rfl|hm
 ·exact getMethod_builtin ⟨_,h1,rfl⟩ F.plainAttrs_list F.slot_list_remove F.type_list_remove (fun a' q=>Value.ref.inj q▸⟨_,h1,rfl⟩) q
 rcases List.mem_cons.mp hm with rfl|hm
 ·exact getMethod_builtin ⟨_,h1,rfl⟩ F.plainAttrs_list F.slot_list_index F.type_list_index (fun a' q=>Value.ref.inj q▸⟨_,h1,rfl⟩) q
 ·obtain rfl:=List.mem_singleton.mp hm
  exact getMethod_builtin ⟨_,h1,rfl⟩ F.plainAttrs_list F.slot_list_pop F.type_list_pop (fun a' q=>Value.ref.inj q▸⟨_,h1,rfl⟩) q
theorem get_dict {m:String}(hm: ["pop","get"].contains m=true){a:Addr}{l:List (Int×MV)}{pl:Sem Bool}{QQ:Value×List Value→Shared→Prop}(S:St W fs Ψ H s)(h:H a=some (.dct l))(q:QQ (.builtin (bmId 0 m),[.ref a]) s):wpAny W.M A (getMethod (.ref a) (Str.ofString m) pl) QQ E s:=by
 obtain ⟨kvs,d,r,_⟩:=S.dct h
 obtain ⟨o,ho,hd⟩:=Heap.dictOf_iff.mp d
 rcases List.mem_cons.mp (List.contains_iff_mem.mp hm) with rfl|hm
 ·exact getMethod_builtin d.typeIs F.plainAttrs_dict F.slot_dict_pop F.type_dict_pop (fun a' q=>Value.ref.inj q▸⟨o,ho,by obtain ⟨_,_,x,_⟩:=hd;exact x.2.1⟩) q
 ·obtain rfl:=List.mem_singleton.mp hm
  exact getMethod_builtin d.typeIs F.plainAttrs_dict F.slot_dict_get F.type_dict_get (fun a' q=>Value.ref.inj q▸⟨o,ho,by obtain ⟨_,_,x,_⟩:=hd;exact x.2.1⟩) q
theorem get_bm {m:String}{v:Value}{mv:MV}{k:Nat}{pl:Sem Bool}{QQ:Value×List Value→Shared→Prop}(S:St W fs Ψ H s)(hv:VRel Ψ v mv)(hk:KindR H mv m k)(q:QQ (.builtin (bmId k m),[v]) s):wpAny W.M A (getMethod v (Str.ofString m) pl) QQ E s:=by
 cases hk with
 |lst h hm=>obtain rfl:=vref hv;exact get_list hm S h q
 |dct h hm=>obtain rfl:=vref hv;exact get_dict hm S h q
 |str hm=>
  obtain ⟨t,rfl⟩:=vstr hv
  rcases List.mem_cons.mp (List.contains_iff_mem.mp hm) with rfl|hm
  ·have e:bmId 2 "split"="str.split":=by decide+kernel
   rw [e] at q
   with_reducible exact GM.split q
  ·obtain rfl:=List.mem_singleton.mp hm
   have e:bmId 2 "join"="str.join":=by decide+kernel
   rw [e] at q
   with_reducible exact GM.join q
theorem snd_bm {e:ME}{es:MEs}{x:PySem.Expr}{xs:List PySem.Expr}{m:String}{nf:Str}{apos pos:Pos}(hf:strEq nf (Str.ofString m)=true)(hb:notSuper x=true)(hp:allPlain xs=true)(hlen:xs.length<29)(hpos:(apos.endLine==pos.line)=true)
  (he:SndE W Δ n nm e x) (hl:SndL W Δ n nm es xs):SndE W Δ n nm (.bm e m es) (.Call (.Attribute x nf apos) xs [] pos):=by
 intro hd A fs env ρ Ψ H s Q X C R S h
 obtain rfl:=strEq_eq hf
 refine methCall hb hp hlen hpos (monoE (he C R S h) fun Ψ₁ H₁ mv v s₁ S₁ K₁ va h₁ pl=>?_)
 obtain ⟨k,hk,h₁⟩:=h₁
 refine get_bm S₁ va hk ?_
 exact lift K₁ (callArgs (first:=[v]) (fun h _=>keeps_builtin (fun a q=>Value.noConfusion q)) hp hl C (R.keep K₁) S₁ h₁ fun Ψ₂ H₂ s₂ vs mvs S₂ K₂ va₂ z=>op_bm S₂ (va.mono K₂.fix) va₂ z.1 z.2)
end
end Mine
end
section
namespace Mine
open PySem
section
variable {W:Amb}{K:PySem.W.Frag}{Δ:CallT}{n:Nat}{nm:Names}{fs:List Env}{Ψ:Psi}{H:MH}{s:Shared}{A:Around}{Q:MV→MH→Prop}{E:Value→Shared→Prop}{X:String→MH→Prop}
noncomputable def ExcLike (h:Heap)(x D:Addr):Prop:=∃ o,h.get? x=some o∧o.cls=.ref D
theorem ExcLike.type {M:Model}{h:Heap}{x D:Addr}(I:ExcLike h x D):PySem.W.Looks M h (typeOf (.ref x)) (.ref D):=by
 obtain ⟨o,h1,h2⟩:=I
 exact h2▸(PySem.W.Looks.ld h1).andThen .now
open PySem.W Builtin Builtin.ObjectAttr Builtin.Getset_descriptor in
theorem exc_classGet {x D:Addr}{tp:Value}{R:Result→Shared→Prop}{prog:Program}{w:World}(Y:K.In s.heap)(I:ExcLike s.heap x D)(hm:mroIn K D (.type "object")=some true)
  (h:R (.ok (.ret (.ref D))) s):codeAny (model prog w) A (.call (.builtin "getset_descriptor.__get__") ⟨[.builtin "object.__class__",.ref x,tp],[]⟩) R s:=by
 obtain ⟨hh,g,dr,t,os⟩:=s
 have L0:=I.type (M:=model prog w)
 have L1:=looks_mroIn (M:=model prog w) Y hm
 refine codeAny_call_builtin KF.slot_gs.plain KF.entry_gs (KF.slot_gs.check _ _ _ _ _ _ _ _ KF.type_class (KF.args_gs _ _ _) ?_)
 unfold Builtin.«getset_descriptor.__get__» descrGet
 rw [dga_obj]
 refine wpAny_bind (wpAny_pure ?_)
 unfold descrGetter descrCheckInstance descrNameAndClass isInstance
 simp only [KF.owner_class]
 repeat lk
 refine ⟨Code.quiet_builtin _ (by decide+kernel),codeAny_builtin KF.entry_class ?_⟩
 unfold Builtin.«object.__class__» shownTypeOf
 repeat lk
 exact h
open PySem.W PySem.Calls PyProof.Rows Builtin Builtin.ObjectAttr in
theorem exc_find {x D:Addr}{h:Heap}{M:Model}(Y:K.In h)(ha:findIn K (.ref D) "__class__"=some (some (.builtin "object.__class__")))
  (hn:specialIn K (.builtin "object.__class__") "__get__"=some (some (.builtin "getset_descriptor.__get__"))) (htk:takesIn K (.builtin "object.__class__")=some true):
  Looks M h (find (.ref x) (.ref D) "__class__") (.bind (.builtin "getset_descriptor.__get__") (.builtin "object.__class__")):=by
 refine (looks_findIn Y ha).andThen ((show Looks M h (getOf (some (.builtin "object.__class__"))) _ from looks_specialIn Y hn).andThen ?_)
 exact (show Looks M h (dataDescriptor? (some (.builtin "object.__class__")) (some (.builtin "getset_descriptor.__get__"))) (some (.builtin "getset_descriptor.__get__",.builtin "object.__class__")) from (looks_takesIn Y htk).andThen .now).andThen (Looks.tag .now)
noncomputable def excOk (K:PySem.W.Frag)(D:Addr):Bool:=(PySem.W.findIn K (.ref D) "__getattribute__"==some (some (.builtin "BaseException.__getattribute__")))&&(PySem.W.findIn K (.ref D) "__getattr__"==some none)&&(PySem.W.clsIn K D).isSome&&(PySem.W.findIn K (.ref D) "__class__"==some (some (.builtin "object.__class__")))&&
 (PySem.W.specialIn K (.builtin "object.__class__") "__get__"==some (some (.builtin "getset_descriptor.__get__")))&&(PySem.W.takesIn K (.builtin "object.__class__")==some true)&&(PySem.W.mroIn K D (.type "object")==some true)&&(PySem.W.mroIn K D (.type "BaseException")==some true)
open PySem.W in
theorem looks_cls {D:Addr}{M:Model}{h:Heap}(Y:K.In h)(hc:(clsIn K D).isSome=true):Looks M h (isType (.ref D)) true:=by
 unfold clsIn at hc
 split at hc
 ·rename_i c' d' cd' sl' ho
  intro A' Q' E' s' k q
  unfold isType loadHead
  exact wpAny_bind (wpAny_loadPart (k _ _ (Y _ _ ho)) (wpAny_pure q))
 ·exact Bool.noConfusion hc
open PySem.W PySem.Calls PyProof.Rows Builtin Builtin.ObjectAttr in
theorem exc_class {x D:Addr}{prog:Program}{w:World}{Q:Option Value→Shared→Prop}(hok:excOk K D=true)(Y:K.In s.heap)(I:ExcLike s.heap x D)(h:Q (some (.ref D)) {s with toks:=s.toks+1}):
  wpAny (model prog w) A (getAttr? (.ref x) "__class__") Q E s:=by
 obtain ⟨hok,hb⟩:=and_of hok
 obtain ⟨hok,hm⟩:=and_of hok
 obtain ⟨hok,htk⟩:=and_of hok
 obtain ⟨hok,hn⟩:=and_of hok
 obtain ⟨hok,ha⟩:=and_of hok
 obtain ⟨hok,hc⟩:=and_of hok
 obtain ⟨hga,hk⟩:=and_of hok
 replace hga:=eq_of_beq hga
 replace hk:=eq_of_beq hk
 replace ha:=eq_of_beq ha
 replace hn:=eq_of_beq hn
 replace htk:=eq_of_beq htk
 replace hm:=eq_of_beq hm
 replace hb:=eq_of_beq hb
 have L0:=I.type (M:=model prog w)
 have L1:=looks_findIn (M:=model prog w) Y hga
 have L2:=exc_find (M:=model prog w) (x:=x) Y ha hn htk
 have L3:=looks_findIn (M:=model prog w) Y hk
 have L4:Looks (model prog w) s.heap (isInstance (.ref x) (.type "BaseException")) true:=L0.andThen (looks_mroIn Y hb)
 have f3:=(PySem.F.excAttr_ValueError).ga.bind (.ref x)
 obtain ⟨hh,g,d,t,os⟩:=s
 unfold getAttr? getAttrBy? getAttrBy
 refine wpAny_bind (wpAny_mkText (wpAny_bind (wpAny_attempt (wpAny_holding (wpAny_bind (L0.at (wpAny_bind (L1.at ?_))))))))
 dsimp only
 have hx2:(Value.builtin "BaseException.__getattribute__"==Value.builtin "object.__getattribute__")=false:=by decide+kernel
 rw [hx2,Bool.and_false,if_neg (by decide)]
 unfold getAttrByItsOwn hookBefore
 rw [if_pos (show onTheHeap (Value.ref D)=true from rfl)]
 refine wpAny_bind (L3.at (wpAny_bind (wpAny_attempt (wpAny_holding ?_))))
 unfold callGetattribute
 rw [if_neg (by decide)]
 unfold boundAndCalled
 rw [f3]
 refine wpAny_bind (wpAny_pure (wpAny_call ?_))
 have hk':builtinKind "BaseException.__getattribute__"=some .slot:=by decide+kernel
 have hsplit:splitId "BaseException.__getattribute__"=some ("BaseException","__getattribute__"):=by decide+kernel
 refine codeAny_call_builtin (PySem.F.excAttr_ValueError).ga.plain PySem.F.entry_bexc_ga (@check_slot (model prog w) _ _ ⟨hh,g,d,t+1,os⟩ "BaseException.__getattribute__" "BaseException" "__getattribute__" (.ref x) [.str "__class__" t] [] _ hk' hsplit L4 (PySem.F.args_bexc_ga (.ref x) (.str "__class__" t)) ?_)
 unfold Builtin.«object.__getattribute__»
 refine wpAny_bind (wpAny_pure (wpAny_bind (wpAny_pure (wpAny_bind (L0.at (wpAny_bind (L2.at ?_)))))))
 show wpAny _ _ (holding [.builtin "object.__class__"] (call (.builtin "getset_descriptor.__get__") [.builtin "object.__class__",.ref x,.ref D])>>=ret) _ _ _
 refine wpAny_bind (wpAny_holding (wpAny_call (exc_classGet (s:=⟨hh,g,d,t+1,os⟩) Y I hm ?_)))
 refine wpAny_pure ?_
 dsimp only
 rw [handedOut_of rfl]
 exact wpAny_pure (wpAny_pure h)
open PySem.W PySem.Calls PyProof.Rows Builtin Builtin.ObjectAttr in
theorem exc_nested {x D:Addr}{prog:Program}{w:World}{c:Value}{dep:Int}{tk:Tok}{Q:Fin→Shared→Prop}(hok:excOk K D=true)(Y:K.In s.heap)(I:ExcLike s.heap x D)(hty:Looks (model prog w) s.heap (typeOf c) (.type "type"))(his:Looks (model prog w) s.heap (isType c) true)
  (hne:(Value.ref D==c)=false) (hsub:Looks (model prog w) s.heap (isSubtype (.ref D) c) false) (h:Q (.done (.ret (.bool false))) {s with toks:=s.toks+1}):
  wpAny (model prog w) A (Builtin.«isinstance.nested» ⟨[.ref x,c,.int dep tk],[]⟩) Q E s:=by
 have hisD:Looks (model prog w) s.heap (isType (.ref D)) true:=looks_cls Y (and_of (and_of (and_of (and_of (and_of (and_of hok).1).1).1).1).1).2
 have L0:=I.type (M:=model prog w)
 have LI:Looks (model prog w) s.heap (isInstance (.ref x) c) false:=L0.andThen hsub
 unfold Builtin.«isinstance.nested»
 refine wpAny_bind (L0.here ?_)
 rw [if_neg (fun q=>by rw [hne] at q;exact Bool.noConfusion q)]
 refine wpAny_bind (hty.here ?_)
 rw [if_pos (by decide)]
 k_delta "plainIsInstance"
 refine wpAny_bind (wpAny_bind (his.here ?_))
 simp only [Bool.not_true,Bool.false_eq_true,if_false]
 refine wpAny_bind (LI.here ?_)
 simp only [Bool.false_eq_true,if_false]
 refine wpAny_bind (exc_class hok Y I ?_)
 refine wpAny_bind (hisD _ _ _ _ (fun _ _ e=>e) ?_)
 simp only [Bool.not_true,Bool.false_eq_true,if_false]
 refine wpAny_bind (wpAny_rule ?_)
 refine hsub _ _ _ _ (fun _ _ e=>e) ?_
 first
  |exact wpAny_pure h
  |exact wpAny_pure (wpAny_pure h)
  |exact wpAny_bind (wpAny_pure (wpAny_pure h))
open PySem.W PySem.Calls PyProof.Rows Builtin Builtin.ObjectAttr in
theorem exc_notC {x D C:Addr}{prog:Program}{w:World}{Q:Value→Shared→Prop}(hok:excOk K D=true)(e:kin_not K D C=true)(Y:K.In s.heap)(I:ExcLike s.heap x D)(h:Q (.bool false) {s with toks:=s.toks+1}):
  wpAny (model prog w) A (call (.builtin "isinstance") [.ref x,.ref C]) Q E s:=by
 unfold kin_not at e
 rw [Bool.and_eq_true,Bool.and_eq_true,Bool.and_eq_true] at e
 obtain ⟨⟨⟨e0,e1⟩,e2⟩,e3⟩:=e
 refine call_isinstance (S:=fun _ R s=>(K.In s.heap∧ExcLike s.heap x D)∧R (.ok (.ret (.bool false))) {s with toks:=s.toks+1})
  (fun prog' w' A' R' s' hs=>isinstance_outer (exc_nested hok hs.1.1 hs.1.2 (looks_typeIn hs.1.1 (beq_iff_eq.mp e2)) ?_ ?_ (looks_subIn hs.1.1 (beq_iff_eq.mp e3)) hs.2) (by intro q;cases q)) ⟨⟨Y,I⟩,h⟩
 ·exact looks_cls hs.1.1 e1
 ·exact Bool.eq_false_iff.mpr fun q=>of_decide_eq_true e0 (Value.ref.inj (beq_iff_eq.mp q))
theorem exc_at (S:St W fs Ψ H s){a:Addr}{c:String}(h:Ψ a=some (.exc c)):ExcLike s.heap a (W.ca c)∧excNames.contains c=true:=by
 obtain ⟨o,ho,hn,hc,vs,hd⟩:=S.typed _ _ h
 exact ⟨⟨o,ho,hc⟩,hn⟩
open PySem.W PySem.Calls PyProof.Rows Builtin Builtin.ObjectAttr in
theorem exc_isT {x D:Addr}{prog:Program}{w:World}{T:String}{Q:Value→Shared→Prop}(hty:typeOf (.type T)=pure (.type "type"))(e:subIn K (.ref D) (.type T)=some true)(Y:K.In s.heap)(I:ExcLike s.heap x D)(h:Q (.bool true) s):
  wpAny (model prog w) A (call (.builtin "isinstance") [.ref x,.type T]) Q E s:=by
 refine call_isinstance (S:=fun _ R s=>(K.In s.heap∧ExcLike s.heap x D)∧R (.ok (.ret (.bool true))) s) (fun prog' w' A' R' s' hs=>isinstance_outer ?_ (by intro q;cases q)) ⟨⟨Y,I⟩,h⟩
 have L0:=hs.1.2.type (M:=model prog' w')
 have LI:Looks (model prog' w') s'.heap (isInstance (.ref x) (.type T)) true:=L0.andThen (looks_subIn hs.1.1 e)
 unfold Builtin.«isinstance.nested»
 refine wpAny_bind (L0.here ?_)
 rw [if_neg (fun q=>by cases beq_iff_eq.mp q)]
 refine wpAny_bind (wpAny_of_eq hty ?_)
 rw [if_pos (by decide)]
 k_delta "plainIsInstance"
 refine wpAny_bind (wpAny_bind (wpAny_pure ?_))
 simp only [Bool.not_true,Bool.false_eq_true,if_false]
 refine wpAny_bind (LI.here ?_)
 simp only [if_true]
 exact wpAny_pure (wpAny_pure hs.2)
noncomputable def tyNames:List String:=["int","bool","list","tuple","str","ValueError"]
noncomputable def isiOk (ca:String→Addr)(K:PySem.W.Frag)(t:String):Bool:=(PySem.W.nsIn K mainGlobals (Str.ofString "isinstance")==some none)&&(if excNames.contains t
 then (PySem.W.nsIn K mainGlobals (Str.ofString t)==some (some (.ref (ca t))))&&excNames.all fun c=>excOk K (ca c)&&(if t==c then PySem.W.isIn K (.ref (ca c)) (ca t) else PySem.W.kin_not K (ca c) (ca t))
 else (PySem.W.nsIn K mainGlobals (Str.ofString t)==some none)&&tyNames.contains t&&excNames.all fun c=>PySem.W.subIn K (.ref (ca c)) (.type "ValueError")==some true)
noncomputable def tyVal (W:Amb)(t:String):Value:=if excNames.contains t then .ref (W.ca t) else .type t
theorem ve_type:typeOf (.type "ValueError")=pure (.type "type"):=by kernel_rfl
theorem ty_all_ok:(tyNames.all fun b=>(bootBuiltins (Str.ofString b)==some (.type b))&& !(Str.ofString b=="__name__"))=true:=by kernel_rfl
theorem lst_obj (S:St W fs Ψ H s){a:Addr}{vs:List MV}(h:LstAt H a vs):∃ o,s.heap.get? a=some o∧o.cls=.type "list":=by
 obtain ⟨items,⟨o,ho,hc,_⟩,_⟩:=S.lstAt h
 exact ⟨o,ho,hc⟩
theorem tup_obj (S:St W fs Ψ H s){v:Value}{vs:List MV}(hv:VRel Ψ v (.tup vs)):∃ a o,v=.ref a∧s.heap.get? a=some o∧o.cls=.type "tuple":=by
 obtain ⟨a,rfl,ha⟩:=vtup hv
 obtain ⟨items,⟨o,ho,hc,_⟩,_⟩:=tup_at S ha
 exact ⟨a,o,rfl,ho,hc⟩
theorem isi_exc {t c:String}{v:Value}(F:Facts W K)(ht:isiOk W.ca K t=true)(S:St W fs Ψ H s)(hv:VRel Ψ v (.exc c))(h0:excNames.contains t=true)(fin:∀ k,PostE W fs Ψ Q (.bool (t==c)) {s with toks:=k}):
  wpAny W.M A (call (.builtin "isinstance") [v,.ref (W.ca t)]) (PostE W fs Ψ Q) E s:=by
 obtain ⟨a,rfl,ha⟩:=vexc hv
 obtain ⟨I,hc⟩:=exc_at S ha
 have h1:=(and_of ht).2
 rw [if_pos h0] at h1
 obtain ⟨h2,h3⟩:=and_of (List.all_eq_true.mp (and_of h1).2 c (List.contains_iff_mem.mp hc))
 cases q:t==c with
 |true=>
  rw [q,if_pos rfl] at h3
  rw [q] at fin
  exact PySem.W.isi_call (F.at S) (fun M=>I.type) h3 (fun z=>Value.noConfusion z) (fin s.toks)
 |false=>
  rw [q,if_neg Bool.noConfusion] at h3
  rw [q] at fin
  exact exc_notC h2 h3 (F.at S) I (fin _)
theorem op_isinst {t:String}{v:Value}{mv:MV}{b:Bool}(F:Facts W K)(ht:isiOk W.ca K t=true)(S:St W fs Ψ H s)(hv:VRel Ψ v mv)(h:IsiR H mv t b)(hq:Q (.bool b) H):
  wpAny W.M A (call (.builtin "isinstance") [v,tyVal W t]) (PostE W fs Ψ Q) E s:=by
 have fin:∀ k,PostE W fs Ψ Q (.bool b) {s with toks:=k}:=fun k=> .now (S.toks k) .bool hq
 have fin0:PostE W fs Ψ Q (.bool b) s:=fin s.toks
 cases h with
 |ii=>obtain ⟨t,rfl⟩:=vint hv;exact IsiPair.int_int fin0
 |ib=>obtain rfl:=vbool hv;exact IsiPair.bool_int fin0
 |in_=>obtain rfl:=vnone hv;exact IsiPair.NoneType_int (fin _)
 |is_=>obtain ⟨t,rfl⟩:=vstr hv;exact IsiPair.str_int (fin _)
 |it=>obtain ⟨a,o,rfl,ho,hc⟩:=tup_obj S hv;exact IsiPair.tuple_int ho hc (fin _)
 |bb=>obtain rfl:=vbool hv;exact IsiPair.bool_bool fin0
 |bi=>obtain ⟨t,rfl⟩:=vint hv;exact IsiPair.int_bool (fin _)
 |ll h=>obtain rfl:=vref hv;obtain ⟨o,ho,hc⟩:=lst_obj S h;exact IsiPair.list_list ho hc fin0
 |li=>obtain ⟨t,rfl⟩:=vint hv;exact IsiPair.int_list (fin _)
 |ln=>obtain rfl:=vnone hv;exact IsiPair.NoneType_list (fin _)
 |tt=>obtain ⟨a,o,rfl,ho,hc⟩:=tup_obj S hv;exact IsiPair.tuple_tuple ho hc fin0
 |ti=>obtain ⟨t,rfl⟩:=vint hv;exact IsiPair.int_tuple (fin _)
 |ss=>obtain ⟨t,rfl⟩:=vstr hv;exact IsiPair.str_str fin0
 |exc h0=>rw [tyVal,if_pos h0];exact isi_exc F ht S hv h0 fin
 |val=>
  obtain ⟨a,rfl,ha⟩:=vexc hv
  obtain ⟨I,hc⟩:=exc_at S ha
  exact exc_isT ve_type (eq_of_beq (List.all_eq_true.mp (and_of (and_of ht).2).2 _ (List.contains_iff_mem.mp hc))) (F.at S) I fin0
theorem load_ty {t:String}{hd:Bool}{A:Around}{env:Env}{ρ:Sto}{it:Str}{pt:Pos}{QQ:Value→Shared→Prop}(F:Facts W K)(C:Cx n hd A fs env nm)(R:EnvRel Ψ env ρ)(S:St W fs Ψ H s)(hg:isGlob nm t it=true)(ht:isiOk W.ca K t=true)(q:QQ (tyVal W t) s):wpAny W.M A (eval (.Name it pt) env) QQ E s:=by
 have h:=(and_of ht).2
 unfold tyVal at q
 by_cases h0:excNames.contains t=true
 ·rw [if_pos h0] at h q
  exact loadGlob F C R S hg (eq_of_beq (and_of h).1) q
 ·rw [if_neg h0] at h q
  obtain ⟨h1,h2⟩:=and_of (and_of h).1
  obtain ⟨h3,h4⟩:=and_of (List.all_eq_true.mp ty_all_ok t (List.contains_iff_mem.mp h2))
  exact loadBlt F C R S hg (eq_of_beq h1) (eq_of_beq h3) (beq_eq_false_iff_ne.mp (not_of h4)) q
theorem isi_boot:bootBuiltins (Str.ofString "isinstance")=some (.builtin "isinstance"):=by kernel_rfl
theorem snd_isinst {e:ME}{x:PySem.Expr}{t:String}{id it:Str}{p pt pos:Pos}(F:Facts W K)(hi:isGlob nm "isinstance" id=true)(hg:isGlob nm t it=true)(ht:isiOk W.ca K t=true)(hx:notStarred x=true)(he:SndE W Δ n nm e x):
  SndE W Δ n nm (.isinst e t) (.Call (.Name id p) [x,.Name it pt] [] pos):=by
 intro hd A fs env ρ Ψ H s Q X C R S h
 show wpAny W.M A (do callWith pos (←eval (.Name id p) env) [] (backTo pos (starEach [x,.Name it pt] env)) []) _ _ s
 refine wpAny_bind (loadBlt F C R S hi (eq_of_beq (and_of ht).1) isi_boot (by decide) ?_)
 rw [starEach_cons hx]
 refine Calls.callWith_builtin rfl (Calls.evalArgs_plain (Calls.spliced_cons (monoE (he C R S h) fun Ψ₁ H₁ mv v s₁ S₁ K₁ va h₁=>?_)))
 refine Calls.spliced_cons (load_ty F C (R.keep K₁) S₁ hg ht (Calls.spliced_nil ?_))
 exact h₁.elim fun b z=>lift K₁ (op_isinst F ht S₁ va z.1 z.2)
end
end Mine
end
section
namespace Mine
open PySem
theorem lookup_zip_mem {α β:Type} [BEq α] [LawfulBEq α]:∀{ns:List α} {vs:List β},ns.length=vs.length→∀ n∈ns,((ns.zip vs).lookup n).isSome=true
 |a::ns,v::vs,hl,n,h=>by
  simp only [List.zip_cons_cons,List.lookup_cons]
  cases q:n==a with
  |true=>rfl
  |false=>
   rcases List.mem_cons.mp h with e|h
   ·subst e;simp at q
   ·exact lookup_zip_mem (by simpa using hl) n h
theorem filterMap_eq {α β:Type}{f g:α→Option β}:∀{l:List α},(∀ n∈l,f n=g n)→l.filterMap f=l.filterMap g
 | [],_=>rfl
 |a::l,h=>by
  simp only [List.filterMap_cons,h a (by simp)]
  rw [filterMap_eq fun n hn=>h n (by simp [hn])]
theorem filterMap_zip {α β:Type} [BEq α] [LawfulBEq α]:∀{ns:List α} {vs:List β},ns.length=vs.length→ns.Nodup→ns.filterMap (fun n=>((ns.zip vs).lookup n).map fun x=>(n,x))=ns.zip vs
 | [],[],_,_=>rfl
 |a::ns,v::vs,hl,hn=>by
  obtain ⟨h1,h2⟩:=List.nodup_cons.mp hn
  simp only [List.zip_cons_cons,List.filterMap_cons,List.lookup_cons,beq_self_eq_true,Option.map_some]
  congr 1
  rw [←filterMap_zip (by simpa using hl) h2]
  refine filterMap_eq fun n hm=>?_
  have:(n==a)=false:=by
   rw [beq_eq_false_iff_ne];rintro rfl;exact h1 hm
  rw [this,filterMap_zip (by simpa using hl) h2]
noncomputable def bindP (ns:List Str)(vals:List Value)(e1 e2:Sem (List (Str×Value))):Sem (List (Str×Value)):=
 if (decide (vals.length>ns.length)&&true)=true then e1
 else if (!((ns.take (ns.length-(List.drop (0-ns.length) ([]:List Value)).length)).filter fun n=>((ns.zip vals).lookup n).isNone).isEmpty)=true then e2
 else pure ((ns++ []).filterMap fun n=>((ns.zip vals).lookup n).map (n,·))
theorem zip_drop (l:List Str)(k:Nat):l.zip (List.drop k ([]:List Value))=[]:=by rw [List.drop_nil,List.zip_nil_right]
set_option maxHeartbeats 1000000 in
theorem bind_shape {fd:FuncData}{as:List Arg}{kwd:List (Option PySem.Expr)}{ds:List PySem.Expr}{vals:List Value}(hp:fd.params=⟨[],as,none,[],kwd,none,ds⟩)(hd:fd.defaults=.none):∃ e1 e2,bindArgs fd ⟨vals,[]⟩=bindP (as.map (·.arg)) vals e1 e2:=by
 cases fd
 cases hp
 cases hd
 apply Exists.intro
 apply Exists.intro
 exact ite_congr rfl (fun _=>rfl) fun _=>ite_congr rfl (fun _=>rfl) fun _=>Eq.trans (congrArg (fun l=>(forIn l _ _:Sem (List (Str×Value)))>>=_) (zip_drop _ _)) rfl
theorem bind_plain {fd:FuncData}{as:List Arg}{kwd:List (Option PySem.Expr)}{ds:List PySem.Expr}{vals:List Value}(hp:fd.params=⟨[],as,none,[],kwd,none,ds⟩)(hd:fd.defaults=.none)(hn:(as.map (·.arg)).Nodup)(hl:as.length=vals.length):
  bindArgs fd ⟨vals,[]⟩=pure ((as.map (·.arg)).zip vals):=by
 obtain ⟨e1,e2,e⟩:=bind_shape (vals:=vals) hp hd
 rw [e]
 have hl':(as.map (·.arg)).length=vals.length:=by rw [List.length_map];exact hl
 generalize as.map (·.arg)=ns at*
 have hm:(ns.filter fun n=>((ns.zip vals).lookup n).isNone)=[]:=by
  rw [List.filter_eq_nil_iff]
  intro n h
  have:=lookup_zip_mem hl' n h
  rw [Option.isSome_iff_exists] at this
  obtain ⟨x,hx⟩:=this
  rw [hx];exact Bool.noConfusion
 unfold bindP
 rw [if_neg (by rw [hl',decide_eq_false (Nat.lt_irrefl _)];exact Bool.noConfusion),List.drop_nil,List.length_nil,Nat.sub_zero,List.take_length,hm,if_neg Bool.noConfusion,List.append_nil,filterMap_zip hl' hn]
end Mine
end
section
namespace Mine
open PySem
noncomputable def argAt:List String→List MV→Str→Option MV
 |x::xs,v::vs,n=>if n=Str.ofString x then some v else argAt xs vs n
 |_,_,_=>none
theorem sto_args:∀(xs:List String) (vs:List MV) (y:String),Sto.ofArgs xs vs y=argAt xs vs (Str.ofString y)
 | [],_,_=>by simp [Sto.ofArgs,argAt]
 |_::_,[],_=>by simp [Sto.ofArgs,argAt]
 |x::xs,v::vs,y=>by
  simp only [Sto.ofArgs,argAt,Sto.set,ofString_eq,sto_args xs vs y]
theorem argAt_mem:∀{xs:List String} {vs:List MV} {n:Str} {v:MV},argAt xs vs n=some v→n∈xs.map Str.ofString
 |x::xs,v::vs,n,w,h=>by
  unfold argAt at h
  split at h
  ·rename_i q;simp [q]
  ·simp only [List.map_cons,List.mem_cons];exact .inr (argAt_mem h)
 | [],_,_,_,h=>by simp [argAt] at h
 |_::_,[],_,_,h=>by simp [argAt] at h
theorem bindL_out {kindOf:Str→Option NameKind}{n:Str}:∀{b:List (Str×Value)} {m:Str→Option Value},n ∉ b.map (·.1)→bindL kindOf b m n=m n
 | [],_,_=>rfl
 |(k,v)::r,m,h=>by
  simp only [List.map_cons,List.mem_cons,not_or] at h
  unfold bindL
  rw [bindL_out h.2]
  split
  ·exact if_neg h.1
  ·rfl
theorem bindC_out {kindOf:Str→Option NameKind}{n:Str}:∀{b:List (Str×Value)} {m:Str→Option Value},n ∉ b.map (·.1)→bindC kindOf b m n=m n
 | [],_,_=>rfl
 |(k,v)::r,m,h=>by
  simp only [List.map_cons,List.mem_cons,not_or] at h
  unfold bindC
  rw [bindC_out h.2]
  split
  ·rfl
  ·exact if_neg h.1
theorem zip_names {xs:List String}{ws:List Value}:∀ n,n ∉ xs.map Str.ofString→n ∉((xs.map Str.ofString).zip ws).map (·.1):=by
 intro n h q
 obtain ⟨p,hp,rfl⟩:=List.mem_map.mp q
 exact h (List.of_mem_zip hp).1
theorem bind_local {Ψ:Psi}{kindOf:Str→Option NameKind}{n:Str}(hk:kindOf n=some .local):∀{xs:List String} {ws:List Value} {vs:List MV} {v:MV} {m:Str→Option Value},(xs.map Str.ofString).Nodup→All2 (VRel Ψ) ws vs→argAt xs vs n=some v→
  ∃ w,bindL kindOf ((xs.map Str.ofString).zip ws) m n=some w∧VRel Ψ w v
 |x::xs,w::ws,v::vs,v',m,hn,.cons h t,ha=>by
  simp only [List.map_cons,List.nodup_cons] at hn
  unfold argAt at ha
  simp only [List.map_cons,List.zip_cons_cons,bindL]
  split at ha
  ·rename_i q
   cases ha
   rw [bindL_out (by rw [q];exact zip_names _ hn.1),←q,if_pos hk]
   exact ⟨w,if_pos rfl,h⟩
  ·exact bind_local hk hn.2 t ha
 | [],_,_,_,_,_,_,h=>by simp [argAt] at h
 |_::_,[],[],_,_,_,_,h=>by simp [argAt] at h
theorem bind_cell {Ψ:Psi}{kindOf:Str→Option NameKind}{n:Str}(hk:kindOf n≠some .local):∀{xs:List String} {ws:List Value} {vs:List MV} {v:MV} {m:Str→Option Value},(xs.map Str.ofString).Nodup→All2 (VRel Ψ) ws vs→argAt xs vs n=some v→
  ∃ w,bindC kindOf ((xs.map Str.ofString).zip ws) m n=some w∧VRel Ψ w v
 |x::xs,w::ws,v::vs,v',m,hn,.cons h t,ha=>by
  simp only [List.map_cons,List.nodup_cons] at hn
  unfold argAt at ha
  simp only [List.map_cons,List.zip_cons_cons,bindC]
  split at ha
  ·rename_i q
   cases ha
   rw [bindC_out (by rw [q];exact zip_names _ hn.1),←q,if_neg hk]
   exact ⟨w,if_pos rfl,h⟩
  ·exact bind_cell hk hn.2 t ha
 | [],_,_,_,_,_,_,h=>by simp [argAt] at h
 |_::_,[],[],_,_,_,_,h=>by simp [argAt] at h
theorem cells_acc:∀{names:List (Str×NameKind)} {k:Nat} {acc:List (Str×Addr)} {p:Str×Addr},p∈acc→p∈cellsFrom k names acc
 | [],_,_,_,h=>h
 |(n,kd)::r,k,acc,p,h=>by
  unfold cellsFrom
  split
  ·exact cells_acc (List.mem_cons_of_mem _ h)
  ·exact cells_acc h
theorem cells_in:∀{names:List (Str×NameKind)} {k:Nat} {acc:List (Str×Addr)} {n:Str},(n,NameKind.cell)∈names→∃ c,(n,c)∈cellsFrom k names acc
 |(m,kd)::r,k,acc,n,h=>by
  unfold cellsFrom
  rcases List.mem_cons.mp h with e|h
  ·cases e
   rw [if_pos (by rfl)]
   exact ⟨k,cells_acc List.mem_cons_self⟩
  ·split
   ·exact cells_in h
   ·exact cells_in h
theorem cells_kind:∀{names:List (Str×NameKind)} {k:Nat} {acc:List (Str×Addr)} {p:Str×Addr},p∈cellsFrom k names acc→p∈acc∨(p.1,NameKind.cell)∈names
 | [],_,_,_,h=> .inl h
 |(m,kd)::r,k,acc,p,h=>by
  unfold cellsFrom at h
  split at h
  ·rename_i q
   obtain rfl:kd=.cell:=by cases kd<;>first|rfl|cases q
   rcases cells_kind h with h|h
   ·rcases List.mem_cons.mp h with e|h
    ·subst e;exact .inr List.mem_cons_self
    ·exact .inl h
   ·exact .inr (List.mem_cons_of_mem _ h)
  ·rcases cells_kind h with h|h
   ·exact .inl h
   ·exact .inr (List.mem_cons_of_mem _ h)
theorem lookup_nodup {α:Type}:∀{l:List (Str×α)} {n:Str} {c:α},(l.map (·.1)).Nodup→(n,c)∈l→l.lookup n=some c
 |(k,v)::r,n,c,hn,h=>by
  simp only [List.map_cons,List.nodup_cons] at hn
  rw [List.lookup_cons]
  rcases List.mem_cons.mp h with e|h'
  ·cases e;rw [beq_self_eq_true]
  ·have:(n==k)=false:=by
    rw [beq_eq_false_iff_ne];rintro rfl
    exact hn.1 (List.mem_map_of_mem (f:=(·.1)) h')
   rw [this];exact lookup_nodup hn.2 h'
theorem cells_names:∀(names:List (Str×NameKind)) (k j:Nat) (a b:List (Str×Addr)),a.map (·.1)=b.map (·.1)→(cellsFrom k names a).map (·.1)=(cellsFrom j names b).map (·.1)
 | [],_,_,_,_,h=>h
 |(n,kd)::r,k,j,a,b,h=>by
  unfold cellsFrom
  split
  ·exact cells_names r _ _ _ _ (by simp [h])
  ·exact cells_names r _ _ _ _ h
noncomputable def Psi.call (Ψ:Psi)(L:Addr)(m:Sto)(cs:List (Str×Addr))(cv:Str→Option MV):Psi:=fun a=>if a=L then some (.ns m) else match cs.find? (fun p=>p.2==a) with
 |some p=>some (.cell (cv p.1))
 |none=>Ψ a
section
variable {Ψ:Psi}{L:Addr}{m:Sto}{cs:List (Str×Addr)}{cv:Str→Option MV}
theorem Psi.call_L:Ψ.call L m cs cv L=some (.ns m):=if_pos rfl
theorem Psi.call_cell (ha:cs.Pairwise fun x y=>x.2≠y.2)(hL:∀ n c,(n,c)∈cs→L<c){n:Str}{c:Addr}(h:(n,c)∈cs):Ψ.call L m cs cv c=some (.cell (cv n)):=by
 unfold Psi.call
 rw [if_neg (Nat.ne_of_gt (hL n c h))]
 cases q:cs.find? (fun p=>p.2==c) with
 |none=>
  have:=List.find?_eq_none.mp q (n,c) h
  simp at this
 |some p=>
  have h1:=List.find?_some q
  have h2:=List.mem_of_find?_eq_some q
  simp only [beq_iff_eq] at h1
  obtain ⟨p1,p2⟩:=p
  dsimp only at h1 ⊢
  subst h1
  rw [name_of_addr ha h h2]
theorem Psi.call_cases {a:Addr}{k:HK}(h:Ψ.call L m cs cv a=some k):(a=L∧k=.ns m)∨(∃ n,(n,a)∈cs∧k=.cell (cv n))∨(Ψ a=some k∧a≠L∧∀ n,(n,a)∉ cs):=by
 unfold Psi.call at h
 split at h
 ·rename_i q;cases h;exact .inl ⟨q,rfl⟩
 ·rename_i q
  split at h
  ·rename_i p hp
   have h1:=List.find?_some hp
   simp only [beq_iff_eq] at h1
   cases h
   refine .inr (.inl ⟨p.1,?_,rfl⟩)
   rw [←h1];exact List.mem_of_find?_eq_some hp
  ·rename_i hp
   refine .inr (.inr ⟨h,q,fun n hm=>?_⟩)
   have:=List.find?_eq_none.mp hp (n,a) hm
   simp at this
theorem Psi.call_old {lo:Nat}(hL:lo≤L)(hcs:∀ n c,(n,c)∈cs→L<c){a:Addr}(h:a<lo):Ψ.call L m cs cv a=Ψ a:=by
 unfold Psi.call
 rw [if_neg (Nat.ne_of_lt (Nat.lt_of_lt_of_le h hL))]
 cases q:cs.find? (fun p=>p.2==a) with
 |none=>rfl
 |some p=>
  have h1:=List.find?_some q
  have h2:=hcs p.1 p.2 (List.mem_of_find?_eq_some q)
  simp only [beq_iff_eq] at h1
  exact absurd (h1▸h2:L<a) (Nat.not_lt.mpr (Nat.le_of_lt (Nat.lt_of_lt_of_le h hL)))
end
end Mine
end
section
namespace Mine
open PySem
inductive PostN (W:Amb)(fs:List Env)(env:Env)(Ψ:Psi)(N:Sto→MH→Prop)(s':Shared):Prop
 |mk (Ψ':Psi)(H':MH)(ρ':Sto)(S:St W fs Ψ' H' s')(K:Keep (ownOf env) Ψ Ψ')(E:EnvRel Ψ' env ρ')(q:N ρ' H')
inductive PostR (W:Amb)(fs:List Env)(env:Env)(Ψ:Psi)(R:MV→MH→Prop)(v:Value)(s':Shared):Prop
 |mk (Ψ':Psi)(H':MH)(mv:MV)(S:St W fs Ψ' H' s')(K:Keep (ownOf env) Ψ Ψ')(E:∃ ρ',EnvRel Ψ' env ρ')(hv:VRel Ψ' v mv)(q:R mv H')
noncomputable def PostS (W:Amb)(fs:List Env)(env:Env)(Ψ:Psi)(N:Sto→MH→Prop)(R:MV→MH→Prop)(f:Flow)(s':Shared):Prop:=match f with
 | .next=>PostN W fs env Ψ N s'
 | .ret v=>PostR W fs env Ψ R v s'
 |_=>False
inductive PostY (W:Amb)(fs:List Env)(env:Env)(Ψ:Psi)(X:String→Sto→MH→Prop)(e:Value)(s':Shared):Prop
 |mk (ea:Addr)(c:String)(Ψ':Psi)(H':MH)(ρ':Sto)(he:e=.ref ea)(F:Fly W fs Ψ' ea c s'.heap)(S:St W fs Ψ' H' s')(K:Keep (ownOf env) Ψ Ψ')(E:EnvRel Ψ' env ρ')(q:X c ρ' H')
theorem PostX.toY {W:Amb}{fs:List Env}{env:Env}{Ψ Ψ₁:Psi}{ρ:Sto}{X:String→Sto→MH→Prop}{e:Value}{s':Shared}(R:EnvRel Ψ₁ env ρ)(K:Keep (ownOf env) Ψ Ψ₁)(x:PostX W fs Ψ₁ (fun c H=>X c ρ H) e s'):PostY W fs env Ψ X e s':=by
 cases x with|mk ea c Ψ' H' a b d k r=>exact ⟨ea,c,Ψ',H',ρ,a,b,d,K.trans k.of_none,R.keep k,r⟩
theorem PostS.from {W:Amb}{fs:List Env}{env:Env}{Ψ Ψ₁:Psi}{N:Sto→MH→Prop}{R:MV→MH→Prop}{f:Flow}{s':Shared}(K:Keep (ownOf env) Ψ Ψ₁)(x:PostS W fs env Ψ₁ N R f s'):PostS W fs env Ψ N R f s':=by
 cases f with
 |next=>obtain ⟨Ψ',H',ρ',a,b,c,d⟩:=x;exact ⟨Ψ',H',ρ',a,K.trans b,c,d⟩
 |ret v=>obtain ⟨Ψ',H',mv,a,b,c,d,e⟩:=x;exact ⟨Ψ',H',mv,a,K.trans b,c,d,e⟩
 |_=>exact x
theorem PostY.from {W:Amb}{fs:List Env}{env:Env}{Ψ Ψ₁:Psi}{X:String→Sto→MH→Prop}{e:Value}{s':Shared}(K:Keep (ownOf env) Ψ Ψ₁)(x:PostY W fs env Ψ₁ X e s'):PostY W fs env Ψ X e s':=by
 cases x with|mk ea c Ψ' H' ρ' a b d k i r=>exact ⟨ea,c,Ψ',H',ρ',a,b,d,K.trans k,i,r⟩
noncomputable def SndSs (W:Amb)(Δ:CallT)(n:Nat)(nm:Names)(ms:MSs)(xs:List Stmt):Prop:=
 ∀ ⦃hd:Bool⦄{A:Around} {outer:List Env} {env:Env} {ρ:Sto} {Ψ:Psi} {H:MH} {s:Shared} {N:Sto→MH→Prop} {R:MV→MH→Prop} {X:String→Sto→MH→Prop},
  Cx n hd A (env::outer) env nm→EnvRel Ψ env ρ→St W (env::outer) Ψ H s→wSs Δ hd ms ρ H N R X→wpAny W.M A (execs xs env) (PostS W (env::outer) env Ψ N R) (PostY W (env::outer) env Ψ X) s
noncomputable def SndS (W:Amb)(Δ:CallT)(n:Nat)(nm:Names)(ms:MS)(x:Stmt):Prop:=
 ∀ ⦃hd:Bool⦄{A:Around} {outer:List Env} {env:Env} {ρ:Sto} {Ψ:Psi} {H:MH} {s:Shared} {N:Sto→MH→Prop} {R:MV→MH→Prop} {X:String→Sto→MH→Prop},
  Cx n hd A (env::outer) env nm→EnvRel Ψ env ρ→St W (env::outer) Ψ H s→wS Δ hd ms ρ H N R X→wpAny W.M A (exec x env) (PostS W (env::outer) env Ψ N R) (PostY W (env::outer) env Ψ X) s
section
variable {W:Amb}{fs:List Env}{Ψ:Psi}{H:MH}{s s':Shared}{A:Around}
theorem St.flown {B:Heap}(S:St W fs Ψ H s)(hB:∀ a k,Ψ a=some k→(∀ m,k≠ .ns m)→∃ o,B.get? a=some o)(h0:W.h₀.StaysIn B)(hs:B.StaysIn s.heap)(hs':B.StaysIn s'.heap)(hu:s.heap.UpToSlots s'.heap)(hg:s'.gens=s.gens)(ho:s'.os=s.os):St W fs Ψ H s':=by
 refine ⟨fun a k e=>?_,S.fresh,S.heap,fun b o e=>hs' b o (h0 b o e),S.frames,hg.trans S.gens,ho.trans S.os,S.dsys⟩
 obtain ⟨o,h1,h2⟩:=S.typed a k e
 by_cases hk:∃ m,k=.ns m
 ·obtain ⟨m,rfl⟩:=hk
  obtain ⟨ents,n,hd,hk,hf⟩:=h2
  obtain ⟨sl,h3⟩:=hu a o h1 fun vs q=>by rw [hd] at q;cases q
  exact ⟨_,h3,ents,n,hd,hk,hf⟩
 ·obtain ⟨o',h3⟩:=hB a k e fun m q=>hk ⟨m,q⟩
  have:=hs a o' h3
  rw [h1] at this
  cases this
  exact ⟨o,hs' a o h3,h2⟩
theorem leaves {env:Env}{outer:List Env}{e:Addr}{c:String}{Q:Unit→Shared→Prop}{E:Value→Shared→Prop}(hfr:A.frames=some (env::outer))(F:Fly W (env::outer) Ψ e c s.heap)(S:St W (env::outer) Ψ H s)
  (h:∀ s',Fly W outer Ψ e c s'.heap→St W (env::outer) Ψ H s'→Q () s'):wpAny W.M A (leaving env (.ref e)) Q E s:=by
 obtain ⟨hcn,B,h0,hB,hn,hk,hf,hx⟩:=F
 obtain ⟨L,_,hL,_⟩:=hf.2.1
 rcases hx with ⟨a0,hx⟩|⟨a0,L',env',outer',q,hL',hx⟩|⟨oe,vs,a0,he,hc,hd,h0',h1⟩
 ·refine wpAny_leaves_onW hfr hL ⟨hB,hn,hf,hx⟩ fun h' hfl hu=>?_
  exact h _ ⟨hcn,B,h0,hfl.1,hn,hk,hfl.2.2.1,.inl ⟨a0,hfl.2.2.2⟩⟩ (S.flown hk h0 hB hfl.1 hu rfl rfl)
 ·cases q
  unfold leaving
  refine wpAny_bind (wpAny_noteFrame_againW hL' hx ?_)
  refine wpAny_landsW (l:=env::outer) (L:=L') ⟨hB,hn,hf,hx⟩ fun h' hfl hu=>?_
  exact h _ ⟨hcn,B,h0,hfl.1,hn,hk,hfl.2.2.1.2.2,.inl ⟨a0,hfl.2.2.2⟩⟩ (S.flown hk h0 hB hfl.1 hu rfl rfl)
 ·refine wpAny_leaving_firstW hfr hf hL he hB hn hd h1 h0' fun h' hl=>?_
  obtain ⟨k1,k2,k3,k4⟩:=hl
  rw [hc] at k3
  exact h _ ⟨hcn,B,h0,k1,hn,hk,k2.2.2,.inl ⟨a0,k3⟩⟩ (S.flown hk h0 hB k1 k4 rfl rfl)
theorem St.unframe {env:Env}{outer:List Env}(S:St W (env::outer) Ψ H s):St W outer Ψ H s:=
 ⟨S.typed,S.fresh,S.heap,S.base,fun e he=>S.frames e (List.mem_cons_of_mem _ he),S.gens,S.os,S.dsys⟩
end
structure FnIs (h₀:Heap)(a:Addr)(fd:FuncData)(body:List Stmt)(params:List String):Prop where
 at_:∃ o,h₀.get? a=some o∧o.data=.func fd
 body:fd.body=.stmts body
 par:∃ as kwd ds,fd.params=⟨[],as,none,[],kwd,none,ds⟩∧as.map (·.arg)=params.map Str.ofString
 dflt:fd.defaults=.none
 nodup:(params.map Str.ofString).Nodup
 clo:fd.closure=[]
 glob:fd.globals=mainGlobals
 blt:fd.builtins=builtinsNs
 code:h₀.CodeRec fd.code fd.qualname
 kinds:∀ x∈params.map Str.ofString,fd.scope.names.lookup x=some .local∨fd.scope.names.lookup x=some .cell
 names:(fd.scope.names.map (·.1)).Nodup
 cells:((cellsFrom 0 fd.scope.names []).map (·.1)).Nodup
 co:fd.scope.isCoroutine=false
 gen:fd.scope.isGenerator=false
 kind:fd.scope.kind=.function
structure CxC (n:Nat)(hd:Bool)(A:Around)(fs:List Env):Prop where
 frames:A.frames=some fs
 hand:hd=false→A.handled=none
 depth:A.depth+n≤900
 units:A.units+4*n≤9000
noncomputable def SndF (W:Amb)(n:Nat)(call1:Bool→List MV→MH→(MV→MH→Prop)→(String→MH→Prop)→Prop)(f:Value):Prop:=
 ∀ ⦃hd:Bool⦄{A:Around} {fs:List Env} {Ψ:Psi} {H:MH} {s:Shared} {vs:List Value} {mvs:List MV} {Q:MV→MH→Prop} {X:String→MH→Prop},
  CxC n hd A fs→St W fs Ψ H s→All2 (VRel Ψ) vs mvs→call1 hd mvs H Q X→codeAny W.M A (.call f ⟨vs,[]⟩) (fun r s'=>match r with
   | .ok (.ret v)=>PostE W fs Ψ Q v s'
   | .ok _=>False
   | .error e=>PostX W fs Ψ X e s') s
theorem CxC.le {n m:Nat}{hd:Bool}{A:Around}{fs:List Env}(x:CxC n hd A fs)(h:m≤n):CxC m hd A fs:=⟨x.frames,x.hand,by have:=x.depth;lia,by have:=x.units;lia⟩
theorem SndF.le {W:Amb}{n m:Nat}{c:Bool→List MV→MH→(MV→MH→Prop)→(String→MH→Prop)→Prop}{f:Value}(x:SndF W m c f)(h:m≤n):SndF W n c f:=fun _=>fun C S v z=>x (C.le h) S v z
theorem call_fn {W:Amb}{K:PySem.W.Frag}{Δ:CallT}{n:Nat}{a:Addr}{fd:FuncData}{body:List Stmt}{params:List String}{ms:MSs}(F:Facts W K)(D:FnIs W.h₀ a fd body params)(hb:SndSs W Δ n fd.scope.names ms body):
  SndF W (n+1) (fun hd vs H Q X=>params.length=vs.length∧wSs Δ hd ms (Sto.ofArgs params vs) H (fun _ H'=>Q .none H') Q (fun c _ H'=>X c H')) (.ref a):=by
 intro hd A fs Ψ H s vs mvs Q X C S hv h
 obtain ⟨hlen,h⟩:=h
 obtain ⟨o,ho,hod⟩:=D.at_
 obtain ⟨as,kwd,ds,hp,has⟩:=D.par
 have e1:(as.map (·.arg)).length=as.length:=List.length_map ..
 have e2:=hv.length_eq
 have hbind:=bind_plain (vals:=vs) hp D.dflt (by rw [has];exact D.nodup) (by rw [←e1,has,List.length_map,hlen,e2])
 rw [has] at hbind
 have hroom:A.depth<recursionLimit:=by have:=C.depth;show A.depth<1000;lia
 have hcs:((cellsFrom (s.heap.objs.size+1) fd.scope.names []).map (·.1)).Nodup:=cells_names fd.scope.names 0 (s.heap.objs.size+1) [] [] rfl▸D.cells
 refine codeAny_call_cells hroom (S.base _ _ ho) hod (F.nolim.keeps S.base) (D.code.keeps S.base) D.body hbind D.clo (fun x hx=>?_) (fun s₁ I=>?_) D.co D.gen D.kind
 ·have hm:x.1∈params.map Str.ofString:=(List.of_mem_zip hx).1
  rcases D.kinds x.1 hm with q|q
  ·exact .inl q
  ·refine .inr ⟨q,?_⟩
   obtain ⟨c,hc⟩:=cells_in (k:=s.heap.objs.size+1) (acc:=[]) (mem_of_lookup q)
   rw [lookup_nodup hcs hc];rfl
 ·generalize hE:callEnvC fd s.heap.objs.size a=env at I ⊢
  have hEs:env.scope=fd.scope:=by rw [←hE];rfl
  have hEL:env.locals=s.heap.objs.size:=by rw [←hE];rfl
  have hEf:env.frame=some env.locals:=by rw [←hE];rfl
  have hEc:env.cells=cellsFrom (s.heap.objs.size+1) fd.scope.names []:=by rw [←hE];rfl
  have hEg:env.globals=mainGlobals:=by rw [←hE];exact D.glob
  have hEb:env.builtins=builtinsNs:=by rw [←hE];exact D.blt
  have hEk:∀ x,env.kindOf x=fd.scope.names.lookup x:=by intro x;rw [←hE];rfl
  obtain ⟨IC,Icell,Iapart,Iabove⟩:=I
  obtain ⟨h₁,tk,hs₁⟩:=IC.same
  let m:Sto:=fun x=>if env.kindOf (Str.ofString x)=some .local then Sto.ofArgs params mvs x else none
  let Ψ₁:Psi:=Ψ.call env.locals m env.cells (argAt params mvs)
  have hold:∀ b k,Ψ b=some k→Ψ₁ b=some k:=fun b k e=>by
   obtain ⟨o',ho',_⟩:=S.typed b k e
   exact (Psi.call_old (lo:=s.heap.objs.size) (Nat.le_of_eq hEL.symm) Iabove (Heap.lt_size ho')).trans e
  have hfix:Fix Ψ Ψ₁:=fun b k e _=>hold b k e
  have hnew:∀ b k,Ψ₁ b=some k→Ψ b=none→W.h₀.get? b=none:=fun b k e hb=>by
   have big:s.heap.objs.size≤b:=by
    rcases Psi.call_cases e with ⟨q,_⟩|⟨n',hm,_⟩|⟨q,_⟩
    ·rw [q,hEL];exact Nat.le_refl _
    ·exact Nat.le_of_lt (Nat.lt_of_le_of_lt (Nat.le_of_eq hEL.symm) (Iabove n' b hm))
    ·rw [hb] at q;cases q
   cases q:W.h₀.get? b with
   |none=>rfl
   |some o'=>exact absurd (Heap.lt_size (S.base b o' q)) (Nat.not_lt.mpr big)
  have hkeep:Keep none_ Ψ Ψ₁:=⟨hfix,fun b k e _ _=>hold b k e,fun b k e=>⟨k,hold b _ e⟩,fun b k e=>⟨k,hold b _ e⟩⟩
  have S₁:St W (env::fs) Ψ₁ H s₁:=by
   refine ⟨fun b k e=>?_,fun b k e hk=>?_,fun b x e=>(S.heap b x e).keepN hold,fun b o' e=>IC.keep b o' (S.base b o' e),fun e' he=>?_,?_,?_,fun b es e=>?_⟩
   ·rcases Psi.call_cases e with ⟨rfl,rfl⟩|⟨n',hm,rfl⟩|⟨q,_⟩
    ·obtain ⟨oL,es,ep,hoL,hdL,hkL,hfL⟩:=IC.ns
     refine ⟨oL,hoL,es,ep,hdL,hkL,fun x v hx=>?_⟩
     have hx':(if env.kindOf (Str.ofString x)=some .local then Sto.ofArgs params mvs x else none)=some v:=hx
     split at hx'
     ·rename_i hl
      rw [sto_args] at hx'
      obtain ⟨w,h1,h2⟩:=bind_local (m:=fun _=>none) hl D.nodup hv hx'
      exact ⟨w,(hfL _).trans h1,h2.mono hfix⟩
     ·cases hx'
    ·have hlk:env.cells.lookup n'=some b:=by rw [hEc] at hm ⊢;exact lookup_nodup hcs hm
     obtain ⟨oc,hoc,hdc⟩:=Icell n' b hlk
     refine ⟨oc,hoc,⟨_,hdc⟩,fun mv hmv=>?_⟩
     have hkc:env.kindOf n'=some .cell:=by
      rw [hEk]
      refine lookup_nodup D.names ?_
      rcases cells_kind (hEc▸hm) with q|q
      ·cases q
      ·exact q
     obtain ⟨w,h1,h2⟩:=bind_cell (kindOf:=env.kindOf) (m:=fun _=>none) (by rw [hkc];decide) D.nodup hv hmv
     exact ⟨w,hdc.trans (by rw [h1]),h2.mono hfix⟩
    ·obtain ⟨o',ho',hr⟩:=S.typed b k q
     exact ⟨o',IC.keep b o' ho',hr.mono hfix⟩
   ·cases q:Ψ b with
    |none=>exact hnew b k e q
    |some k'=>
     have:=hold b k' q
     rw [e] at this
     cases this
     exact S.fresh b k q hk
   ·rcases List.mem_cons.mp he with rfl|he
    ·exact ⟨by rw [hEs,D.kind];decide,e'.locals,m,hEf,Psi.call_L⟩
    ·obtain ⟨p,L,m',q,r⟩:=S.frames e' he
     exact ⟨p,L,m',q,hold _ _ r⟩
   ·rw [hs₁];exact S.gens
   ·rw [hs₁];exact S.os
   ·rcases Psi.call_cases e with ⟨_,q⟩|⟨_,_,q⟩|⟨q,_⟩
    ·cases q
    ·cases q
    ·exact S.dsys b es q
  have R₁:EnvRel Ψ₁ env (Sto.ofArgs params mvs):=by
   refine ⟨by rw [hEs];exact D.kind,hEg,hEb,⟨m,Psi.call_L,fun x v _ hx hv'=>?_⟩,fun x v hx hv'=>?_,fun n' hn'=>?_,Iapart⟩
   ·show (if env.kindOf (Str.ofString x)=some .local then Sto.ofArgs params mvs x else none)=some v
    rw [if_pos hx];exact hv'
   ·rw [sto_args] at hv'
    have hc:fd.scope.names.lookup (Str.ofString x)=some .cell:=by
     rcases D.kinds _ (argAt_mem hv') with q|q
     ·rcases hx with hx|hx<;>(rw [hEk,q] at hx;cases hx)
     ·exact q
    obtain ⟨c,hc'⟩:=cells_in (k:=s.heap.objs.size+1) (acc:=[]) (mem_of_lookup hc)
    refine ⟨c,by rw [hEc];exact lookup_nodup hcs hc',?_⟩
    rw [←hv']
    exact Psi.call_cell Iapart Iabove (hEc▸hc')
   ·rw [hEk] at hn'
    obtain ⟨c,hc'⟩:=cells_in (k:=s.heap.objs.size+1) (acc:=[]) (mem_of_lookup hn')
    exact ⟨c,_,by rw [hEc];exact lookup_nodup hcs hc',Psi.call_cell Iapart Iabove (hEc▸hc')⟩
  have C₁:Cx n hd (A.deeper env) (env::fs) env fd.scope.names:=
   ⟨Around.frames_deeper C.frames,⟨env,fs,rfl,rfl⟩,by rw [hEs],C.hand,by have:=C.depth;show A.depth+1+n≤900;lia,by have:=C.units;show A.units+3+4*n≤9000;lia⟩
  have back:∀ Ψ',Keep (ownOf env) Ψ₁ Ψ'→Keep none_ Ψ Ψ':=fun Ψ' K'=>by
   refine (hkeep.of_none.trans K').drop fun b hb=> .inl ?_
   cases q:Ψ b with
   |none=>rfl
   |some k'=>
    exfalso
    obtain ⟨o',ho',_⟩:=S.typed b k' q
    have lt:=Heap.lt_size ho'
    rcases hb with rfl|⟨n',_,hl⟩
    ·rw [hEL] at lt;exact Nat.lt_irrefl _ lt
    ·have:=Iabove n' b (mem_of_lookup hl)
     rw [hEL] at this
     exact Nat.lt_irrefl _ (Nat.lt_trans lt this)
  refine wpAny_mono (hb C₁ R₁ S₁ h) (fun f s' hf=>?_) fun e s' he=>?_
  ·cases f with
   |next=>
    obtain ⟨Ψ',H',ρ',S',K',_,q⟩:=hf
    exact ⟨Ψ',H',.none,S'.unframe,back _ K',.none,q⟩
   |ret v=>
    obtain ⟨Ψ',H',mv,S',K',_,v',q⟩:=hf
    exact ⟨Ψ',H',mv,S'.unframe,back _ K',v',q⟩
   |_=>exact hf.elim
  ·obtain ⟨ea,c,Ψ',H',ρ',rfl,hfl,S',K',_,q⟩:=he
   refine leaves C₁.frames hfl S' fun s'' hfl' S''=>?_
   exact ⟨ea,c,Ψ',H',rfl,hfl',S''.unframe,back _ K',q⟩
end Mine
end
section
namespace Mine
open PySem
section
variable {W:Amb}{K:PySem.W.Frag}{Δ:CallT}{n:Nat}{nm:Names}
theorem Cx.c {hd:Bool}{A:Around}{fs:List Env}{env:Env}(C:Cx n hd A fs env nm):CxC n hd A fs:=⟨C.frames,C.hand,C.depth,C.units⟩
theorem keeps_text {f:Value}(F:Facts W K)(hk:PySem.W.keepIn K f=true):∀ h,W.h₀.StaysIn h→∃ k,(k=Keeper.frame∨k=Keeper.machine∨k=Keeper.boundFrame)∧PySem.W.Looks W.M h (keeperOf f) k:=
 fun h hs=>PySem.W.keeps_K hk h (F.inn.keeps hs)
noncomputable def defOk (K:PySem.W.Frag)(f:String)(a:Addr):Bool:=(PySem.W.nsIn K mainGlobals (Str.ofString f)==some (some (.ref a)))&&PySem.W.keepIn K (.ref a)
theorem snd_call {f:String}{es:MEs}{xs:List PySem.Expr}{id:Str}{p pos:Pos}{a:Addr}(F:Facts W K)(hx:isGlob nm f id=true)(hd:defOk K f a=true)(hp:allPlain xs=true)(hl:SndL W Δ n nm es xs)(hf:SndF W n (fun hd=>Δ hd f) (.ref a)):
  SndE W Δ n nm (.call f es) (.Call (.Name id p) xs [] pos):=by
 intro hd' A fs env ρ Ψ H s Q X C R S h
 exact wpAny_bind (loadGlob F C R S hx (eq_of_beq (and_of hd).1) (callArgs (keeps_text F (and_of hd).2) hp hl C R S h fun Ψ₁ H₁ s₁ vs mvs S₁ K₁ va z=>wpAny_call (hf C.c S₁ va z)))
noncomputable def methOk (ca:String→Addr)(K:PySem.W.Frag)(m:Str)(a:Addr):Bool:=PySem.W.plainGet K (ca "Train") m&&(PySem.W.findIn K (.ref (ca "Train")) m==some (some (.ref a)))&&(PySem.W.typeIn K (.ref a)==some (.type "function"))&&PySem.W.keepIn K (.ref a)
theorem snd_meth {e:ME}{m:String}{es:MEs}{x:PySem.Expr}{xs:List PySem.Expr}{nf:Str}{apos pos:Pos}{a:Addr}(F:Facts W K)(hf:strEq nf (Str.ofString m)=true)(hm:methOk W.ca K (Str.ofString m) a=true)(hb:notSuper x=true)(hp:allPlain xs=true)(hlen:xs.length<29)
  (hpos:(apos.endLine==pos.line)=true) (he:SndE W Δ n nm e x) (hl:SndL W Δ n nm es xs) (hc:SndF W n (fun hd=>Δ hd m) (.ref a)):SndE W Δ n nm (.meth e m es) (.Call (.Attribute x nf apos) xs [] pos):=by
 intro hd A fs env ρ Ψ H s Q X C R S h
 obtain rfl:=strEq_eq hf
 refine methCall hb hp hlen hpos (monoE (he C R S h) fun Ψ₁ H₁ mv v s₁ S₁ K₁ va h₁ pl=>?_)
 obtain ⟨b,l,rfl,hl',hno,h₁⟩:=h₁
 obtain rfl:=vref va
 obtain ⟨hm,m4⟩:=and_of hm
 obtain ⟨hm,m3⟩:=and_of hm
 obtain ⟨m1,m2⟩:=and_of hm
 obtain ⟨ox,d,od,ents,k,e1,e2,I,hdx,hod,hex,hk,hs,hsz,hn,_⟩:=S₁.inst hl'
 refine PySem.W.method_fn (F.at S₁) I (PySem.W.plainGet_of m1).1 (PySem.W.plainGet_of m1).2 (eq_of_beq m2) (eq_of_beq m3) ?_ ?_
 ·show (PySem.W.lookIn (Str.ofString m) od).map _=_
  rw [look_own hs hk,hn _ hno];rfl
 ·exact lift K₁ (callArgs (first:=[.ref b]) (keeps_text F m4) hp hl C (R.keep K₁) S₁ h₁ fun Ψ₂ H₂ s₂ vs mvs S₂ K₂ va₂ z=>wpAny_call (hc C.c S₂ (vs:=.ref b::vs) (.cons .ref va₂) z))
theorem St.newInst {fs:List Env}{Ψ:Psi}{H:MH}{s:Shared}(S:St W fs Ψ H s):
  ∃ Ψ',St W fs Ψ' (H.set (s.heap.objs.size+1) (.inst [])) {s with heap:=(s.heap.push PySem.W.emptyDict).push (PySem.W.instObj (W.ca "Train") s.heap.objs.size)}∧Keep none_ Ψ Ψ'∧H (s.heap.objs.size+1)=none:=by
 have S1:=S.push (s':={s with heap:=s.heap.push PySem.W.emptyDict}) (k:=.idict (s.heap.objs.size+1) []) (o:=PySem.W.emptyDict) rfl
  ⟨⟨rfl,rfl,rfl⟩,#[],0,rfl,⟨fun _ he=>by simp at he,Nat.le_refl _⟩,fun x _=>rfl,fun x mv h=>Option.noConfusion rfl (heq_of_eq h)⟩ rfl rfl rfl
 have e:({s with heap:=s.heap.push PySem.W.emptyDict}:Shared).heap.objs.size=s.heap.objs.size+1:=Heap.size_push ..
 have S2:=S1.push (s':={s with heap:=(s.heap.push PySem.W.emptyDict).push (PySem.W.instObj (W.ca "Train") s.heap.objs.size)}) (k:=.inst s.heap.objs.size) (o:=PySem.W.instObj (W.ca "Train") s.heap.objs.size) rfl
  ⟨rfl,rfl,rfl⟩ rfl rfl rfl
 rw [e] at S2
 have hn:=S1.free_at
 rw [e] at hn
 have K2:=S1.pushKeep (.inst s.heap.objs.size)
 rw [e] at K2
 refine ⟨_,S2.shown ⟨s.heap.objs.size,Psi.set_self _ _ _,?_⟩,(S.pushKeep _).trans K2,hn⟩
 rw [Psi.set_ne _ _ (Nat.ne_of_lt (Nat.lt_succ_self _)),Psi.set_self]
noncomputable def mkOk (ca:String→Addr)(K:PySem.W.Frag)(a:Addr):Bool:=(PySem.W.nsIn K mainGlobals (Str.ofString "Train")==some (some (.ref (ca "Train"))))&&PySem.W.keepIn K (.ref (ca "Train"))&&PySem.W.makesIn K (ca "Train")&&
 (PySem.W.findIn K (.ref (ca "Train")) "__init__"==some (some (.ref a)))&&(PySem.W.typeIn K (.ref a)==some (.type "function"))
theorem snd_mk {es:MEs}{xs:List PySem.Expr}{id:Str}{p pos:Pos}{a:Addr}(F:Facts W K)(hx:isGlob nm "Train" id=true)(hm:mkOk W.ca K a=true)(hp:allPlain xs=true)(hl:SndL W Δ (n+1) nm es xs)(hf:SndF W n (fun hd=>Δ hd "__init__") (.ref a)):
  SndE W Δ (n+1) nm (.mk es) (.Call (.Name id p) xs [] pos):=by
 intro hd' A fs env ρ Ψ H s Q X C R S h
 obtain ⟨hm,m5⟩:=and_of hm
 obtain ⟨hm,m4⟩:=and_of hm
 obtain ⟨hm,m3⟩:=and_of hm
 obtain ⟨m1,m2⟩:=and_of hm
 refine wpAny_bind (loadGlob F C R S hx (eq_of_beq m1) (callArgs (keeps_text F m2) hp hl C R S h fun Ψ₁ H₁ s₁ vs mvs S₁ K₁ va z=>?_))
 obtain ⟨Ψ₂,S₂,K₂,hn⟩:=S₁.newInst
 have hY:=F.at S₁
 obtain ⟨h1,g1,d1,t1,os1⟩:=s₁
 refine wpAny_call (PySem.W.make_core (PySem.W.makes_of hY m3) (PySem.W.looks_findIn hY (eq_of_beq m4)) (fun self=>PySem.W.bind_fn hY self (eq_of_beq m5)) (.inl rfl) ?_)
 have CC:CxC n hd' (A.under (.builtin "type.__call__" ⟨.ref (W.ca "Train")::vs,[]⟩)) fs:=
  ⟨C.frames,C.hand,by have:=C.depth;show A.depth+1+n≤900;lia,by have:=C.units;show A.units+1+4*n≤9000;lia⟩
 refine codeAny_mono (hf CC S₂ (vs:=.ref (h1.objs.size+1)::vs) (.cons .ref (va.mono fun _ _=>VRel.mono K₂.fix)) (z _ hn)) fun r s' q=>?_
 cases r with
 |error e=>exact PostX.from K₂ q
 |ok f=>
  cases f with
  |ret v=>
   obtain ⟨Ψ',H',mv,S',K',v',rfl,q⟩:=q
   obtain rfl:=vnone v'
   exact ⟨rfl,Ψ',H',.ref (h1.objs.size+1),S',K₂.trans K',.ref,q⟩
  |_=>exact q.elim
end
end Mine
end
section
namespace Mine
open PySem
section
variable {W:Amb}{K:PySem.W.Frag}{Δ:CallT}{n:Nat}{nm:Names}{fs:List Env}{Ψ:Psi}{H:MH}{s:Shared}{A:Around}{E:Value→Shared→Prop}
noncomputable def slotLike:HK→Bool
 | .ns _| .cell _| .raw _| .hid _=>true
 |_=>false
theorem slot_sort {k k':HK}(h:slotLike k=true)(h':k'.sort=0∨k'.sort=5):k.sort≠k'.sort:=by
 have:k.sort≠0∧k.sort≠5:=by cases k<;>first|exact absurd h Bool.noConfusion|exact ⟨Nat.succ_ne_zero _,fun q=>by cases q⟩
 rcases h' with h'|h'<;>rw [h']
 ·exact this.1
 ·exact this.2
theorem heap_slot (S:St W fs Ψ H s){a:Addr}{k₀ k:HK}(e:Ψ a=some k₀)(hs:slotLike k₀=true):∀ b x,H b=some x→HRel (Ψ.set a k) b x:=
 fun b x hb=>(S.heap b x hb).keepS fun c k' e' q=>Psi.set_sort e e' (slot_sort hs q)
noncomputable def storeKind:Option NameKind→Bool
 |some .local|some .cell=>true
 |_=>false
noncomputable def isTarget (nm:Names)(x:String)(id:Str):Bool:=strEq id (Str.ofString x)&&storeKind (nm.lookup id)
noncomputable def slotOf (env:Env)(id:Str)(a:Addr):Prop:=(env.kindOf id=some .local∧a=env.locals)∨(env.kindOf id=some .cell∧env.cells.lookup id=some a)
theorem slot_own {env:Env}{id:Str}{a:Addr}(h:slotOf env id a):ownOf env a:=by
 rcases h with ⟨_,h⟩|⟨h1,h2⟩
 ·exact .inl h
 ·exact .inr ⟨id,h1,h2⟩
theorem storeVar {env:Env}{ρ:Sto}{x:String}{id:Str}{v:Value}{mv:MV}{QQ:Unit→Shared→Prop}(hnm:env.scope.names=nm)(R:EnvRel Ψ env ρ)(S:St W fs Ψ H s)(hx:isTarget nm x id=true)(hv:VRel Ψ v mv)
  (h:∀ Ψ' s',St W fs Ψ' H s'→Keep (slotOf env id) Ψ Ψ'→EnvRel Ψ' env (ρ.set x mv)→QQ () s'):wpAny W.M A (storeName env id v) QQ E s:=by
 simp only [isTarget,Bool.and_eq_true] at hx
 obtain ⟨h1,h2⟩:=hx
 obtain rfl:=strEq_eq h1
 rw [←hnm] at h2
 obtain ⟨m,hL,hm⟩:=R.loc
 unfold storeKind at h2
 split at h2
 ·rename_i hk
  have hk:env.kindOf (Str.ofString x)=some .local:=hk
  obtain ⟨o,ho,ents,k,hd,hs,hf⟩:=S.typed _ _ hL
  refine wpAny_storeName_local hk (m:=nsFind ents) ⟨o,ents,k,ho,hd,hs,fun _=>rfl⟩ (fun h' hn hsb=>?_) (by rw [R.kind];rfl)
  obtain ⟨o',ents',k',ho',hd',hs',hf'⟩:=hn
  have F:Fix Ψ (Ψ.set env.locals (.ns (m.set x mv))):=.set_turn _ hL rfl
  refine h (Ψ.set env.locals (.ns (m.set x mv))) _ (S.turned (s':={s with heap:=h',toks:=s.toks+1}) (k:=.ns (m.set x mv)) hL rfl (fun m' q=>⟨_,rfl⟩) ⟨ents',k',hd',hs',fun y w hy=>?_⟩ hsb ho' (heap_slot S hL rfl) rfl rfl fun _ q=>HK.noConfusion q)
   (Keep.set_own hL rfl (.inl ⟨hk,rfl⟩) (fun _ _=>⟨_,rfl⟩) (fun _ q=>by cases q)) ?_
  ·unfold Sto.set at hy
   split at hy
   ·rename_i q;subst q;cases hy
    exact ⟨v,(hf' _).trans (if_pos rfl),hv.mono F⟩
   ·rename_i q
    obtain ⟨w',e1,e2⟩:=hf y w hy
    exact ⟨w',(hf' _).trans ((if_neg fun z=>q (ofString_inj z)).trans e1),e2.mono F⟩
  ·refine ⟨R.kind,R.glob,R.blt,⟨m.set x mv,Psi.set_self _ _ _,fun y w h0 hy hw=>?_⟩,fun y w hy hw=>?_,fun n' hn'=>?_,R.apart⟩
   ·unfold Sto.set at hw ⊢
    split at hw
    ·rename_i q;rw [if_pos q];exact hw
    ·rename_i q;rw [if_neg q];exact hm y w h0 hy hw
   ·unfold Sto.set at hw
    split at hw
    ·rename_i q;subst q;rcases hy with hy|hy<;>(rw [hk] at hy;cases hy)
    ·obtain ⟨c,e1,e2⟩:=R.val y w hy hw
     exact ⟨c,e1,(Psi.set_ne _ _ fun q=>by subst q;rw [hL] at e2;cases e2).trans e2⟩
   ·obtain ⟨c,w,e1,e2⟩:=R.cel n' hn'
    exact ⟨c,w,e1,(Psi.set_ne _ _ fun q=>by subst q;rw [hL] at e2;cases e2).trans e2⟩
 ·rename_i hk
  have hk:env.kindOf (Str.ofString x)=some .cell:=hk
  obtain ⟨c,w,hc,hcw⟩:=R.cel _ hk
  obtain ⟨o,ho,⟨v0,hd⟩,_⟩:=S.typed _ _ hcw
  refine wpAny_storeName_cell R.kind hk hc ⟨o,ho,hd⟩ fun h' hn hsb=>?_
  obtain ⟨o',ho',hd'⟩:=hn
  have F:Fix Ψ (Ψ.set c (.cell (some mv))):=.set_turn _ hcw rfl
  refine h (Ψ.set c (.cell (some mv))) _ (S.turned (s':={s with heap:=h'}) (k:=.cell (some mv)) hcw rfl (fun m' q=>by cases q) ⟨⟨_,hd'⟩,fun mv' q=>by cases q;exact ⟨v,hd',hv.mono F⟩⟩ hsb ho' (heap_slot S hcw rfl) rfl rfl fun _ q=>HK.noConfusion q)
   (Keep.set_own hcw rfl (.inr ⟨hk,hc⟩) (fun _ q=>by cases q) (fun _ _=>⟨_,rfl⟩)) ?_
  refine ⟨R.kind,R.glob,R.blt,⟨m,(Psi.set_ne _ _ fun q=>by rw [q,hcw] at hL;cases hL).trans hL,fun y w h0 hy hw=>?_⟩,fun y w hy hw=>?_,fun n' hn'=>?_,R.apart⟩
  ·unfold Sto.set at hw
   split at hw
   ·rename_i q;subst q;rw [hk] at hy;cases hy
   ·exact hm y w h0 hy hw
  ·unfold Sto.set at hw
   split at hw
   ·rename_i q;subst q;cases hw;exact ⟨c,hc,Psi.set_self _ _ _⟩
   ·rename_i q
    obtain ⟨c',e1,e2⟩:=R.val y w hy hw
    refine ⟨c',e1,(Psi.set_ne _ _ fun z=>?_).trans e2⟩
    subst z
    exact q (ofString_inj (name_of_addr R.apart (mem_of_lookup e1) (mem_of_lookup hc)))
  ·obtain ⟨c',w',e1,e2⟩:=R.cel n' hn'
   by_cases q:c'=c
   ·subst q;exact ⟨c',_,e1,Psi.set_self _ _ _⟩
   ·exact ⟨c',w',e1,(Psi.set_ne _ _ q).trans e2⟩
 ·cases h2
theorem op_iterSelf {sv:Value}{src:MV}{it:Addr}{i:Nat}(S:St W fs Ψ H s)(hi:ItAt Ψ sv src it i){QQ:Value→Shared→Prop}(h:QQ (.ref it) s):wpAny W.M A (pyIter (.ref it)) QQ E s:=by
 obtain ⟨o,ho,hm⟩:=hi
 obtain ⟨o',hg,hraw⟩:=S.typed _ _ ho
 obtain rfl:o'=o:=hraw
 cases src<;>try exact hm.elim
 ·obtain ⟨t,h1,h2⟩:=hm
  unfold strIterType at h1
  split at h1
  ·exact wpAny_pyIter_striter_ascii ⟨_,hg,h1,h2⟩ h
  ·exact wpAny_pyIter_striter_wide ⟨_,hg,h1,h2⟩ h
 ·exact wpAny_pyIter_listiter ⟨_,hg,hm.1,hm.2⟩ h
 ·obtain ⟨a,_,h1,h2⟩:=hm
  exact wpAny_pyIter_tupleiter ⟨_,hg,h1,h2⟩ h
 ·have hm':o'=_:=hm
  subst hm'
  exact wpAny_pyIter_rangeiter hg h
noncomputable def clos (cells:List (Str×Addr)):List (Str×NameKind)→List (Str×Addr)→List (Str×Addr)
 | [],acc=>acc
 |(n,k)::r,acc=>if k==.free then clos cells r ((n,(cells.lookup n).getD 0)::acc) else clos cells r acc
theorem closure_eq {scope:Scope}{env:Env}(h:∀ n,(n,NameKind.free)∈scope.names→(env.cells.lookup n).isSome=true):closureFor scope env=pure (clos env.cells scope.names []):=by
 unfold closureFor
 suffices ∀(names:List (Str×NameKind)) (acc:List (Str×Addr)),(∀ n,(n,NameKind.free)∈names→(env.cells.lookup n).isSome=true)→
   (forIn names acc fun (x:Str×NameKind) (r:List (Str×Addr))=>if (x.2==NameKind.free)=true then do let y←cellOf env x.1;pure (ForInStep.yield ((x.1,y)::r)) else pure (ForInStep.yield r):Sem _)=pure (clos env.cells names acc) by
  have:=this scope.names [] h
  exact (congrArg (fun (t:Sem (List (Str×Addr)))=>t>>=pure) this).trans rfl
 intro names
 induction names with
 |nil=>intro acc _;rfl
 |cons x r ih=>
  obtain ⟨n',k⟩:=x
  intro acc hh
  rw [List.forIn_cons]
  unfold clos
  cases q:k==NameKind.free with
  |true=>
   obtain rfl:k=.free:=by cases k<;>first|rfl|cases q
   obtain ⟨c,hc⟩:=Option.isSome_iff_exists.mp (hh n' List.mem_cons_self)
   simp only [beq_self_eq_true,if_true]
   unfold cellOf
   rw [hc]
   exact ih _ fun n hn=>hh n (List.mem_cons_of_mem _ hn)
  |false=>
   simp only [q,Bool.false_eq_true,if_false]
   exact ih _ fun n hn=>hh n (List.mem_cons_of_mem _ hn)
end
end Mine
end
section
namespace Mine
open PySem
section
variable {W:Amb}{fs:List Env}{Ψ Ψ₁:Psi}{H:MH}{s s₁:Shared}
theorem St.grow (S:St W fs Ψ H s)(hold:∀ b k,Ψ b=some k→Ψ₁ b=some k)(hk:∀ b o,s.heap.get? b=some o→s₁.heap.get? b=some o)
  (hnew:∀ b k,Ψ₁ b=some k→Ψ b=none→s.heap.objs.size≤b∧(∀ es,k≠ .dct es)∧∃ o,s₁.heap.get? b=some o∧W.O Ψ₁ o k) (hg:s₁.gens=s.gens) (ho:s₁.os=s.os):St W fs Ψ₁ H s₁∧Keep none_ Ψ Ψ₁:=by
 have hfix:Fix Ψ Ψ₁:=fun b k e _=>hold b k e
 refine ⟨⟨fun b k e=>?_,fun b k e hx=>?_,fun b x e=>(S.heap b x e).keepN hold,fun b o e=>hk b o (S.base b o e),fun e' he=>?_,hg.trans S.gens,ho.trans S.os,fun b es e=>?_⟩,hfix,fun b k e _ _=>hold b k e,fun b k e=>⟨k,hold b _ e⟩,fun b k e=>⟨k,hold b _ e⟩⟩
 ·cases q:Ψ b with
  |none=>exact (hnew b k e q).2.2
  |some k'=>
   have:=hold b k' q
   rw [e] at this;cases this
   obtain ⟨o,h1,h2⟩:=S.typed b k q
   exact ⟨o,hk b o h1,h2.mono hfix⟩
 ·cases q:Ψ b with
  |none=>
   have big:=(hnew b k e q).1
   cases z:W.h₀.get? b with
   |none=>rfl
   |some o'=>exact absurd (Heap.lt_size (S.base b o' z)) (Nat.not_lt.mpr big)
  |some k'=>
   have:=hold b k' q
   rw [e] at this;cases this
   exact S.fresh b k q hx
 ·obtain ⟨p,L,m',q,r⟩:=S.frames e' he
  exact ⟨p,L,m',q,hold _ _ r⟩
 ·cases q:Ψ b with
  |none=>exact absurd rfl ((hnew b _ e q).2.1 es)
  |some k'=>
   have:=hold b k' q
   rw [e] at this;cases this
   exact S.dsys b es q
end
noncomputable def relab (nm:Names)(n:Str)(k:NameKind):NameKind:=if k==.free&&nm.lookup n==some .cell then .cell else k
noncomputable def relabN (nm:Names)(names:List (Str×NameKind)):Names:=names.map fun p=>(p.1,relab nm p.1 p.2)
theorem lookup_relab (nm:Names)(n:Str):∀ names:List (Str×NameKind),(relabN nm names).lookup n=(names.lookup n).map (relab nm n)
 | []=>rfl
 |(m,k)::r=>by
  have ih:=lookup_relab nm n r
  unfold relabN at ih ⊢
  simp only [List.map_cons,List.lookup_cons]
  cases q:n==m with
  |true=>obtain rfl:=beq_iff_eq.mp q;rfl
  |false=>exact ih
theorem relabel_names {scope:Scope}{env:Env}(h:env.scope.kind=.function):(relabel scope env).names=relabN env.scope.names scope.names:=by
 unfold relabel relabN
 dsimp only
 refine List.map_congr_left fun p _=>?_
 obtain ⟨n,k⟩:=p
 unfold relab Env.kindOf
 rw [h]
 simp only [beq_self_eq_true,Bool.and_true]
 split<;>rfl
noncomputable def compOk (nm:Names)(x:String)(scope:Scope):Bool:=(scope.kind==.function)&&decide ((scope.names.map (·.1)).Nodup)&&storeKind (scope.names.lookup (Str.ofString x))&& !(x==".0")&&
 scope.names.all fun p=>match p.2 with
  | .local=>strEq p.1 (Str.ofString x)||strEq p.1 (Str.ofString ".0")
  | .cell=>strEq p.1 (Str.ofString x)
  | .free=>nm.lookup p.1==some .cell
  | .globalImplicit=>true
  |_=>false
theorem cells_append:∀(names:List (Str×NameKind)) (k:Nat) (acc:List (Str×Addr)),cellsFrom k names acc=cellsFrom k names []++acc
 | [],_,_=>rfl
 |(n,kd)::r,k,acc=>by
  unfold cellsFrom
  split
  ·rw [cells_append r _ ((n,k)::acc),cells_append r _ [(n,k)]];simp
  ·exact cells_append r _ acc
theorem lookup_append {α:Type}(n:Str):∀(a b:List (Str×α)),(a++b).lookup n=(a.lookup n).or (b.lookup n)
 | [],_=>rfl
 |(m,v)::a,b=>by
  simp only [List.cons_append,List.lookup_cons]
  cases n==m with
  |true=>rfl
  |false=>exact lookup_append n a b
theorem lookup_none {α:Type}{n:Str}:∀{l:List (Str×α)},(∀ c,(n,c)∉ l)→l.lookup n=none
 | [],_=>rfl
 |(m,v)::r,h=>by
  rw [List.lookup_cons]
  cases q:n==m with
  |true=>obtain rfl:=beq_iff_eq.mp q;exact absurd List.mem_cons_self (h v)
  |false=>exact lookup_none fun c hc=>h c (List.mem_cons_of_mem _ hc)
theorem clos_lookup (cells:List (Str×Addr))(n:Str):∀(names:List (Str×NameKind)) (acc:List (Str×Addr)),((n,NameKind.free)∈names∨acc.lookup n=some ((cells.lookup n).getD 0))→(clos cells names acc).lookup n=some ((cells.lookup n).getD 0)
 | [],acc,h=>by
  rcases h with h|h
  ·cases h
  ·exact h
 |(m,k)::r,acc,h=>by
  unfold clos
  split
  ·rename_i q
   refine clos_lookup cells n r _ ?_
   cases z:n==m with
   |true=>obtain rfl:=beq_iff_eq.mp z;right;rw [List.lookup_cons,z]
   |false=>
    rcases h with h|h
    ·rcases List.mem_cons.mp h with e|h
     ·cases e;rw [beq_self_eq_true] at z;cases z
     ·exact .inl h
    ·right;rw [List.lookup_cons,z];exact h
  ·rename_i q
   refine clos_lookup cells n r _ ?_
   rcases h with h|h
   ·rcases List.mem_cons.mp h with e|h
    ·cases e;exact absurd rfl q
    ·exact .inl h
   ·exact .inr h
theorem clos_mem (cells:List (Str×Addr)):∀(names:List (Str×NameKind)) (acc:List (Str×Addr)) (p:Str×Addr),p∈clos cells names acc→p∈acc∨((p.1,NameKind.free)∈names∧p.2=(cells.lookup p.1).getD 0)
 | [],_,_,h=> .inl h
 |(m,k)::r,acc,p,h=>by
  unfold clos at h
  split at h
  ·rename_i q
   obtain rfl:k=.free:=by cases k<;>first|rfl|cases q
   rcases clos_mem cells r _ p h with h|h
   ·rcases List.mem_cons.mp h with e|h
    ·subst e;exact .inr ⟨List.mem_cons_self,rfl⟩
    ·exact .inl h
   ·exact .inr ⟨List.mem_cons_of_mem _ h.1,h.2⟩
  ·rcases clos_mem cells r _ p h with h|h
   ·exact .inl h
   ·exact .inr ⟨List.mem_cons_of_mem _ h.1,h.2⟩
theorem clos_nodup (cells:List (Str×Addr)):∀(names:List (Str×NameKind)) (acc:List (Str×Addr)),(names.map (·.1)).Nodup→(acc.map (·.1)).Nodup→(∀ n∈names.map (·.1),n ∉ acc.map (·.1))→((clos cells names acc).map (·.1)).Nodup
 | [],_,_,h,_=>h
 |(m,k)::r,acc,hn,ha,hd=>by
  simp only [List.map_cons,List.nodup_cons] at hn
  unfold clos
  split
  ·refine clos_nodup cells r _ hn.2 ?_ ?_
   ·simp only [List.map_cons,List.nodup_cons];exact ⟨hd m (by simp),ha⟩
   ·intro n hm
    simp only [List.map_cons,List.mem_cons,not_or]
    exact ⟨fun q=>hn.1 (q▸hm),hd n (by simp only [List.map_cons,List.mem_cons];exact .inr hm)⟩
  ·exact clos_nodup cells r _ hn.2 ha fun n hm=>hd n (by simp only [List.map_cons,List.mem_cons];exact .inr hm)
noncomputable def compEnv (scope:Scope)(C:Addr)(env:Env):Env:=
 {scope:=relabel scope env,locals:=C,globals:=env.globals,cells:=cellsFrom (C+1) scope.names (clos env.cells scope.names []),qual:=env.qual,func:=none,code:=env.code,frame:=env.frame,builtins:=env.builtins}
theorem newCompEnv {M:Model}{A:Around}{E:Value→Shared→Prop}{s:Shared}{scope:Scope}{cl:List (Str×Addr)}{env:Env}{Q:Env→Shared→Prop}
  (h:Q {scope:=scope,locals:=s.heap.objs.size,globals:=env.globals,cells:=cellsFrom (s.heap.objs.size+1) scope.names cl,qual:=env.qual,func:=none,code:=env.code,frame:=env.frame,builtins:=env.builtins}
   {s with heap:=pushCells (s.heap.push {cls:=.type "dict",data:=.dict #[]}) scope.names}):
  wpAny M A (newFunctionEnv scope env.globals cl [] env.qual none .none (some env)) Q E s:=by
 simp only [newFunctionEnv,Option.isSome_some,if_true]
 refine wpAny_bind (wpAny_alloc ?_)
 refine wpAny_bind (wpAny_layCells _ (fun name kind cells=>by cases kind==NameKind.cell<;>simp) _ _ _ _ ?_)
 rw [show ({s with heap:=s.heap.push {cls:=.type "dict",data:=.dict #[]}}:Shared).heap.objs.size=s.heap.objs.size+1 from Heap.size_push ..]
 exact wpAny_bind (wpAny_pure (wpAny_pure h))
theorem sto_del_set (ρ:Sto)(x:String)(v:MV):(ρ.del x).set x v=ρ.set x v:=by
 funext y;unfold Sto.set Sto.del
 by_cases q:y=x<;>simp [q]
theorem sto_set_set (ρ:Sto)(x:String)(u v:MV):(ρ.set x u).set x v=ρ.set x v:=by
 funext y;unfold Sto.set
 by_cases q:y=x<;>simp [q]
theorem compPlace {W:Amb}{fs:List Env}{Ψ:Psi}{H:MH}{s:Shared}{env:Env}{ρ:Sto}{x:String}{scope:Scope}(R:EnvRel Ψ env ρ)(S:St W fs Ψ H s)(hok:compOk env.scope.names x scope=true):
  (∀ n,(n,NameKind.free)∈scope.names→(env.cells.lookup n).isSome=true)∧
  ∃ Ψ₁,St W fs Ψ₁ H {s with heap:=pushCells (s.heap.push {cls:=.type "dict",data:=.dict #[]}) scope.names}∧Keep none_ Ψ Ψ₁∧EnvRel Ψ₁ (compEnv scope s.heap.objs.size env) (ρ.del x)∧
   (∀ a,slotOf (compEnv scope s.heap.objs.size env) (Str.ofString x) a→Ψ a=none)∧Ψ s.heap.objs.size=none:=by
 simp only [compOk,Bool.and_eq_true,Bool.not_eq_true',List.all_eq_true,decide_eq_true_eq] at hok
 obtain ⟨⟨⟨⟨hk,hn⟩,hx⟩,hx0⟩,hall⟩:=hok
 have hkf:scope.kind=.function:=by
  cases q:scope.kind<;>first|rfl|(rw [q] at hk;exact absurd hk (by decide))
 have kL:∀ y,(Str.ofString y,NameKind.local)∈scope.names→y≠".0"→y=x:=fun y hy h0=>by
  have:=hall _ hy
  simp only [Bool.or_eq_true] at this
  rcases this with q|q
  ·exact ofString_inj (strEq_eq q)
  ·exact absurd (ofString_inj (strEq_eq q)) h0
 have kC:∀ n,(n,NameKind.cell)∈scope.names→n=Str.ofString x:=fun n hm=>strEq_eq (hall _ hm)
 have kF:∀ n,(n,NameKind.free)∈scope.names→env.kindOf n=some .cell:=fun n hm=>beq_iff_eq.mp (hall _ hm)
 have hsome:∀ n,(n,NameKind.free)∈scope.names→(env.cells.lookup n).isSome=true:=fun n hm=>by
  obtain ⟨c,w,h1,_⟩:=R.cel n (kF n hm);rw [h1];rfl
 refine ⟨hsome,?_⟩
 have ok:=cellsFrom_ok scope.names (s.heap.push {cls:=.type "dict",data:=.dict #[]}) (s.heap.objs.size+1) [] ⟨fun _ _ hm=>(nomatch hm),List.Pairwise.nil⟩ (by rw [Heap.size_push];exact Nat.le_refl _)
 rw [Heap.size_push] at ok
 obtain ⟨ok1,ok2⟩:=ok
 have above:∀ n c,(n,c)∈cellsFrom (s.heap.objs.size+1) scope.names []→s.heap.objs.size<c:=fun n c hm=>(ok1 n c hm).2
 let Ψ₁:Psi:=Ψ.call s.heap.objs.size (fun _=>none) (cellsFrom (s.heap.objs.size+1) scope.names []) (fun _=>none)
 have hlt:∀ b k,Ψ b=some k→b<s.heap.objs.size:=fun b k e=>by obtain ⟨o',ho',_⟩:=S.typed b k e;exact Heap.lt_size ho'
 have hold:∀ b k,Ψ b=some k→Ψ₁ b=some k:=fun b k e=>(Psi.call_old (Nat.le_refl _) above (hlt b k e)).trans e
 have hkeep:∀ b o,s.heap.get? b=some o→(pushCells (s.heap.push {cls:=.type "dict",data:=.dict #[]}) scope.names).get? b=some o:=fun b o e=>pushCells_keeps _ _ b o (Heap.get?_push_of_some _ e)
 obtain ⟨S₁,K₁⟩:=S.grow (s₁:={s with heap:=pushCells (s.heap.push {cls:=.type "dict",data:=.dict #[]}) scope.names}) hold hkeep (fun b k e hb=>by
  rcases Psi.call_cases e with ⟨rfl,rfl⟩|⟨n',hm,rfl⟩|⟨q,_⟩
  ·refine ⟨Nat.le_refl _,fun _ q=>(by cases q),_,pushCells_keeps _ _ _ _ (Heap.get?_push_size _ rfl),#[],0,rfl,fun _ he=>by simp at he,fun y v hy=>by cases hy⟩
  ·obtain ⟨o,ho,hd⟩:=(ok1 n' b hm).1
   exact ⟨Nat.le_of_lt (above n' b hm),fun _ q=>(by cases q),o,ho,⟨_,hd⟩,fun mv q=>by cases q⟩
  ·rw [hb] at q;cases q) rfl rfl
 have hnm:(compEnv scope s.heap.objs.size env).scope.names=relabN env.scope.names scope.names:=relabel_names R.kind
 have hkd:∀ n,(compEnv scope s.heap.objs.size env).kindOf n=(scope.names.lookup n).map (relab env.scope.names n):=fun n=>by
  unfold Env.kindOf;rw [hnm];exact lookup_relab _ _ _
 have hcells:∀ n,(compEnv scope s.heap.objs.size env).cells.lookup n=((cellsFrom (s.heap.objs.size+1) scope.names []).lookup n).or ((clos env.cells scope.names []).lookup n):=fun n=>by
  show (cellsFrom (s.heap.objs.size+1) scope.names (clos env.cells scope.names [])).lookup n=_
  rw [cells_append];exact lookup_append _ _ _
 have freeCell:∀ n c,scope.names.lookup n=some .free→env.cells.lookup n=some c→(compEnv scope s.heap.objs.size env).cells.lookup n=some c:=fun n c hl hc=>by
  rw [hcells,lookup_none (l:=cellsFrom (s.heap.objs.size+1) scope.names []) (fun c' hm=>?_),clos_lookup env.cells n scope.names [] (.inl (mem_of_lookup hl)),hc]
  ·rfl
  ·rcases cells_kind hm with q|q
   ·cases q
   ·have:=lookup_nodup hn q;rw [hl] at this;cases this
 have ownCell:∀ n,scope.names.lookup n=some .cell→∃ c,(n,c)∈cellsFrom (s.heap.objs.size+1) scope.names []∧(compEnv scope s.heap.objs.size env).cells.lookup n=some c:=fun n hl=>by
  obtain ⟨c,hc⟩:=cells_in (k:=s.heap.objs.size+1) (acc:=[]) (mem_of_lookup hl)
  cases q:(cellsFrom (s.heap.objs.size+1) scope.names []).lookup n with
  |none=>
   exfalso
   have:∀(l:List (Str×Addr)),(n,c)∈l→l.lookup n≠none:=by
    intro l
    induction l with
    |nil=>intro h;cases h
    |cons p r ih=>
     intro h
     obtain ⟨m,v⟩:=p
     rw [List.lookup_cons]
     cases z:n==m with
     |true=>simp
     |false=>
      rcases List.mem_cons.mp h with e|h
      ·cases e;rw [beq_self_eq_true] at z;cases z
      ·exact ih h
   exact this _ hc q
  |some c'=>exact ⟨c',mem_of_lookup q,by rw [hcells,q];rfl⟩
 have kindCases:∀ n,(compEnv scope s.heap.objs.size env).kindOf n=some .cell∨(compEnv scope s.heap.objs.size env).kindOf n=some .free→scope.names.lookup n=some .cell∨scope.names.lookup n=some .free:=fun n h=>by
  rw [hkd] at h
  cases q:scope.names.lookup n with
  |none=>rw [q] at h;rcases h with h|h<;>cases h
  |some k=>
   rw [q] at h
   cases k with
   |cell=>exact .inl rfl
   |free=>exact .inr rfl
   |_=>rcases h with h|h<;>exact absurd h (by simp [relab])
 refine ⟨Ψ₁,S₁,K₁,⟨hkf,R.glob,R.blt,⟨fun _=>none,Psi.call_L,fun y v h0 hy hv=>?_⟩,fun y v hy hv=>?_,fun n hy=>?_,?_⟩,fun a ha=>?_,S.none_at⟩
 ·exfalso
  rw [hkd] at hy
  cases q:scope.names.lookup (Str.ofString y) with
  |none=>rw [q] at hy;cases hy
  |some k=>
   rw [q] at hy
   obtain rfl:k=.local:=by
    cases k with
    |«local»=>rfl
    |free=>simp only [Option.map_some,Option.some.injEq] at hy;unfold relab at hy;split at hy<;>cases hy
    |_=>exact absurd hy (by simp [relab])
   obtain rfl:=kL y (mem_of_lookup q) h0
   unfold Sto.del at hv;rw [if_pos rfl] at hv;cases hv
 ·have hyx:y≠x:=by rintro rfl;unfold Sto.del at hv;rw [if_pos rfl] at hv;cases hv
  have hv':ρ y=some v:=by unfold Sto.del at hv;rw [if_neg hyx] at hv;exact hv
  rcases kindCases _ hy with q|q
  ·exact absurd (ofString_inj (kC _ (mem_of_lookup q))) hyx
  ·obtain ⟨c,h1,h2⟩:=R.val y v (.inl (kF _ (mem_of_lookup q))) hv'
   exact ⟨c,freeCell _ c q h1,hold _ _ h2⟩
 ·rcases kindCases n (.inl hy) with q|q
  ·obtain ⟨c,h1,h2⟩:=ownCell n q
   exact ⟨c,_,h2,Psi.call_cell ok2 above h1⟩
  ·obtain ⟨c,w,h1,h2⟩:=R.cel n (kF n (mem_of_lookup q))
   exact ⟨c,w,freeCell n c q h1,hold _ _ h2⟩
 ·show (cellsFrom (s.heap.objs.size+1) scope.names (clos env.cells scope.names [])).Pairwise _
  rw [cells_append,List.pairwise_append]
  have closIn:∀ p∈clos env.cells scope.names [],p∈env.cells:=fun p hp=>by
   rcases clos_mem _ _ _ _ hp with q|⟨q1,q2⟩
   ·cases q
   ·obtain ⟨c,hc⟩:=Option.isSome_iff_exists.mp (hsome _ q1)
    rw [hc] at q2
    obtain ⟨p1,p2⟩:=p
    dsimp only at q2 hc
    rw [show p2=c from q2]
    exact mem_of_lookup hc
  refine ⟨ok2,?_,fun p hp q hq e=>?_⟩
  ·have nd:=clos_nodup env.cells scope.names [] hn (by simp) (by simp)
   rw [List.nodup_iff_pairwise_ne,List.pairwise_map] at nd
   refine nd.imp_of_mem fun {p q} hp hq hne e=>hne ?_
   obtain ⟨p1,p2⟩:=p;obtain ⟨q1,q2⟩:=q
   dsimp only at e ⊢
   subst e
   exact name_of_addr R.apart (closIn _ hp) (closIn _ hq)
  ·rcases clos_mem _ _ _ _ hq with z|⟨z1,z2⟩
   ·cases z
   ·obtain ⟨c,w,h1,h2⟩:=R.cel q.1 (kF _ z1)
    have lt:=hlt c _ h2
    rw [h1] at z2
    have:q.2=c:=z2
    have ab:=above p.1 p.2 hp
    rw [e,this] at ab
    exact Nat.lt_irrefl _ (Nat.lt_trans lt ab)
 ·cases q:Ψ a with
  |none=>rfl
  |some k=>
   exfalso
   have lt:=hlt a k q
   rcases ha with ⟨_,ha⟩|⟨h1,h2⟩
   ·rw [ha] at lt;exact Nat.lt_irrefl _ lt
   ·have hxk:scope.names.lookup (Str.ofString x)=some .cell:=by
     rcases kindCases _ (.inl h1) with z|z
     ·exact z
     ·rw [z] at hx;cases hx
    obtain ⟨c,e1,e2⟩:=ownCell _ hxk
    rw [h2] at e2
    cases e2
    exact Nat.lt_irrefl _ (Nat.lt_trans lt (above _ _ e1))
end Mine
end
section
namespace Mine
open PySem
section
variable {W:Amb}{K:PySem.W.Frag}{Δ:CallT}{n:Nat}{nm:Names}{fs:List Env}{Ψ Ψ₀:Psi}{H:MH}{s s':Shared}{A:Around}{E:Value→Shared→Prop}
theorem Keep.delNew (x:Keep none_ Ψ₀ Ψ){a:Addr}(h:Ψ₀ a=none):Keep none_ Ψ₀ (Ψ.del a):=
 ⟨fun b k e f=>(Psi.del_ne _ (ne_of_none h e)).trans (x.fix b k e f),fun b k e f g=>(Psi.del_ne _ (ne_of_none h e)).trans (x.slot b k e f g),
  fun b m e=>(x.ns b m e).imp fun _ q=>(Psi.del_ne _ (ne_of_none h e)).trans q,fun b m e=>(x.cell b m e).imp fun _ q=>(Psi.del_ne _ (ne_of_none h e)).trans q⟩
theorem Keep.setNew (x:Keep none_ Ψ₀ Ψ){a:Addr}(k':HK)(h:Ψ₀ a=none):Keep none_ Ψ₀ (Ψ.set a k'):=
 ⟨fun b k e f=>(Psi.set_ne _ _ (ne_of_none h e)).trans (x.fix b k e f),fun b k e f g=>(Psi.set_ne _ _ (ne_of_none h e)).trans (x.slot b k e f g),
  fun b m e=>(x.ns b m e).imp fun _ q=>(Psi.set_ne _ _ (ne_of_none h e)).trans q,fun b m e=>(x.cell b m e).imp fun _ q=>(Psi.set_ne _ _ (ne_of_none h e)).trans q⟩
theorem Keep.newOwn {own:Addr→Prop}{Ψ':Psi}(x:Keep none_ Ψ₀ Ψ)(y:Keep own Ψ Ψ')(h:∀ a,own a→Ψ₀ a=none):Keep none_ Ψ₀ Ψ':=
 (x.of_none.trans y).drop fun a ha=> .inl (h a ha)
theorem St.forget (S:St W fs Ψ H s){a:Addr}{k₀:HK}(e₀:Ψ a=some k₀)(hs:slotLike k₀=true)(hf:∀ e∈fs,e.frame≠some a)(hk:Heap.ExtBut a s.heap s'.heap)(hg:s'.gens=s.gens)(ho:s'.os=s.os):St W fs (Ψ.del a) H s':=by
 have h0:=S.fresh a _ e₀ fun _ q=>by subst q;exact Bool.noConfusion hs
 have fx:Fix Ψ (Ψ.del a):=fun b k e f=>Psi.del_sort e₀ e (slot_sort hs (.inr (fixed_sort f)))
 refine ⟨fun b k e=>?_,fun b k e hx=>S.fresh b k (Psi.of_del e).2 hx,fun b x e=>(S.heap b x e).keepS fun c k e q=>Psi.del_sort e₀ e (slot_sort hs q),fun b o e=>hk b o (ne_none (f:=W.h₀.get?) h0 e) (S.base b o e),fun e he=>?_,hg.trans S.gens,ho.trans S.os,fun b es e=>S.dsys b es (Psi.of_del e).2⟩
 ·exact (S.typed b k (Psi.of_del e).2).imp fun o z=>⟨hk b o (Psi.of_del e).1 z.1,z.2.mono fx⟩
 ·obtain ⟨p,L,m,q,r⟩:=S.frames e he
  exact ⟨p,L,m,q,(Psi.del_ne _ fun (z:L=a)=>hf e he (z▸q)).trans r⟩
theorem hidAppend {D:Addr}{acc:List MV}{v:Value}{x:MV}{QQ:Value→Shared→Prop}(S:St W fs Ψ H s)(hD:Ψ D=some (.hid acc))(hl:acc.length<bigList)(hv:VRel Ψ v x)
  (h:∀ s',St W fs (Ψ.set D (.hid (acc++ [x]))) H s'→QQ .none s'):wpAny W.M A (call (.builtin "list.append") [.ref D,v]) QQ E s:=by
 obtain ⟨o,h1,items,k,rfl,r,b⟩:=S.typed _ _ hD
 refine call_meets F.slot_list_append ⟨_,h1,rfl⟩ F.entry_list_append (F.args_list_append_2 _ _) (AutoListH.list_append_list_val_0 D items k v (by rw [all2_size r];unfold bigList at hl;unfold sizeLine;lia)) ⟨h1,?_⟩
 obtain ⟨k',ho⟩:∃ k',(s.heap.update D (Obj.mapSeq fun x_1=>x_1.push v)).get? D=some {cls:=.type "list",dict:=none,data:=.seq (items.push v) k',slots:=#[]}:=
  ⟨_,(Heap.get?_update_self _ h1 rfl).trans rfl⟩
 exact h _ (S.turned (s':={s with heap:=s.heap.update D (Obj.mapSeq fun x_1=>x_1.push v)}) (k:=.hid (acc++ [x])) hD rfl (fun m q=>HK.noConfusion q)
  ⟨items.push v,k',rfl,by rw [Array.toList_push];exact (r.append (.cons hv .nil)).mono fun _ _=>VRel.mono (.set_turn _ hD rfl),by rw [List.length_append];exact hl⟩ (Heap.SameBut.update ..) ho (heap_slot S hD rfl) rfl rfl (fun _ q=>HK.noConfusion q))
theorem St.hidShown {D:Addr}{acc:List MV}(S:St W fs Ψ H s)(hD:Ψ D=some (.hid acc)):St W fs (Ψ.set D (.lst acc)) (H.set D (.lst acc)) s:=by
 obtain ⟨o,h1,h2⟩:=S.typed _ _ hD
 exact (S.turned (s':=s) (k:=.lst acc) (H':=H) hD rfl (fun m q=>HK.noConfusion q) (SeqO.mono (.set_turn _ hD rfl) h2) (.refl ..) h1 (heap_slot S hD rfl) rfl rfl (fun _ q=>HK.noConfusion q)).shown (Psi.set_self _ _ _)
theorem HRel.sorted {a:Addr}{o:MObj}(h:HRel Ψ a o):∃ k,Ψ a=Option.some k∧(k.sort=0∨k.sort=5):=by
 cases o with
 |inst fs=>exact h.elim fun d z=>⟨_,z.1,.inl rfl⟩
 |ro vs=>exact ⟨_,h,.inr rfl⟩
 |_=>exact ⟨_,h,.inl rfl⟩
theorem St.hidNone {D:Addr}{acc:List MV}(S:St W fs Ψ H s)(hD:Ψ D=some (.hid acc)):H D=none:=by
 cases q:H D with
 |none=>rfl
 |some o=>
  obtain ⟨k,e,z⟩:=(S.heap D o q).sorted
  obtain rfl:=Option.some.inj (hD.symm.trans e)
  rcases z with z|z<;>exact absurd z (fun w=>by cases w)
theorem ItAt.keep {own:Addr→Prop}{Ψ':Psi}{sv:Value}{src:MV}{it:Addr}{i:Nat}(hi:ItAt Ψ sv src it i)(K:Keep own Ψ Ψ')(h:¬ own it):ItAt Ψ' sv src it i:=hi.imp fun o z=>⟨K.slot _ _ z.1 rfl h,z.2⟩
theorem EnvRel.keepW {own:Addr→Prop}{Ψ':Psi}{env:Env}{ρ:Sto}(R:EnvRel Ψ env ρ)(K:Keep own Ψ Ψ')(h:∀ a k,Ψ a=some k→(k.sort=1∨k.sort=2)→¬ own a):EnvRel Ψ' env ρ:=
 ⟨R.kind,R.glob,R.blt,R.loc.imp fun _ x=>⟨K.slot _ _ x.1 rfl (h _ _ x.1 (.inl rfl)),x.2⟩,fun x v hk hv=>(R.val x v hk hv).imp fun _ y=>⟨y.1,K.slot _ _ y.2 rfl (h _ _ y.2 (.inr rfl))⟩,
  fun n hn=>(R.cel n hn).imp fun _ y=>y.imp fun _ z=>⟨z.1,K.slot _ _ z.2 rfl (h _ _ z.2 (.inr rfl))⟩,R.apart⟩
theorem sort_apart {a b:Addr}{k₀ k:HK}(h:Ψ a=some k₀)(e:Ψ b=some k)(n:k₀.sort≠k.sort):¬ b=a:=ne_of_sort h e n
theorem not12 {k:HK}{m:Nat}(h:k.sort=1∨k.sort=2)(h1:m≠1)(h2:m≠2):m≠k.sort:=by rcases h with h|h<;>rw [h]<;>assumption
theorem slot_kind {env:Env}{ρ:Sto}{id:Str}{a:Addr}(R:EnvRel Ψ env ρ)(h:slotOf env id a):∃ k,Ψ a=some k∧(k.sort=1∨k.sort=2):=by
 rcases h with ⟨_,rfl⟩|⟨h1,h2⟩
 ·exact R.loc.elim fun m h=>⟨_,h.1,.inl rfl⟩
 ·obtain ⟨c,w,e1,e2⟩:=R.cel _ h1
  obtain rfl:=Option.some.inj (h2.symm.trans e1);exact ⟨_,e2,.inr rfl⟩
theorem not_slot {env:Env}{ρ:Sto}{id:Str}{a:Addr}{k:HK}(R:EnvRel Ψ env ρ)(e:Ψ a=some k)(h1:k.sort≠1)(h2:k.sort≠2):¬ slotOf env id a:=fun q=>by
 obtain ⟨k',e',z⟩:=slot_kind R q
 obtain rfl:=Option.some.inj (e.symm.trans e')
 exact z.elim h1 h2
noncomputable def SndIfs (W:Amb)(Δ:CallT)(n:Nat)(nm:Names)(cond:ME)(ifs:List PySem.Expr):Prop:=match ifs with
 | []=>cond=.bool true
 | [c]=>SndT W Δ n nm cond c
 |_=>False
theorem ifs_run {cond:ME}{ifs:List PySem.Expr}(h:SndIfs W Δ n nm cond ifs){hd:Bool}{env:Env}{ρ:Sto}{k:Bool→MH→Prop}{X:String→MH→Prop}(C:Cx n hd A fs env nm)(R:EnvRel Ψ env ρ)(S:St W fs Ψ H s)(z:wE Δ hd cond ρ H (asTruth k) X):
  wpAny W.M A (forIn ifs true fun c r=>if r=true then do let ok←isTrue c env (eval c env);pure (ForInStep.yield ok) else pure (ForInStep.yield r)) (PostB W fs Ψ k) (PostX W fs Ψ X) s:=by
 unfold SndIfs at h
 split at h
 ·subst h
  exact wpAny_tests_nil ⟨Ψ,H,S,.refl _ _,z⟩
 ·exact wpAny_tests_one (h C R S z)
 ·exact h.elim
theorem ne34:(3:Nat)≠4:=by decide
theorem ne14:(1:Nat)≠4:=by decide
theorem ne41:(4:Nat)≠1:=by decide
theorem ne42:(4:Nat)≠2:=by decide
theorem ne43:(4:Nat)≠3:=by decide
inductive CompI (W:Amb)(fs:List Env)(Ψ₀:Psi)(cenv:Env)(ρ:Sto)(x:String)(sv:Value)(src:MV)(vs:List MV)(it D:Addr)(Z:List MV→List MV→MH→Prop)(m:Nat)(s:Shared):Prop
 |mk (Ψ:Psi)(H:MH)(acc:List MV)(i:Nat)(ρ₁:Sto)(hm:m+i=vs.length)(hρ:∀ v,ρ₁.set x v=ρ.set x v)(S:St W fs Ψ H s)(K₀:Keep none_ Ψ₀ Ψ)(hv:VRel Ψ sv src)(hel:Elems H src vs)(hi:ItAt Ψ sv src it i)(hacc:Ψ D=some (.hid acc))(R:EnvRel Ψ cenv ρ₁)(h:Z (vs.drop i) acc H)
theorem comp_loop {elt cond:ME}{x:String}{e' iter:PySem.Expr}{id:Str}{px:Pos}{ifs:List PySem.Expr}{scope:Scope}{pos:Pos}{cenv:Env}{ρ ρ₁:Sto}{sv:Value}{src:MV}{vs:List MV}{it D:Addr}{RR:Result→Shared→Prop}{Q:MV→MH→Prop}
  (hh:A.handled=none) (hc:SndIfs W Δ n nm cond ifs) (he:SndE W Δ n nm elt e') (C:Cx n false A fs cenv nm) (hx:isTarget nm x id=true)
  (hslot:∀ a,slotOf cenv id a→Ψ₀ a=none) (hit:Ψ₀ it=none) (hD:Ψ₀ D=none)
  (hρ:∀ v,ρ₁.set x v=ρ.set x v)
  (hRR:∀ Ψ' H' s',St W fs Ψ' H' s'→Keep none_ Ψ₀ Ψ'→(∃ m,Ψ' cenv.locals=some (.ns m))→D≠cenv.locals→Q (.ref D) H'→RR (.ok .next) s')
  (S:St W fs Ψ H s) (K₀:Keep none_ Ψ₀ Ψ) (hv:VRel Ψ sv src) (hel:Elems H src vs) (hi:ItAt Ψ sv src it 0) (hacc:Ψ D=some (.hid [])) (R:EnvRel Ψ cenv ρ₁)
  (h:compW src vs (fun v H k=>wE Δ false cond (ρ.set x v) H (asTruth k) (fun _ _=>False)) (fun v H k=>wE Δ false elt (ρ.set x v) H k (fun _ _=>False)) Q vs [] H):
  codeAny W.M A (.compLoop (.ListComp e' [⟨.Name id px,iter,ifs,0⟩] scope pos) 0 (.ref it) (.ref D) cenv) RR s:=by
 refine codeAny_compLoop_tests (I:=CompI W fs Ψ₀ cenv ρ x sv src vs it D (compW src vs (fun v H k=>wE Δ false cond (ρ.set x v) H (asTruth k) (fun _ _=>False)) (fun v H k=>wE Δ false elt (ρ.set x v) H k (fun _ _=>False)) Q)) (fun m s hI=>?_) vs.length ⟨Ψ,H,[],0,ρ₁,rfl,hρ,S,K₀,hv,hel,hi,hacc,R,h⟩
 clear S K₀ hv hel hi hacc R h hρ
 obtain ⟨Ψ,H,acc,i,ρ₁,hm,hρ,S,K₀,hv,hel,hi,hacc,R,h⟩:=hI
 have hi0:=hi
 obtain ⟨oi,hraw,_⟩:=hi0
 have notIt:∀{a:Addr} {k:HK},Ψ a=some k→3≠k.sort→¬ a=it:=fun e n=>sort_apart hraw e n
 cases hx':vs[i]? with
 |none=>
  rw [List.drop_eq_nil_of_le (List.getElem?_eq_none_iff.mp hx')] at h
  refine op_done hh S hv hel hi hx' fun Ψ' s' S' K'=>?_
  have kD:Ψ' D=some (.hid acc):=K'.slot D _ hacc rfl (notIt hacc ne34)
  obtain ⟨m',hC,_⟩:=R.loc
  have kC:Ψ' cenv.locals=some (.ns m'):=K'.slot _ _ hC rfl (notIt hC ne31)
  have hne:D≠cenv.locals:=ne_of_sort kC kD ne14
  exact hRR _ _ _ (S'.hidShown kD) ((K₀.newOwn K' fun a q=>q▸hit).setNew _ hD) ⟨m',(Psi.set_ne _ _ hne.symm).trans kC⟩ hne (h D (S'.hidNone kD))
 |some v=>
  have hlt:=(List.getElem?_eq_some_iff.mp hx').1
  rw [List.drop_eq_getElem_cons hlt,(List.getElem?_eq_some_iff.mp hx').2] at h
  obtain ⟨hsz,h⟩:=h
  refine op_next S hv hel hi hx' fun w Ψ' s' S' K' vw hi'=>?_
  have kD:Ψ' D=some (.hid acc):=K'.slot D _ hacc rfl (notIt hacc ne34)
  have R':EnvRel Ψ' cenv ρ₁:=R.keepW K' fun a k e q=>notIt e (not12 q ne31 ne32)
  refine wpAny_assign_Name (storeVar C.names R' S' hx vw fun Ψ₂ s₂ S₂ K₂ R₂=>?_)
  rw [hρ] at R₂
  have kD₂:Ψ₂ D=some (.hid acc):=K₂.slot D _ kD rfl (not_slot R' kD ne41 ne42)
  have hi₂:ItAt Ψ₂ sv src it (i+1):=hi'.keep K₂ (hi'.elim fun o z=>not_slot R' z.1 ne31 ne32)
  have K2:Keep none_ Ψ₀ Ψ₂:=(K₀.newOwn K' fun a q=>q▸hit).newOwn K₂ hslot
  have hlen:vs.length-(i+1)+(i+1)=vs.length:=Nat.sub_add_cancel hlt
  have hdec:vs.length-(i+1)<m:=by lia
  have F2:=K'.fix.trans K₂.fix
  refine wpAny_mono (monoB (ifs_run hc C R₂ S₂ h) fun Ψ₃ H₃ b s₃ S₃ K₃ h₃=>?_) (fun _ _ x=>x) fun e s₃ hx=>by cases hx with|mk _ _ _ _ _ _ _ _ q=>exact q.elim
  cases b with
  |false=>
   exact ⟨vs.length-(i+1),hdec,Ψ₃,H₃,acc,i+1,ρ.set x v,hlen,fun u=>sto_set_set _ _ _ _,S₃,K2.trans K₃,hv.mono (F2.trans K₃.fix),h₃.1,hi₂.keep K₃ (fun q=>q),K₃.slot _ _ kD₂ rfl (fun q=>q),R₂.keep K₃,h₃.2⟩
  |true=>
   refine wpAny_mono (monoE (he C (R₂.keep K₃) S₃ h₃) fun Ψ₄ H₄ my y s₄ S₄ K₄ vy h₄=>?_) (fun _ _ x=>x) fun e s₃ hx=>by cases hx with|mk _ _ _ _ _ _ _ _ q=>exact q.elim
   have kD₄:Ψ₄ D=some (.hid acc):=K₄.slot _ _ (K₃.slot _ _ kD₂ rfl (fun q=>q)) rfl fun q=>q
   refine hidAppend S₄ kD₄ hsz vy fun s₅ S₅=>?_
   have K₅:Keep (· =D) Ψ₄ (Ψ₄.set D (.hid (acc++ [my]))):=.set_own kD₄ rfl rfl (fun _ q=>HK.noConfusion q) (fun _ q=>HK.noConfusion q)
   have hi₄:=(hi₂.keep K₃ (fun q=>q)).keep K₄ (fun q=>q)
   exact ⟨vs.length-(i+1),hdec,_,H₄,acc++ [my],i+1,ρ.set x v,hlen,fun u=>sto_set_set _ _ _ _,S₅,((K2.trans K₃).trans K₄).setNew _ hD,hv.mono (((F2.trans K₃.fix).trans K₄.fix).trans K₅.fix),h₄.1,
    hi₄.keep K₅ (hi₄.elim fun o z=>sort_apart kD₄ z.1 ne43),Psi.set_self _ _ _,((R₂.keep K₃).keep K₄).keepW K₅ fun a k e q=>sort_apart kD₄ e (not12 q ne41 ne42),h₄.2⟩
theorem notSet_folded {iter:PySem.Expr}{env:Env}(h:notSet iter=true)(x:Value):foldedSetIterable iter env x=pure x:=by
 cases iter<;>first|rfl|exact absurd h Bool.noConfusion
theorem comp_names {scope:Scope}{x:String}(hok:compOk nm x scope=true):scope.kind=.function∧(∀ y∈scope.names,y.2=.local→scope.names.lookup y.1=some .local)∧isTarget (relabN nm scope.names) x (Str.ofString x)=true:=by
 obtain ⟨hok,hall⟩:=and_of hok
 obtain ⟨hok,hx0⟩:=and_of hok
 obtain ⟨hok,hx⟩:=and_of hok
 obtain ⟨hk,hn⟩:=and_of hok
 replace hn:=of_decide_eq_true hn
 refine ⟨?_,fun y hy hl=>lookup_nodup hn (by rw [←hl];exact hy),?_⟩
 ·cases q:scope.kind<;>first|rfl|(rw [q] at hk;exact absurd hk (by decide))
 ·unfold isTarget
  rw [lookup_relab,Bool.and_eq_true]
  refine ⟨?_,?_⟩
  ·have:∀ l,strEqL l l=true:=by
    intro l;induction l with
    |nil=>rfl
    |cons a l ih=>simp [strEqL,ih]
   exact this _
  ·unfold storeKind at hx ⊢
   split at hx
   ·rename_i q;rw [q];rfl
   ·rename_i q;rw [q];rfl
   ·cases hx
theorem comp_body {elt cond:ME}{x:String}{e' iter:PySem.Expr}{id:Str}{px:Pos}{ifs:List PySem.Expr}{scope:Scope}{pos:Pos}{env:Env}{ρ:Sto}{sv:Value}{src:MV}{vs:List MV}{RR:Value→Addr→Result→Shared→Prop}{Q:MV→MH→Prop}
  (hid:strEq id (Str.ofString x)=true) (hok:compOk nm x scope=true) (hc:SndIfs W Δ n (relabN nm scope.names) cond ifs) (he:SndE W Δ n (relabN nm scope.names) elt e') (C:Cx n false A fs env nm) (R:EnvRel Ψ env ρ) (S:St W fs Ψ H s) (hv:VRel Ψ sv src) (hel:Elems H src vs)
  (h:compW src vs (fun v H k=>wE Δ false cond (ρ.set x v) H (asTruth k) (fun _ _=>False)) (fun v H k=>wE Δ false elt (ρ.set x v) H k (fun _ _=>False)) Q vs [] H)
  (hRR:∀ D C' Ψ' H' s',St W fs Ψ' H' s'→Keep none_ Ψ Ψ'→Ψ C'=none→(∃ m,Ψ' C'=some (.ns m))→D≠C'→Q (.ref D) H'→RR (.ref D) C' (.ok .next) s'):
  wpAny W.M A (pyIter sv) (fun it s₂=>wpAny W.M A (newList []) (fun acc s₃=>wpAny W.M A (newFunctionEnv scope env.globals (clos env.cells scope.names []) [] env.qual none .none (some env)) (fun cenv s₄=>
   codeAny W.M A (.compStart (.ListComp e' [⟨.Name id px,iter,ifs,0⟩] scope pos) 0 it acc {cenv with scope:=relabel scope env}) (RR acc cenv.locals) s₄) E s₃) E s₂) E s:=by
 obtain rfl:=strEq_eq hid
 obtain rfl:=C.names
 refine op_iter S hv hel fun it Ψ₁ s₁ S₁ K₁ hit up₁ hi=>?_
 refine wpAny_newObj_type ?_
 have S₂:=S₁.push (s':={s₁ with heap:=s₁.heap.push {cls:=.type "list",data:=.seq ([]:List Value).toArray}}) (k:=.hid []) (o:={cls:=.type "list",data:=.seq ([]:List Value).toArray}) rfl ⟨_,0,rfl,.nil,Nat.zero_le _⟩ rfl rfl rfl
 have up₂:∀ b k,Ψ₁ b=some k→Ψ₁.set s₁.heap.objs.size (.hid []) b=some k:=fun b k e=>Psi.set_up S₁.none_at e
 have K₂:=K₁.trans (S₁.pushKeep (.hid []))
 have hD0:Ψ s₁.heap.objs.size=none:=by
  cases q:Ψ s₁.heap.objs.size with
  |none=>rfl
  |some k=>exact nn S₁.none_at (up₁ _ _ q)
 have back:∀ a,Ψ₁.set s₁.heap.objs.size (.hid []) a=none→Ψ a=none:=fun a ha=>by
  cases q:Ψ a with
  |none=>rfl
  |some k=>exact nn ha (up₂ _ _ (up₁ _ _ q))
 obtain ⟨_,Ψ₃,S₃,K₃,R₃,hslot,hC⟩:=compPlace (R.keep K₂) S₂ hok
 obtain ⟨hkind,_,hT⟩:=comp_names hok
 refine newCompEnv ?_
 have C₃:Cx n false A fs (compEnv scope ({s₁ with heap:=s₁.heap.push {cls:=.type "list",data:=.seq ([]:List Value).toArray}}:Shared).heap.objs.size env) (relabN env.scope.names scope.names):=
  ⟨C.frames,C.top,relabel_names R.kind,C.hand,C.depth,C.units⟩
 have hi₃:ItAt Ψ₃ sv src it 0:=hi.imp fun o z=>⟨K₃.slot _ _ (up₂ _ _ z.1) rfl id,z.2⟩
 have loop:=comp_loop (Q:=Q) (x:=x) (px:=px) (iter:=iter) (scope:=scope) (pos:=pos) (RR:=RR (.ref s₁.heap.objs.size) ({s₁ with heap:=s₁.heap.push {cls:=.type "list",data:=.seq ([]:List Value).toArray}}:Shared).heap.objs.size)
  (C.hand rfl) hc he C₃ hT (fun a ha=>back a (hslot a ha)) hit hD0 (sto_del_set ρ x)
  (fun Ψ' H' s' S' K' hm hne q=>hRR _ _ Ψ' H' s' S' K' (back _ hC) hm hne q) S₃ (K₂.trans K₃) (hv.mono (K₂.trans K₃).fix) hel hi₃ (K₃.slot _ _ (Psi.set_self _ _ _) rfl id) R₃ h
 exact codeAny_compStart_list loop (op_iterSelf S₃ hi₃ loop)
theorem frames_ne (S:St W fs Ψ H s){a:Addr}(h:Ψ a=none):∀ e∈fs,e.frame≠some a:=fun e he q=>by
 obtain ⟨_,L,m,h1,h2⟩:=S.frames e he
 rw [q] at h1;cases h1;rw [h] at h2;cases h2
theorem snd_comp {elt cond it:ME}{x:String}{e' iter:PySem.Expr}{id:Str}{px:Pos}{ifs:List PySem.Expr}{scope:Scope}{pos:Pos}(hid:strEq id (Str.ofString x)=true)(hok:compOk nm x scope=true)(hset:notSet iter=true)
  (hit:SndE W Δ n nm it iter) (hc:SndIfs W Δ n (relabN nm scope.names) cond ifs) (he:SndE W Δ n (relabN nm scope.names) elt e'):SndE W Δ n nm (.comp elt x it cond) (.ListComp e' [⟨.Name id px,iter,ifs,0⟩] scope pos):=by
 intro hd A fs env ρ Ψ H s Q X C R S h
 obtain ⟨rfl,h⟩:=h
 rw [eval_ListComp]
 obtain ⟨hkind,hnames,_⟩:=comp_names hok
 have hcl:closureFor scope env=pure (clos env.cells scope.names []):=by
  have hok':=hok
  rw [←C.names] at hok'
  exact closure_eq (compPlace R S hok').1
 refine wpAny_comprehension_free (use:=none) rfl (fun v=>notSet_folded hset v) hcl hkind hnames ?_
 refine monoE (hit C R S h) fun Ψ₁ H₁ src sv s₁ S₁ K₁ va h₁=>?_
 obtain ⟨vs,hvs,h₁⟩:=h₁
 refine comp_body (RR:=fun acc C'=>compPost W.M A (PostX W fs Ψ X) none (PostE W fs Ψ Q) acc C') hid hok hc he C (R.keep K₁) S₁ va hvs h₁ fun D C' Ψ' H' s' S' K' hC hm hne q=>?_
 obtain ⟨m,hm⟩:=hm
 obtain ⟨o,ho,ents,k,hd,hs,hf⟩:=S'.typed _ _ hm
 refine ⟨nsFind ents,⟨o,ents,k,ho,hd,hs,fun _=>rfl⟩,fun h' hsb=>?_⟩
 have S'':=S'.forget (s':={s' with heap:=h'}) hm rfl (frames_ne S₁ hC) hsb.extBut rfl rfl
 exact ⟨_,H',.ref D,S'',K₁.trans (K'.delNew hC),.ref,q⟩
end
end Mine
end
section
namespace Mine
open PySem
section
variable {W:Amb}{K:PySem.W.Frag}{Δ:CallT}{n:Nat}{nm:Names}{fs:List Env}{Ψ Ψ₀:Psi}{H:MH}{s s':Shared}{A:Around}{E:Value→Shared→Prop}{env:Env}{outer:List Env}
noncomputable def Held (W:Amb)(env:Env)(outer:List Env)(Ψ:Psi)(e:Addr)(c:String)(h:Heap):Prop:=
 excNames.contains c=true∧∃ B:Heap,W.h₀.StaysIn B∧B.StaysIn h∧B.get? e=none∧(∀ a k,Ψ a=some k→(∀ m,k≠ .ns m)→∃ o,B.get? a=some o)∧h.FunFrames B (env::outer)∧∃ a0 L,env.frame=some L∧h.TracedAtW B e (.ref (W.ca c)) a0 (rawInt L)
theorem noted {e:Addr}{c:String}{Q:Unit→Shared→Prop}(hfr:A.frames=some (env::outer))(F:Fly W (env::outer) Ψ e c s.heap)(S:St W (env::outer) Ψ H s)
  (h:∀ s',Held W env outer Ψ e c s'.heap→St W (env::outer) Ψ H s'→Q () s'):wpAny W.M A (noteFrame (.ref e) env) Q E s:=by
 obtain ⟨hcn,B,h0,hB,hn,hk,hf,hx⟩:=F
 obtain ⟨L,_,hL,_⟩:=hf.2.1
 rcases hx with ⟨a0,hx⟩|⟨a0,L',env',outer',q,hL',hx⟩|⟨oe,vs,a0,he,hc,hd,h0',h1⟩
 ·refine wpAny_looks_onW hfr hL ⟨hB,hn,hf,hx⟩ fun h' hh hu=>?_
  exact h _ ⟨hcn,B,h0,hh.1,hn,hk,hh.2.2.1,a0,L,hL,hh.2.2.2⟩ (S.flown hk h0 hB hh.1 hu rfl rfl)
 ·cases q
  exact wpAny_noteFrame_againW hL' hx (h _ ⟨hcn,B,h0,hB,hn,hk,hf,a0,L',hL',hx⟩ S)
 ·unfold noteFrame
  simp only [hL]
  refine wpAny_bind (wpAny_field he hd h1 ?_)
  rw [if_neg (by decide)]
  refine wpAny_entryW hfr hf hL he hB hn hd (Array.getElem?_eq_some_iff.mp h1).1 h0' fun h' hN=>?_
  obtain ⟨k1,k2,k3,k4⟩:=hN
  rw [hc] at k3
  exact h _ ⟨hcn,B,h0,k1,hn,hk,k2,a0,L,hL,k3⟩ (S.flown hk h0 hB k1 k4 rfl rfl)
theorem landed {e:Addr}{c:String}{Q:Unit→Shared→Prop}(F:Held W env outer Ψ e c s.heap)(S:St W (env::outer) Ψ H s)
  (h:∀ s',Fly W (env::outer) Ψ e c s'.heap→(∃ B a0,W.h₀.StaysIn B∧B.StaysIn s'.heap∧B.get? e=none∧(∀ a k,Ψ a=some k→(∀ m,k≠ .ns m)→∃ o,B.get? a=some o)∧s'.heap.FunFrames B (env::outer)∧s'.heap.TracedAtW B e (.ref (W.ca c)) a0 .none)→St W (env::outer) Ψ H s'→Q () s'):wpAny W.M A (setFlight (.ref e) none) Q E s:=by
 obtain ⟨hcn,B,h0,hB,hn,hk,hf,a0,L,hL,hx⟩:=F
 refine wpAny_landsW ⟨hB,hn,hf,hx⟩ fun h' hfl hu=>?_
 obtain ⟨k1,k2,k3,k4⟩:=hfl
 exact h _ ⟨hcn,B,h0,k1,hn,hk,k3,.inl ⟨a0,k4⟩⟩ ⟨B,a0,h0,k1,hn,hk,k3,k4⟩ (S.flown hk h0 hB k1 hu rfl rfl)
theorem cameBack {e:Addr}{c:String}{Q:Value→Shared→Prop}(F:Held W env outer Ψ e c s.heap)(S:St W (env::outer) Ψ H s)
  (h:∀ s',Fly W (env::outer) Ψ e c s'.heap→St W (env::outer) Ψ H s'→Q (.ref e) s'):cameBackBy W.M A env Q (.ref e) s:=by
 obtain ⟨hcn,B,h0,hB,hn,hk,hf,a0,L,hL,hx⟩:=F
 obtain ⟨oe,vs,T,oT,ts,he,⟨hcls,h0'⟩,hd,h1,hnT,hTe,hT,hdT,h3⟩:=hx
 unfold cameBackBy
 refine wpAny_bind (wpAny_field he hd h1 ?_)
 rw [if_neg (show ¬((Value.ref T==Value.none)=true) from by simp)]
 unfold setFlight
 refine wpAny_bind (wpAny_field he hd h1 ?_)
 rw [if_pos (show (Value.ref T !=Value.none)=true from by simp),hL]
 have hsz3:3<ts.size:=(Array.getElem?_eq_some_iff.mp h3).1
 have other:∀ b,b≠T→(s.heap.update T (Obj.mapFields (·.setIfInBounds 3 (rawInt L)))).get? b=s.heap.get? b:=fun b hb=>Heap.get?_update_other _ _ (Ne.symm hb)
 have noRecord:∀ b o,s.heap.get? b=some o→(∀ vs,o.data≠ .fields vs)→b≠T:=fun b o hb hnf q=>by
  rw [q,hT] at hb;injection hb with hb;subst hb;exact hnf ts hdT
 have hdT':=Obj.data_mapFields hdT (·.setIfInBounds 3 (rawInt L))
 have hT':=Heap.get?_update_self (Obj.mapFields (·.setIfInBounds 3 (rawInt L))) hT (Obj.isFreed_of_fields hdT')
 have kb:B.StaysIn (s.heap.update T (Obj.mapFields (·.setIfInBounds 3 (rawInt L)))):=fun b o hbo=>(other b fun q=>by rw [q,hnT] at hbo;cases hbo).trans (hB b o hbo)
 have up:s.heap.UpToSlots (s.heap.update T (Obj.mapFields (·.setIfInBounds 3 (rawInt L)))):=fun b o hb hnf=>⟨o.slots,(other b (noRecord b o hb hnf)).trans hb⟩
 refine wpAny_setField hT hdT hsz3 (h {s with heap:=s.heap.update T (Obj.mapFields (·.setIfInBounds 3 (rawInt L)))} ⟨hcn,B,h0,kb,hn,hk,hf.of_keeps fun b o hb hnf=>⟨o,(other b (noRecord b o hb hnf)).trans hb,rfl⟩,.inr (.inl ⟨a0,L,env,outer,rfl,hL,?_⟩)⟩ (S.flown hk h0 hB kb up rfl rfl))
 exact ⟨oe,vs,T,_,_,(other e (Ne.symm hTe)).trans he,⟨hcls,h0'⟩,hd,h1,hnT,hTe,hT',hdT',by simp [hsz3]⟩
theorem noted_loop {X:String→Sto→MH→Prop}{e:Value}(hfr:A.frames=some (env::outer))(h:PostY W (env::outer) env Ψ X e s):
  notedBy W.M A env (fun e s'=>cameBackBy W.M A env (PostY W (env::outer) env Ψ X) e s') e s:=by
 obtain ⟨ea,c,Ψ',H',ρ',rfl,F,S,K',R,x⟩:=h
 refine noted hfr F S fun s₁ hh S₁=>?_
 exact cameBack hh S₁ fun s₂ F₂ S₂=>⟨ea,c,Ψ',H',ρ',rfl,F₂,S₂,K',R,x⟩
theorem sndSs_nil:SndSs W Δ n nm .nil []:=by
 intro hd A outer env ρ Ψ H s N R X C Rl S h
 exact wpAny_execs_nil ⟨Ψ,H,ρ,S,.refl _ _,Rl,h⟩
theorem sndSs_cons {m:MS}{ms:MSs}{x:Stmt}{xs:List Stmt}(h1:SndS W Δ n nm m x)(h2:SndSs W Δ n nm ms xs):SndSs W Δ n nm (.cons m ms) (x::xs):=by
 intro hd A outer env ρ Ψ H s N R X C Rl S h
 refine wpAny_execs_cons (wpAny_mono (h1 C Rl S h) (fun f s₁ h₁=>?_) fun _ _ x=>x)
 cases f with
 |next=>
  obtain ⟨Ψ₁,H₁,ρ₁,S₁,K₁,R₁,h₁⟩:=h₁
  exact wpAny_mono (h2 C R₁ S₁ h₁) (fun _ _ x=>x.from K₁) fun _ _ x=>x.from K₁
 |ret v=>exact h₁
 |_=>exact h₁.elim
noncomputable def notComp (x:PySem.Expr):Bool:=!(Nat.beq x.ctorIdx 8||Nat.beq x.ctorIdx 9||Nat.beq x.ctorIdx 10)
theorem swaps_not {value:PySem.Expr}{t:Option PySem.Expr}{l:Nat}{env:Env}(h:notComp value=true):swapsWith value t l env=pure false:=by
 cases value<;>first|rfl|exact absurd h Bool.noConfusion
theorem interactive_off {env:Env}(h:env.scope.kind=.function):interactive env=false:=by
 unfold interactive;rw [h];rfl
theorem snd_expr {e:ME}{x:PySem.Expr}{pos:Pos}(hn:notComp x=true)(he:SndE W Δ n nm e x):SndS W Δ n nm (.expr e) (.Expr x pos):=by
 intro hd A outer env ρ Ψ H s N R X C Rl S h
 refine wpAny_Expr_any (wpAny_mono (monoE (he C Rl S h) fun Ψ₁ H₁ mv v s₁ S₁ K₁ va h₁=>?_) (fun _ _ x=>x) fun _ _ x=>x.toY Rl (.refl _ _)) (interactive_off Rl.kind) (swaps_not hn)
 exact ⟨Ψ₁,H₁,ρ,S₁,K₁.of_none,Rl.keep K₁,h₁⟩
theorem assign_any {e:ME}{y:String}{x:PySem.Expr}{id:Str}{p pos:Pos}(hs:∀ env:Env,env.scope.kind=.function→env.scope.names=nm→swapsWith x (some (.Name id p)) pos.line env=pure false)(ht:isTarget nm y id=true)(he:SndE W Δ n nm e x):SndS W Δ n nm (.assign y e) (.Assign [.Name id p] x pos):=by
 intro hd A outer env ρ Ψ H s N R X C Rl S h
 refine wpAny_Assign_Name (wpAny_mono (monoE (he C Rl S h) fun Ψ₁ H₁ mv v s₁ S₁ K₁ va h₁=>?_) (fun _ _ x=>x) fun _ _ x=>x.toY Rl (.refl _ _)) (hs env Rl.kind C.names)
 refine storeVar C.names (Rl.keep K₁) S₁ ht va fun Ψ₂ s₂ S₂ K₂ R₂=>?_
 exact ⟨Ψ₂,H₁,_,S₂,K₁.of_none.trans (K₂.weaken fun a ha=>slot_own ha),R₂,h₁⟩
theorem snd_assign {e:ME}{y:String}{x:PySem.Expr}{id:Str}{p pos:Pos}(hn:notComp x=true)(ht:isTarget nm y id=true)(he:SndE W Δ n nm e x):SndS W Δ n nm (.assign y e) (.Assign [.Name id p] x pos):=
 assign_any (fun _ _ _=>swaps_not hn) ht he
theorem snd_ret {e:ME}{x:PySem.Expr}{pos:Pos}(he:SndE W Δ n nm e x):SndS W Δ n nm (.ret e) (.Return (some x) pos):=by
 intro hd A outer env ρ Ψ H s N R X C Rl S h
 refine wpAny_Return_some (wpAny_mono (monoE (he C Rl S h) fun Ψ₁ H₁ mv v s₁ S₁ K₁ va h₁=>?_) (fun _ _ x=>x) fun _ _ x=>x.toY Rl (.refl _ _))
 exact ⟨Ψ₁,H₁,mv,S₁,K₁.of_none,⟨ρ,Rl.keep K₁⟩,va,h₁⟩
theorem snd_ite {t:ME}{a b:MSs}{x:PySem.Expr}{xs ys:List Stmt}{pos:Pos}(ht:SndT W Δ n nm t x)(ha:SndSs W Δ n nm a xs)(hb:SndSs W Δ n nm b ys):SndS W Δ n nm (.ite t a b) (.If x xs ys pos):=by
 intro hd A outer env ρ Ψ H s N R X C Rl S h
 refine wpAny_If (wpAny_mono (monoB (ht C Rl S h) fun Ψ₁ H₁ c s₁ S₁ K₁ h₁=>?_) (fun _ _ x=>x) fun _ _ x=>x.toY Rl (.refl _ _))
 cases c with
 |true=>
  exact wpAny_mono (ha C (Rl.keep K₁) S₁ h₁) (fun _ _ x=>x.from K₁.of_none) fun _ _ x=>x.from K₁.of_none
 |false=>
  exact wpAny_mono (hb C (Rl.keep K₁) S₁ h₁) (fun _ _ x=>x.from K₁.of_none) fun _ _ x=>x.from K₁.of_none
theorem snd_while {t:ME}{b:MSs}{x:PySem.Expr}{xs:List Stmt}{pos:Pos}(ht:SndT W Δ n nm t x)(hb:SndSs W Δ n nm b xs):SndS W Δ n nm (.whil t b) (.While x xs [] pos):=by
 intro hd A outer env ρ Ψ H s N R X C Rl S h
 obtain ⟨k,h⟩:=h
 refine wpAny_While (codeAny_whileLoop (I:=fun k s=>PostN W (env::outer) env Ψ (whileW (fun ρ H k=>wE Δ hd t ρ H (asTruth k) (fun c H₁=>X c ρ H₁)) (fun ρ H k=>wSs Δ hd b ρ H k R X) N k) s) (fun k s hI=>?_) k ⟨Ψ,H,ρ,S,.refl _ _,Rl,h⟩)
 clear S Rl h
 obtain ⟨Ψ',H',ρ',S,K',Rl,h⟩:=hI
 cases k with
 |zero=>exact h.elim
 |succ k=>
  refine wpAny_mono (monoB (ht C Rl S h) fun Ψ₁ H₁ c s₁ S₁ K₁ h₁=>?_) (fun _ _ x=>x) fun _ _ x=>noted_loop C.frames (x.toY Rl K')
  have K1:=K'.trans K₁.of_none
  cases c with
  |true=>
   refine wpAny_mono (hb C (Rl.keep K₁) S₁ h₁) (fun f s₂ h₂=>?_) fun _ _ x=>noted_loop C.frames (x.from K1)
   cases f with
   |next=>
    obtain ⟨Ψ₂,H₂,ρ₂,S₂,K₂,R₂,h₂⟩:=h₂
    exact ⟨k,Nat.lt_succ_self k,Ψ₂,H₂,ρ₂,S₂,K1.trans K₂,R₂,h₂⟩
   |ret v=>exact PostS.from (f:=.ret v) K1 h₂
   |_=>exact h₂.elim
  |false=>
   exact wpAny_execs_nil ⟨Ψ₁,H₁,ρ',S₁,K1,Rl.keep K₁,h₁⟩
end
end Mine
end
section
namespace Mine
open PySem
section
variable {W:Amb}{K:PySem.W.Frag}{Δ:CallT}{n:Nat}{nm:Names}{fs:List Env}{Ψ Ψ₀ Ψ':Psi}{H:MH}{s s':Shared}{A:Around}{E:Value→Shared→Prop}{env:Env}{outer:List Env}
theorem Keep.newOwn' {own own':Addr→Prop}(x:Keep own Ψ₀ Ψ)(y:Keep own' Ψ Ψ')(h:∀ a,own' a→Ψ₀ a=none∨own a):Keep own Ψ₀ Ψ':=
 ((x.weaken (own':=fun a=>own a∨own' a) fun _ q=> .inl q).trans (y.weaken fun _ q=> .inr q)).drop fun a ha=>ha.elim .inr (h a)
theorem own_kind {ρ:Sto}{a:Addr}(R:EnvRel Ψ env ρ)(h:ownOf env a):∃ k,Ψ a=some k∧(k.sort=1∨k.sort=2):=by
 rcases h with rfl|⟨id,h1,h2⟩
 ·exact R.loc.elim fun m h=>⟨_,h.1,.inl rfl⟩
 ·exact slot_kind R (.inr ⟨h1,h2⟩)
theorem raw_not_own {ρ:Sto}{a:Addr}{o:Obj}(R:EnvRel Ψ env ρ)(h:Ψ a=some (.raw o)):¬ ownOf env a:=fun q=>by
 obtain ⟨k,e,z⟩:=own_kind R q
 obtain rfl:=Option.some.inj (h.symm.trans e)
 exact z.elim ne31 ne32
noncomputable def plainIt (c:String):Bool:=c=="list_iterator"||c=="tuple_iterator"||c=="range_iterator"||c=="str_ascii_iterator"||c=="str_iterator"
theorem it_plain {sv:Value}{src:MV}{ia:Addr}{i:Nat}(S:St W fs Ψ H s)(h:ItAt Ψ sv src ia i):∃ ia' o c dv,Value.ref ia=.ref ia'∧s.heap.get? ia'=some o∧o.cls=.type c∧o.data=.fields dv∧plainIt c=true:=by
 obtain ⟨o,ho,hm⟩:=h
 obtain ⟨o',ho',rfl⟩:=S.typed _ _ ho
 cases src with
 |ref a=>exact ⟨ia,_,_,_,rfl,ho',hm.1,hm.2,rfl⟩
 |tup vs=>exact hm.elim fun a z=>⟨ia,_,_,_,rfl,ho',z.2.1,z.2.2,rfl⟩
 |rng a b c=>subst hm;exact ⟨ia,_,_,_,rfl,ho',rfl,rfl,rfl⟩
 |str x=>
  obtain ⟨t,h1,h2⟩:=hm
  refine ⟨ia,_,_,_,rfl,ho',h1,h2,?_⟩
  unfold strIterType;split<;>rfl
 |none=>exact hm.elim
 |bool _=>exact hm.elim
 |int _=>exact hm.elim
 |exc _=>exact hm.elim
noncomputable def SndTgt (W:Amb)(nm:Names)(f:MV→Sto→Sto→Prop)(t:PySem.Expr):Prop:=
 ∀ ⦃A:Around⦄{fs:List Env} {env:Env} {ρ ρ':Sto} {Ψ:Psi} {H:MH} {s:Shared} {v:Value} {mv:MV} {it:Value} {E:Value→Shared→Prop} {QQ:Unit→Shared→Prop},A.handled=none→env.scope.names=nm→EnvRel Ψ env ρ→St W fs Ψ H s→VRel Ψ v mv→f mv ρ ρ'→
  (∃ ia o c dv,it=.ref ia∧s.heap.get? ia=some o∧o.cls=.type c∧o.data=.fields dv∧plainIt c=true)→
  (∀ Ψ' s',St W fs Ψ' H s'→Keep (ownOf env) Ψ Ψ'→EnvRel Ψ' env ρ'→QQ () s')→wpAny W.M A (letOwnedTupleGo t it v) (fun _ s₁=>wpAny W.M A (assign t env v) QQ E s₁) E s
theorem tgt_name {x:String}{id:Str}{p:Pos}(ht:isTarget nm x id=true):SndTgt W nm (fun v ρ ρ'=>ρ'=ρ.set x v) (.Name id p):=by
 intro A fs env ρ ρ' Ψ H s v mv it E QQ hh hn R S hv hf _ h
 subst hf
 exact wpAny_pure (wpAny_assign_Name (storeVar hn R S ht hv fun Ψ' s' S' K' R'=>h Ψ' s' S' (K'.weaken fun a ha=>slot_own ha) R'))
inductive ForI (W:Amb)(fs:List Env)(env:Env)(Ψ₁:Psi)(sv:Value)(src:MV)(vs:List MV)(ia:Addr)(Z:List MV→Sto→MH→Prop)(m:Nat)(s:Shared):Prop
 |mk (Ψ':Psi)(H':MH)(ρ':Sto)(i:Nat)(hm:m+i=vs.length)(S:St W fs Ψ' H' s)(K:Keep (ownOf env) Ψ₁ Ψ')(R:EnvRel Ψ' env ρ')(va:VRel Ψ' sv src)(hvs:Elems H' src vs)(hi:ItAt Ψ' sv src ia i)(h:Z (vs.drop i) ρ' H')
theorem for_core {f:MV→Sto→Sto→Prop}{t it:PySem.Expr}{itm:ME}{b:MSs}{xs:List Stmt}{pos:Pos}{ρ:Sto}{N:Sto→MH→Prop}{R:MV→MH→Prop}{X:String→Sto→MH→Prop}{body:MV→Sto→MH→(Sto→MH→Prop)→Prop}
  (hset:notSet it=true) (hti:SndTgt W nm f t) (hit:SndE W Δ n nm itm it) (hb:SndSs W Δ n nm b xs) (hbody:∀ v ρ H k,body v ρ H k→∃ ρ',f v ρ ρ'∧wSs Δ false b ρ' H k R X)
  (C:Cx n false A (env::outer) env nm) (Rl:EnvRel Ψ env ρ) (S:St W (env::outer) Ψ H s)
  (h:wE Δ false itm ρ H (fun src H₁=>∃ vs,Elems H₁ src vs∧forW src vs body N vs ρ H₁) (fun c H₁=>X c ρ H₁)):
  wpAny W.M A (exec (.For t it xs [] pos) env) (PostS W (env::outer) env Ψ N R) (PostY W (env::outer) env Ψ X) s:=by
 refine wpAny_For (wpAny_mono (monoE (hit C Rl S h) fun Ψ₁ H₁ src sv s₁ S₁ K₁ va h₁=>?_) (fun _ _ x=>x) fun _ _ x=>x.toY Rl (.refl _ _)) (fun v=>notSet_folded hset v)
 obtain ⟨vs,hvs,h₁⟩:=h₁
 refine op_iter S₁ va hvs fun ia Ψ₂ s₂ S₂ K₂ hia up hi=>?_
 have hia0:∀ a,a=ia→Ψ₁ a=none∨ownOf env a:=fun a q=> .inl (q▸hia)
 refine codeAny_forLoop_any (I:=ForI W (env::outer) env Ψ₁ sv src vs ia (forW src vs body N)) (fun m s hI=>?_) vs.length
  ⟨Ψ₂,H₁,ρ,0,rfl,S₂,K₂.of_none,Rl.keep (K₁.trans K₂),va.mono K₂.fix,hvs,hi,h₁⟩
 clear S S₁ S₂ h₁ hi K₂ up Rl va hvs
 obtain ⟨Ψ',H',ρ',i,hm,S',K',R',va,hvs,hi,h₁⟩:=hI
 have hi0:=hi
 obtain ⟨oi,hraw,_⟩:=hi0
 have noI:∀ a k,Ψ' a=some k→(k.sort=1∨k.sort=2)→¬ a=ia:=fun a k e q=>sort_apart hraw e (not12 q ne31 ne32)
 cases hx':vs[i]? with
 |none=>
  rw [List.drop_eq_nil_of_le (List.getElem?_eq_none_iff.mp hx')] at h₁
  exact op_done (C.hand rfl) S' va hvs hi hx' fun Ψ₃ s₃ S₃ K₃=>wpAny_execs_nil ⟨Ψ₃,H',ρ',S₃,K₁.of_none.trans (K'.newOwn' K₃ hia0),R'.keepW K₃ noI,h₁⟩
 |some v=>
  have hlt:=(List.getElem?_eq_some_iff.mp hx').1
  rw [List.drop_eq_getElem_cons hlt,(List.getElem?_eq_some_iff.mp hx').2] at h₁
  refine op_next S' va hvs hi hx' fun w Ψ₃ s₃ S₃ K₃ vw hi₃=>?_
  have R₃:=R'.keepW K₃ noI
  have K13:=K'.newOwn' K₃ hia0
  obtain ⟨ρ'',hf,h₁⟩:=hbody _ _ _ _ h₁
  refine hti (C.hand rfl) C.names R₃ S₃ vw hf (it_plain S₃ hi₃) fun Ψ₄ s₄ S₄ K₄ R₄=>?_
  have hi₄:=hi₃.keep K₄ (hi₃.elim fun o z=>raw_not_own R₃ z.1)
  have K14:=K₁.of_none.trans (K13.trans K₄)
  refine wpAny_mono (hb C R₄ S₄ h₁) (fun fl s₅ h₅=>?_) fun _ _ x=>noted_loop C.frames (x.from K14)
  cases fl with
  |next=>
   obtain ⟨Ψ₅,H₅,ρ₅,S₅,K₅,R₅,hel,h₅⟩:=h₅
   exact ⟨vs.length-(i+1),by lia,Ψ₅,H₅,ρ₅,i+1,Nat.sub_add_cancel hlt,S₅,(K13.trans K₄).trans K₅,R₅,va.mono (K₃.fix.trans (K₄.fix.trans K₅.fix)),hel,hi₄.keep K₅ (hi₄.elim fun o z=>raw_not_own R₄ z.1),h₅⟩
  |ret v=>exact PostS.from (f:=.ret v) K14 h₅
  |_=>exact h₅.elim
end
end Mine
end
section
namespace Mine
open PySem
section
variable {W:Amb}{K:PySem.W.Frag}{Δ:CallT}{n:Nat}{nm:Names}{fs:List Env}{Ψ Ψ₀ Ψ':Psi}{H:MH}{s s':Shared}{A:Around}{E:Value→Shared→Prop}{env:Env}{outer:List Env}
theorem snd_for {x:String}{it:ME}{b:MSs}{id:Str}{p:Pos}{t:PySem.Expr}{xs:List Stmt}{pos:Pos}(ht:isTarget nm x id=true)(hset:notSet t=true)(hit:SndE W Δ n nm it t)(hb:SndSs W Δ n nm b xs):SndS W Δ n nm (.for_ x it b) (.For (.Name id p) t xs [] pos):=by
 intro hd A outer env ρ Ψ H s N R X C Rl S h
 obtain ⟨rfl,h⟩:=h
 exact for_core (f:=fun v ρ ρ'=>ρ'=ρ.set x v) hset (tgt_name ht) hit hb (fun v ρ H k z=>⟨_,rfl,z⟩) C Rl S h
theorem putL_find {name y:Str}{hsh:Int}{t:Tok}{v:Value}:∀{es:List DictEntry},(∀ e∈es,∃ m t,e.key=.str m t)→
  ((PySem.W.putL name hsh (.str name t) v es).find? (·.key.isStr y)).map (·.val)=if y=name then some v else (es.find? (·.key.isStr y)).map (·.val)
 | [],_=>by
  simp only [PySem.W.putL,List.find?_cons,List.find?_nil]
  by_cases q:y=name
  ·subst q;simp [Value.isStr]
  ·have:Value.isStr (.str name t) y=false:=by simp only [Value.isStr];exact beq_eq_false_iff_ne.mpr fun z=>q z.symm
   rw [this,if_neg q]
 |e::es,h=>by
  obtain ⟨m,u,hm⟩:=h e (by simp)
  have ih:=putL_find (name:=name) (y:=y) (hsh:=hsh) (t:=t) (v:=v) (es:=es) fun e he=>h e (by simp [he])
  unfold PySem.W.putL
  have ks:∀ z,e.key.isStr z=(m==z):=fun z=>by rw [hm];rfl
  cases q:e.key.isStr name with
  |true=>
   rw [ks] at q
   obtain rfl:=beq_iff_eq.mp q
   simp only [if_true,List.find?_cons,ks]
   by_cases z:y=m
   ·subst z;simp
   ·have:(m==y)=false:=beq_eq_false_iff_ne.mpr fun w=>z w.symm
    rw [this,if_neg z]
  |false=>
   simp only [Bool.false_eq_true,if_false,List.find?_cons,ks]
   cases z:m==y with
   |true=>
    obtain rfl:=beq_iff_eq.mp z
    rw [ks] at q
    rw [if_neg (beq_eq_false_iff_ne.mp q)]
   |false=>exact ih
theorem putL_keys {name:Str}{hsh:Int}{t:Tok}{v:Value}:∀{es:List DictEntry},(∀ e∈es,∃ m t,e.key=.str m t)→∀ e∈PySem.W.putL name hsh (.str name t) v es,∃ m t,e.key=.str m t
 | [],_,e,he=>by simp only [PySem.W.putL,List.mem_singleton] at he;subst he;exact ⟨_,_,rfl⟩
 |a::es,h,e,he=>by
  unfold PySem.W.putL at he
  split at he
  ·rcases List.mem_cons.mp he with q|q
   ·subst q;exact h a (by simp)
   ·exact h e (by simp [q])
  ·rcases List.mem_cons.mp he with q|q
   ·subst q;exact h e (by simp)
   ·exact putL_keys (fun e he=>h e (by simp [he])) e q
theorem putL_length {name:Str}{hsh:Int}{key v:Value}:∀{es:List DictEntry},(PySem.W.putL name hsh key v es).length=if es.any (·.key.isStr name) then es.length else es.length+1
 | []=>rfl
 |a::es=>by
  have ih:=putL_length (name:=name) (hsh:=hsh) (key:=key) (v:=v) (es:=es)
  unfold PySem.W.putL
  cases q:a.key.isStr name with
  |true=>simp [q]
  |false=>
   simp only [Bool.false_eq_true,if_false,List.length_cons,List.any_cons,q,Bool.false_or,ih]
   split<;>rfl
theorem fsSet_length {f:String}{x:MV}:∀{l:List (String×MV)},(fsSet l f x).length=if (fsGet l f).isSome then l.length else l.length+1
 | []=>rfl
 |(y,u)::r=>by
  have ih:=fsSet_length (f:=f) (x:=x) (l:=r)
  unfold fsSet fsGet
  by_cases q:f=y
  ·simp [q]
  ·simp only [q,if_false,List.length_cons,ih];split<;>rfl
theorem fsGet_set {f g:String}{x:MV}:∀{l:List (String×MV)},fsGet (fsSet l f x) g=if g=f then some x else fsGet l g
 | []=>by unfold fsSet fsGet fsGet;rfl
 |(y,u)::r=>by
  have ih:=fsGet_set (f:=f) (g:=g) (x:=x) (l:=r)
  unfold fsSet
  by_cases q:f=y
  ·subst q
   simp only [if_true,fsGet]
   by_cases z:g=f<;>simp [z]
  ·simp only [q,if_false,fsGet,ih]
   by_cases z:g=y
   ·subst z;simp [Ne.symm q]
   ·simp [z]
noncomputable def setOk (ca:String→Addr)(K:PySem.W.Frag)(f:Str):Bool:=(PySem.W.findIn K (.ref (ca "Train")) "__setattr__"==some (some (.builtin "object.__setattr__")))&&PySem.W.plainOver K (ca "Train")&&(PySem.W.takerIn K (ca "Train") f==some none)&&PySem.W.hasDictIn K (ca "Train")
theorem any_of_find {ents:Array DictEntry}{x:Str}:ents.toList.any (·.key.isStr x)=(nsFind ents x).isSome:=by
 rw [nsFind_list,Option.isSome_map,Bool.eq_iff_iff,List.find?_isSome,List.any_eq_true]
theorem put_ledger {Ψ:Psi}{o:Obj}{ents:Array DictEntry}{l:List (String×MV)}{f:String}{a:Addr}{v:Value}{mx:MV}{hsh:Int}{t:Tok}{k:Nat}(hs:StrKeys ents)(hsz:ents.size≤l.length)(hn:∀ x,fsGet l x=none→nsFind ents (Str.ofString x)=none)
  (hf:∀ x mv,fsGet l x=some mv→∃ v,nsFind ents (Str.ofString x)=some v∧VRel Ψ v mv) (hx:VRel Ψ v mx) (he:o.ExactDict) (hd:o.data=.dict (PySem.W.putL (Str.ofString f) hsh (.str (Str.ofString f) t) v ents.toList).toArray k):W.O Ψ o (.idict a (fsSet l f mx)):=by
 have hkeys:∀ e∈ents.toList,∃ m t,e.key=.str m t:=fun e he'=>hs e (by simpa using he')
 have fnd:∀ y,nsFind (PySem.W.putL (Str.ofString f) hsh (.str (Str.ofString f) t) v ents.toList).toArray (Str.ofString y)=if y=f then some v else nsFind ents (Str.ofString y):=fun y=>by
  rw [nsFind_list,nsFind_list]
  refine (putL_find hkeys).trans ?_
  by_cases z:y=f
  ·rw [if_pos z,if_pos (z▸rfl)]
  ·rw [if_neg z,if_neg fun w=>z (ofString_inj w)]
 refine ⟨he,_,_,hd,⟨fun e he'=>putL_keys hkeys e (by simpa using he'),?_⟩,fun y hy=>?_,fun y mv hy=>?_⟩
 ·rw [List.size_toArray,putL_length,fsSet_length,any_of_find,Array.length_toList]
  cases q:fsGet l f with
  |some mv=>obtain ⟨w,hw,_⟩:=hf f mv q;rw [hw];exact hsz
  |none=>rw [hn f q];exact Nat.succ_le_succ hsz
 ·rw [fsGet_set] at hy
  rw [fnd]
  by_cases z:y=f
  ·rw [if_pos z] at hy;exact nn hy rfl
  ·rw [if_neg z] at hy ⊢;exact hn y hy
 ·rw [fsGet_set] at hy
  rw [fnd]
  by_cases z:y=f
  ·rw [if_pos z] at hy ⊢;exact ⟨v,rfl,Option.some.inj hy▸hx⟩
  ·rw [if_neg z] at hy ⊢;exact hf y mv hy
open PySem.W in
theorem op_setattr {f:String}{o v:Value}{mo mx:MV}{Q:MH→Prop}{QQ:Unit→Shared→Prop}(F:Facts W K)(hok:setOk W.ca K (Str.ofString f)=true)(S:St W fs Ψ H s)(ho:VRel Ψ o mo)(hx:VRel Ψ v mx)(h:SetAttrR H Q mo f mx)
  (hq:∀ Ψ' H' s',St W fs Ψ' H' s'→Keep none_ Ψ Ψ'→Q H'→QQ () s'):wpAny W.M A (setAttr o (Str.ofString f) v) QQ E s:=by
 cases h with
 | @mk a l _ _ hl hlen h=>
  obtain rfl:=vref ho
  obtain ⟨ox,d,od,ents,k,h1,h2,I,hdx,hod,he,hk,hs,hsz,hn,hf⟩:=S.inst hl
  obtain ⟨hok,k4⟩:=and_of hok
  obtain ⟨hok,k3⟩:=and_of hok
  obtain ⟨k1,k2⟩:=and_of hok
  refine set_plain (F.at S) I (eq_of_beq k1) (osa_open (s:={s with toks:=s.toks+1}) (F.at (S.toks (s.toks+1))) I k2 (eq_of_beq k3) fun b=>?_)
  obtain ⟨cd,hc,hd'⟩:=any_some k4
  obtain ⟨hxa,hcl,hn',-⟩:=I
  obtain ⟨oc,odi,oda,osl⟩:=ox
  dsimp only at hcl hdx
  subst hcl hdx
  have hodd:od=dictOf ents.toList k:=by
   obtain ⟨e1,e2,e3⟩:=he
   obtain ⟨oc',odi',oda',osl'⟩:=od
   dsimp only at e1 e2 e3 hk
   subst e1 e2 e3 hk
   simp [dictOf]
  refine wpAny_bind (wpAny_pure (wpAny_bind (wpAny_bind (wpAny_loadPart hxa (wpAny_bind ((looks_clsIn (F.at (S.toks (s.toks+1))) hc).here ?_))))))
  rw [hd']
  refine wpAny_pure (a:=some d) (wpAny_bind (wpAny_pure (wpAny_bind ?_)))
  unfold nsSet
  refine wpAny_bind (wpAny_bind (wpAny_askSetting (wpAny_pure (wpAny_bind (wpAny_mkText (wpAny_bind (wpAny_loadPart hod ?_)))))))
  rw [hk]
  dsimp only
  have cc:(!ents.any (·.key.isStr (Str.ofString f))&&ents.any (·.refKey))=false:=by
   have:=noRef hs
   rw [Array.any_toList] at this
   rw [this,Bool.and_false]
  rw [aRefKeyMayBeTheName_at,cc]
  have hput:=putName_dict (Str.ofString f) (PyData.keyHash W.w.params (Str.ofString f)) (.str (Str.ofString f) (s.toks+1)) v ents.toList k
  have hL:=putL_length (name:=Str.ofString f) (hsh:=PyData.keyHash W.w.params (Str.ofString f)) (key:=.str (Str.ofString f) (s.toks+1)) (v:=v) (es:=ents.toList)
  refine wpAny_updatePart hod ?_
  have hnew:(s.heap.update d (Obj.putName (Str.ofString f) (PyData.keyHash W.w.params (Str.ofString f)) (.str (Str.ofString f) (s.toks+1)) v)).get? d=some (dictOf (putL (Str.ofString f) (PyData.keyHash W.w.params (Str.ofString f)) (.str (Str.ofString f) (s.toks+1)) v ents.toList) (putN (Str.ofString f) ents.toList k)):=by
   rw [Heap.get?_update_self _ hod (by rw [hodd,hput];rfl),hodd,hput]
  have hsize:(putL (Str.ofString f) (PyData.keyHash W.w.params (Str.ofString f)) (.str (Str.ofString f) (s.toks+1)) v ents.toList).length≤101:=by
   rw [hL,Array.length_toList];split<;>lia
  refine wpAny_bind (wpAny_lookBehind hnew (pastItsLine_dict (by rw [List.size_toArray,sizeLine_eq];lia)) ?_)
  refine wpAny_pure ?_
  have F1:Fix Ψ (Ψ.set d (.idict a (fsSet l f mx))):=.set_turn _ h2 rfl
  refine hq (Ψ.set d (.idict a (fsSet l f mx))) (H.set a (.inst (fsSet l f mx))) _ (S.turned (s':={s with heap:=s.heap.update d (Obj.putName (Str.ofString f) (PyData.keyHash W.w.params (Str.ofString f)) (.str (Str.ofString f) (s.toks+1)) v),toks:=_}) (k:=.idict a (fsSet l f mx)) h2 rfl (fun m q=>HK.noConfusion q)
   (put_ledger hs hsz hn (fun x mv h=>(hf x mv h).imp fun _ z=>⟨z.1,z.2.mono F1⟩) (hx.mono F1) ⟨rfl,rfl,rfl⟩ rfl) (Heap.SameBut.update ..) hnew (fun b x e=>?_) rfl rfl (fun _ q=>HK.noConfusion q)) (.set_data _ h2 rfl) h
  have ne:∀ c k',Ψ c=some k'→(∀ l',k'≠ .idict a l')→Ψ.set d (.idict a (fsSet l f mx)) c=some k':=fun c k' e' hr=>(Psi.set_ne _ _ fun (z:c=d)=>hr l (Option.some.inj ((z▸e').symm.trans h2))).trans e'
  by_cases q:b=a
  ·subst q;exact Option.some.inj ((MH.set_self _ _ _).symm.trans e)▸⟨d,ne _ _ h1 (fun _ z=>HK.noConfusion z),Psi.set_self _ _ _⟩
  ·have:=S.heap b x ((MH.set_ne _ _ q).symm.trans e)
   cases x with
   |inst l'=>exact this.imp fun d' z=>⟨ne _ _ z.1 (fun _ z=>HK.noConfusion z),ne _ _ z.2 (fun _ z=>q (HK.noConfusion z fun w _=>w))⟩
   |_=>exact ne _ _ this (fun _ z=>HK.noConfusion z)
end
end Mine
end
section
namespace Mine
open PySem
section
variable {W:Amb}{K:PySem.W.Frag}{Δ:CallT}{n:Nat}{nm:Names}{fs:List Env}{Ψ Ψ₀ Ψ':Psi}{H:MH}{s s':Shared}{A:Around}{E:Value→Shared→Prop}{env:Env}{outer:List Env}
theorem swaps_attr {value o:PySem.Expr}{a:Str}{p:Pos}{l:Nat}{env:Env}:swapsWith value (some (.Attribute o a p)) l env=pure false:=by cases value<;>rfl
theorem snd_setAttr {e v:ME}{f:String}{x y:PySem.Expr}{nf:Str}{p pos:Pos}(F:Facts W K)(hf:strEq nf (Str.ofString f)=true)(hok:setOk W.ca K (Str.ofString f)=true)(he:SndE W Δ n nm e x)(hv:SndE W Δ n nm v y):SndS W Δ n nm (.setAttr e f v) (.Assign [.Attribute x nf p] y pos):=by
 intro hd A outer env ρ Ψ H s N R X C Rl S h
 obtain rfl:=strEq_eq hf
 refine plainObj_wpAny_Assign_Attribute (wpAny_mono (monoE (hv C Rl S h) fun Ψ₁ H₁ mv w s₁ S₁ K₁ va h₁=>?_) (fun _ _ x=>x) fun _ _ x=>x.toY Rl (.refl _ _)) swaps_attr
 refine wpAny_mono (monoE (he C (Rl.keep K₁) S₁ h₁) fun Ψ₂ H₂ mo o s₂ S₂ K₂ vo h₂=>?_) (fun _ _ x=>x) fun _ _ x=>x.toY (Rl.keep K₁) K₁.of_none
 refine op_setattr F hok S₂ vo (va.mono K₂.fix) h₂ fun Ψ₃ H₃ s₃ S₃ K₃ h₃=>?_
 have K13:=(K₁.trans K₂).trans K₃
 exact ⟨Ψ₃,H₃,ρ,S₃,K13.of_none,Rl.keep K13,h₃⟩
theorem ne12:(1:Nat)≠2:=by decide
noncomputable def compLine (nm:Names)(id:Str)(p:Pos)(scope:Scope)(pos:Pos):Bool:=(nm.lookup id==some .local)&&p.line==pos.line&& !(scope.names.any fun (n,k)=>n==id&&(k==.local||k==.cell))
theorem swaps_of {id:Str}{p:Pos}{elt:PySem.Expr}{gens:List Comprehension}{scope:Scope}{pos:Pos}{l:Nat}{env:Env}(hk:env.scope.kind=.function)(hn:env.scope.names=nm):
  swapsWith (.ListComp elt gens scope pos) (some (.Name id p)) l env=pure (compLine nm id p scope pos):=by
 unfold swapsWith compLine
 show (pure (env.blockKind==.function&&env.kindOf id==some .local&&p.line==pos.line&&_):Sem Bool)=_
 have:env.blockKind=.function:=by unfold Env.blockKind;rw [hk];rfl
 rw [this,←hn]
 rfl
theorem snd_assignComp {elt cond it:ME}{x y:String}{e' iter:PySem.Expr}{id idy:Str}{px py:Pos}{ifs:List PySem.Expr}{scope:Scope}{pos spos:Pos}(hy:isTarget nm y idy=true)(hid:strEq id (Str.ofString x)=true)(hok:compOk nm x scope=true)(hset:notSet iter=true)
  (hit:SndE W Δ n nm it iter) (hc:SndIfs W Δ n (relabN nm scope.names) cond ifs) (he:SndE W Δ n (relabN nm scope.names) elt e'):SndS W Δ n nm (.assign y (.comp elt x it cond)) (.Assign [.Name idy py] (.ListComp e' [⟨.Name id px,iter,ifs,0⟩] scope pos) spos):=by
 cases hl:compLine nm idy py scope pos with
 |false=>exact assign_any (fun env h1 h2=>(swaps_of h1 h2).trans (by rw [hl])) hy (snd_comp hid hok hset hit hc he)
 |true=>
  intro hd A outer env ρ Ψ H s N R X C Rl S h
  obtain ⟨rfl,h⟩:=h
  rw [exec_Assign_Name_used _ _ _ _ ((swaps_of Rl.kind C.names).trans (by rw [hl]))]
  refine wpAny_bind (wpAny_standAt (wpAny_bind ?_))
  show wpAny _ A (do let _←comprehension (.ListComp e' [⟨.Name id px,iter,ifs,0⟩] scope pos) scope env _ (newList []) false (eval iter env) (some (assign (.Name idy py) env))) _ _ s
  obtain ⟨hkind,hnames,_⟩:=comp_names hok
  have hcl:closureFor scope env=pure (clos env.cells scope.names []):=by
   have hok':=hok
   rw [←C.names] at hok'
   exact closure_eq (compPlace Rl S hok').1
  refine wpAny_bind (wpAny_mono (wpAny_comprehension_free (use:=some (assign (.Name idy py) env)) (Q:=fun _ s'=>PostS W (env::outer) env Ψ N R .next s') rfl (fun v=>notSet_folded hset v) hcl hkind hnames ?_) (fun _ s' hq=>wpAny_pure (wpAny_pure hq)) fun _ _ e=>e)
  refine wpAny_mono (monoE (hit C Rl S h) fun Ψ₁ H₁ src sv s₁ S₁ K₁ va h₁=>?_) (fun _ _ x=>x) fun _ _ x=>x.toY Rl (.refl _ _)
  obtain ⟨vs,hvs,h₁⟩:=h₁
  refine comp_body (RR:=fun acc C'=>compPost W.M A (PostY W (env::outer) env Ψ X) (some (assign (.Name idy py) env)) (fun _ s'=>PostS W (env::outer) env Ψ N R .next s') acc C') hid hok hc he C (Rl.keep K₁) S₁ va hvs h₁ fun D C' Ψ' H' s' S' K' hC hm hne q=>?_
  obtain ⟨m,hm⟩:=hm
  have R₁:=Rl.keep K₁
  refine wpAny_assign_Name (storeVar C.names (R₁.keep K') S' hy .ref fun Ψ₂ s₂ S₂ K₂ R₂=>?_)
  have hm₂:Ψ₂ C'=some (.ns m):=K₂.slot _ _ hm rfl fun z=>(slot_kind R₁ z).elim fun k e=>nn hC e.1
  obtain ⟨o,ho,ents,k,hd,hs,hf⟩:=S₂.typed _ _ hm₂
  refine ⟨nsFind ents,⟨o,ents,k,ho,hd,hs,fun _=>rfl⟩,fun h' hsb=>?_⟩
  have S₃:=S₂.forget (s':={s₂ with heap:=h'}) hm₂ rfl (frames_ne S₁ hC) hsb.extBut rfl rfl
  have K12:Keep (ownOf env) Ψ₁ Ψ₂:=K'.of_none.trans (K₂.weaken fun a ha=>slot_own ha)
  have K13:Keep (ownOf env) Ψ₁ (Ψ₂.del C'):=⟨fun b k e f=>(Psi.del_ne _ (ne_of_none hC e)).trans (K12.fix b k e f),fun b k e f g=>(Psi.del_ne _ (ne_of_none hC e)).trans (K12.slot b k e f g),
   fun b m e=>(K12.ns b m e).imp fun _ q=>(Psi.del_ne _ (ne_of_none hC e)).trans q,fun b m e=>(K12.cell b m e).imp fun _ q=>(Psi.del_ne _ (ne_of_none hC e)).trans q⟩
  have ownNe:∀ a,ownOf env a→a≠C':=fun a ha z=>(own_kind R₁ ha).elim fun k e=>nn hC (z▸e.1)
  refine ⟨Ψ₂.del C',H',_,S₃,K₁.of_none.trans K13,?_,q⟩
  exact ⟨R₂.kind,R₂.glob,R₂.blt,R₂.loc.imp fun m' z=>⟨(Psi.del_ne _ (ownNe _ (.inl rfl))).trans z.1,z.2⟩,fun y u hy hu=>(R₂.val y u hy hu).imp fun c z=>⟨z.1,Psi.del_sort hm₂ z.2 ne12⟩,fun y hy=>(R₂.cel y hy).imp fun c z=>z.imp fun w z=>⟨z.1,Psi.del_sort hm₂ z.2 ne12⟩,R₂.apart⟩
noncomputable def veBm:List Value:=[.type "ValueError",.type "Exception",.type "BaseException",.type "object"]
noncomputable def raiseOk (ca:String→Addr)(K:PySem.W.Frag)(c:String):Bool:=excNames.contains c&&(PySem.W.nsIn K mainGlobals (Str.ofString c)==some (some (.ref (ca c))))&&PySem.W.excIn K (ca c) veBm "ValueError.__new__"
theorem Fly.new {fs:List Env}{e:Addr}{c:String}{h':Heap}{args:List Value}(S:St W fs Ψ H s)(hc:excNames.contains c=true)(hm:Heap.MadeExcOf s.heap h' e (.ref (W.ca c)) args):Fly W fs Ψ e c h':=by
 let ls:=fs.filterMap (·.frame)
 have hls:∀ a∈ls,∃ m,Ψ a=some (.ns m):=fun a ha=>by
  obtain ⟨e',he',hf⟩:=List.mem_filterMap.mp ha
  obtain ⟨_,L,m,h1,h2⟩:=S.frames e' he'
  rw [hf] at h1;cases h1;exact ⟨m,h2⟩
 have hB:(PySem.W.hideAll s.heap ls).StaysIn h':=fun b o e=>hm.keeps b o (PySem.W.of_hideAll _ e)
 refine ⟨hc,PySem.W.hideAll s.heap ls,fun b o e=>PySem.W.hideAll_get _ (S.base b o e) fun q=>?_,hB,?_,fun a k e hk=>?_,?_,.inr (.inr ?_)⟩
 ·obtain ⟨m,hm'⟩:=hls b q
  have:=S.fresh b _ hm' fun vs z=>by cases z
  rw [this] at e;cases e
 ·cases q:(PySem.W.hideAll s.heap ls).get? e with
  |none=>rfl
  |some o=>have:=PySem.W.of_hideAll _ q;rw [hm.new] at this;cases this
 ·obtain ⟨o,ho,_⟩:=S.typed a k e
  exact ⟨o,PySem.W.hideAll_get _ ho fun q=>by obtain ⟨m,hm'⟩:=hls a q;rw [e] at hm';cases hm';exact hk _ rfl⟩
 ·suffices ∀ l:List Env,(∀ e∈l,e∈fs)→h'.FunFrames (PySem.W.hideAll s.heap ls) l from this fs fun _ h=>h
  intro l
  induction l with
  |nil=>intro _;trivial
  |cons a l ih=>
   intro hl
   have ha:=hl a (by simp)
   obtain ⟨p,L,m,h1,h2⟩:=S.frames a ha
   obtain ⟨o,ho,ents,k,hd,_⟩:=S.typed _ _ h2
   exact ⟨p,⟨L,o,h1,PySem.W.hideAll_none _ (List.mem_filterMap.mpr ⟨a,ha,h1⟩),hm.keeps _ _ ho,fun vs q=>by rw [hd] at q;cases q⟩,ih fun e he=>hl e (by simp [he])⟩
 ·obtain ⟨t,h1,_⟩:=hm.there
  exact ⟨_,_,.ref t,h1,rfl,rfl,rfl,rfl⟩
theorem snd_raise {c msg:String}{id m:Str}{k:Nat}{np p cpos pos:Pos}(F:Facts W K)(hx:isGlob nm c id=true)(hok:raiseOk W.ca K c=true):
  SndS W Δ n nm (.raise c msg) (.Raise (some (.Call (.Name id np) [.Constant (.str m) k p] [] cpos)) none pos):=by
 intro hd A outer env ρ Ψ H s N R X C Rl S h
 obtain ⟨rfl,h⟩:=h
 obtain ⟨hok,r3⟩:=and_of hok
 obtain ⟨r1,r2⟩:=and_of hok
 replace r2:=eq_of_beq r2
 obtain ⟨pp,loose,mg,mb,T⟩:=F.top
 obtain ⟨bm,N',nm',qn,bs,hdct,sn,sub,ab,col,dd,k0,k1,k2,k3,k5,mN,hC,hN,hni,TL⟩:=(PySem.W.own_of_in F.inn T r2 r3).obj
 refine wpAny_Raise_call_subU (nm:=nm') (q:=qn) (C:=W.ca c) (N:=N') (bs:=bs) (bm:=bm) (hdct:=hdct) (sn:=sn) (sub:=sub) (ab:=ab) (col:=col) (dd:=dd) (k0:=k0) (k1:=k1) (k2:=k2) (k3:=k3) (k5:=k5) (mN:=mN) PySem.F.excBase_ValueError (bmB:=veBm) (by decide) PySem.F.excBase_ValueError (TL.hasType (by decide)) (C.hand rfl) rfl hni ?_
 refine loadGlob F C Rl S hx r2 ⟨rfl,?_⟩
 refine Calls.evalArgs_plain (Calls.spliced_cons (Calls.Constant_str (k:=k) (pos:=p) (Calls.spliced_nil ?_)))
 have S':=S.toks (s.toks+1)
 refine ⟨rfl,by simp [sizeLine],S.base _ _ hC,hN.keeps S.base,TL.keeps S.base,fun h' e hm=>?_⟩
 refine ⟨e,c,Ψ,H,ρ,rfl,Fly.new S' r1 hm,S'.of_all (s':={s with heap:=h',toks:=s.toks+1}) hm.keeps rfl rfl,.refl _ _,Rl,h⟩
end
end Mine
end
section
namespace Mine
open PySem
theorem nof {P:Prop}(h:false=true):P:=by cases h
theorem bl {a b:Bool}(h:(a&&b)=true):a=true:=(Bool.and_eq_true_iff.mp h).1
theorem br {a b:Bool}(h:(a&&b)=true):b=true:=(Bool.and_eq_true_iff.mp h).2
theorem bany {α:Type}{o:Option α}{f:α→Bool}(h:o.any f=true):∃ a,o=some a∧f a=true:=by
 cases o with
 |none=>cases h
 |some a=>exact ⟨a,rfl,h⟩
theorem dno {c:Prop} [Decidable c] {f:c→Bool} (h:(if q:c then f q else false)=true):c:=by
 by_cases q:c
 ·exact q
 ·rw [dif_neg q] at h;cases h
noncomputable def isName (x:PySem.Expr)(f:Str→Pos→Bool):Bool:=if h:x.ctorIdx=23 then PySem.Expr.Name.elim (motive_1:=fun _=>Bool) x h f else false
@[elab_as_elim] theorem isName_of {P:PySem.Expr→Prop}{x:PySem.Expr}{f:Str→Pos→Bool}(h:isName x f=true)(k:∀ a0 a1,f a0 a1=true→P (.Name a0 a1)):P x:=PySem.Expr.Name.elim (motive_1:=fun x=>isName x f=true→P x) x (dno h) k h
end Mine
end
section
namespace Mine
open PySem
section
variable {W:Amb}{K:PySem.W.Frag}{Δ:CallT}{n:Nat}{nm:Names}{fs:List Env}{Ψ Ψ₀ Ψ':Psi}{H:MH}{s s':Shared}{A:Around}{E:Value→Shared→Prop}{env:Env}{outer:List Env}
theorem setItem_exact {l:Addr}{items:Array Value}{e:Nat}{k:Int}{t:Tok}{v:Value}{Q:Unit→Shared→Prop}{prog:Program}{w:World}(ho:s.heap.get? l=some {cls:=.type "list",dict:=none,data:=.seq items e,slots:=#[]})
  (h0:0≤k) (hfit:k<2^63) (hn:k<items.size)
  (hQ:∀ h' e',h'.get? l=some {cls:=.type "list",dict:=none,data:=.seq (items.setIfInBounds k.toNat v) e',slots:=#[]}→Heap.SameBut l s.heap h'→Q () {s with heap:=h'}):
  wpAny (model prog w) A (setItem (.ref l) (.int k t) v) Q E s:=by
 have hl:s.heap.IsList l items:=⟨_,ho,rfl,e,rfl⟩
 have hd:({cls:=.type "list",dict:=none,data:=.seq items e,slots:=#[]}:Obj).data=.seq items e:=rfl
 unfold setItem
 try with_reducible refine wpAny_holding ?_
 first|refine wpAny_bind (wpAny_pure ?_)|skip
 refine wpAny_bind (wpAny_sequenceKey hl.typeIs (by decide) ?_)
 refine wpAny_bind (wpAny_callSpecial?_slot (name:=Str.ofString "__setitem__") hl.typeIs slot_list_setitem (wpAny_call_entry slot_list_setitem hl.typeIs entry_list_setitem ?_ (args_list_setitem _ _ _)))
 show wpAny _ _ (Builtin.List.listSubscript? (.int k t)>>=_) _ _ s
 refine wpAny_bind (wpAny_listSubscript_int (fitsIndex_of h0 hfit) ?_)
 obtain ⟨j,rfl⟩:=Int.eq_ofNat_of_zero_le h0
 have hj:j<items.size:=by lia
 have hx':items[j]? =some items[j]:=Array.getElem?_eq_getElem hj
 show wpAny _ _ ((seqItemAt l j>>=fun r=>pure (r.map (j,·)))>>=_) _ _ s
 refine wpAny_bind (wpAny_bind (wpAny_seqItemAt ho hd (wpAny_pure ?_)))
 rw [hx']
 show wpAny _ _ (setSeqItemAt l j v>>=_) _ _ s
 have hfin:∃ e',(s.heap.update l (Obj.mapSeq (·.setIfInBounds j v))).get? l=some {cls:=.type "list",dict:=none,data:=.seq (items.setIfInBounds j v) e',slots:=#[]}:=
  ⟨_,by rw [Heap.get?_update_self _ ho rfl];rfl⟩
 obtain ⟨e',hfin⟩:=hfin
 refine wpAny_bind (wpAny_setSeqItemAt ho hd ?_)
 first
  |exact wpAny_bind (wpAny_pure (wpAny_pure ⟨.none,rfl,wpAny_pure (hQ _ e' hfin (Heap.SameBut.update ..))⟩))
  |exact wpAny_pure ⟨.none,rfl,wpAny_pure (hQ _ e' hfin (Heap.SameBut.update ..))⟩
theorem op_setidx {o i v:Value}{mo mi mx:MV}{Q:MH→Prop}{QQ:Unit→Shared→Prop}(S:St W fs Ψ H s)(ho:VRel Ψ o mo)(hi:VRel Ψ i mi)(hx:VRel Ψ v mx)(h:SetIdxR H Q mo mi mx)
  (hq:∀ Ψ' H' s',St W fs Ψ' H' s'→Keep none_ Ψ Ψ'→Q H'→QQ () s'):wpAny W.M A (setItem o i v) QQ E s:=by
 cases h with
 | @lst a l k x hl h0 h1 q=>
  obtain rfl:=vref ho
  obtain ⟨t,rfl⟩:=vint hi
  obtain ⟨items,e,h2,r,z,b⟩:=S.lst hl
  have kb:k<2^63:=by unfold bigList at b;lia
  refine setItem_exact h2 h0 kb (by rw [z];exact h1) fun h' e' ho' hs'=>?_
  obtain ⟨S',K'⟩:=set_list (tk:=s.toks) S hl (l':=l.set k.toNat mx) (items:=items.setIfInBounds k.toNat v) (by rw [Array.toList_setIfInBounds];exact r.set _ hx) (by rw [List.length_set];exact b) hs' ho'
  exact hq _ _ _ S' K' q
 | @dct a es k x he hl q=>
  obtain rfl:=vref ho
  obtain ⟨t,rfl⟩:=vint hi
  obtain ⟨kvs,hd,r,_⟩:=S.dct he
  refine wpAny_setItem_pairs (k:=k) (knd:=intKind W.prog W.w) intKey hd (fun h' hd' hs'=>?_) (by rw [r.length_eq];unfold bigList at hl;unfold sizeLine;lia)
  obtain ⟨S',K'⟩:=set_dict (tk:=s.toks+1) S he (stored_rel hx r) hs' hd'
  exact hq _ _ _ S' K' q
theorem swaps_subs {value o i:PySem.Expr}{p:Pos}{l:Nat}{env:Env}:swapsWith value (some (.Subscript o i p)) l env=pure false:=by cases value<;>rfl
theorem snd_setIdx {e i v:ME}{x y z:PySem.Expr}{p pos:Pos}(he:SndE W Δ n nm e x)(hi:SndE W Δ n nm i y)(hv:SndE W Δ n nm v z):SndS W Δ n nm (.setIdx e i v) (.Assign [.Subscript x y p] z pos):=by
 intro hd A outer env ρ Ψ H s N R X C Rl S h
 refine wpAny_Assign_Subscript (wpAny_mono (monoE (hv C Rl S h) fun Ψ₁ H₁ mv w s₁ S₁ K₁ va h₁=>?_) (fun _ _ x=>x) fun _ _ x=>x.toY Rl (.refl _ _)) swaps_subs
 refine wpAny_mono (monoE (he C (Rl.keep K₁) S₁ h₁) fun Ψ₂ H₂ mo o s₂ S₂ K₂ vo h₂=>?_) (fun _ _ x=>x) fun _ _ x=>x.toY (Rl.keep K₁) K₁.of_none
 have K12:=K₁.trans K₂
 refine wpAny_mono (monoE (hi C (Rl.keep K12) S₂ h₂) fun Ψ₃ H₃ mi j s₃ S₃ K₃ vi h₃=>?_) (fun _ _ x=>x) fun _ _ x=>x.toY (Rl.keep K12) K12.of_none
 refine op_setidx S₃ (vo.mono K₃.fix) vi (va.mono (K₂.trans K₃).fix) h₃ fun Ψ₄ H₄ s₄ S₄ K₄ h₄=>?_
 have K14:=(K12.trans K₃).trans K₄
 exact ⟨Ψ₄,H₄,ρ,S₄,K14.of_none,Rl.keep K14,h₄⟩
noncomputable def okTargets (nm:Names):List String→List PySem.Expr→Bool
 | [],es=>es.isEmpty
 |x::xs,es=>match es with
  | []=>false
  |e::es=>isName e (fun i _=>isTarget nm x i)&&okTargets nm xs es
theorem targets_len {xs:List String}:∀{es:List PySem.Expr},okTargets nm xs es=true→es.length=xs.length∧∀ env,(assignEach es env).length=xs.length∧(assignEach es env).findIdx? (·.1)=none:=by
 induction xs with
 |nil=>intro es h;cases es with
  |nil=>exact ⟨rfl,fun _=>⟨rfl,rfl⟩⟩
  |cons e es=>exact nof h
 |cons x xs ih=>intro es h;cases es with
  |nil=>exact nof h
  |cons e es=>
   obtain ⟨k1,k2⟩:=ih (br h)
   refine isName_of (bl h) fun id p h1=>⟨by rw [List.length_cons,k1];rfl,fun env=>⟨?_,?_⟩⟩
   ·show (assignEach es env).length+1=_
    rw [(k2 env).1];rfl
   ·show List.findIdx? _ ((false,assign (.Name id p) env)::assignEach es env)=none
    rw [List.findIdx?_cons,(k2 env).2];rfl
theorem bind_len {xs:List String}{vs:List MV}{ρ ρ':Sto}(h:BindR xs vs ρ ρ'):xs.length=vs.length:=by
 induction h with
 |nil=>rfl
 |cons _ ih=>exact congrArg Nat.succ ih
theorem assign_all {xs:List String}{vs:List MV}{ρ ρ':Sto}(hn:env.scope.names=nm)(hb:BindR xs vs ρ ρ'):∀{es:List PySem.Expr} {items:List Value} {Ψ:Psi} {s:Shared} {QQ:Unit→Shared→Prop},okTargets nm xs es=true→All2 (VRel Ψ) items vs→EnvRel Ψ env ρ→St W fs Ψ H s→
  (∀ Ψ' s',St W fs Ψ' H s'→Keep (ownOf env) Ψ Ψ'→EnvRel Ψ' env ρ'→QQ () s')→wpAny W.M A (assignInOrder ((assignEach es env).map (·.2)) items) QQ E s:=by
 induction hb with
 |nil=>
  intro es items Ψ s QQ ho r R S h
  cases es with
  |cons e es=>exact nof ho
  |nil=>cases r;exact wpAny_pure (h Ψ s S (.refl _ _) R)
 | @cons x xs v vs ρ ρ' _ ih=>
  intro es items Ψ s QQ ho r R S h
  cases es with
  |nil=>exact nof ho
  |cons e es=>
   refine isName_of (bl ho) fun id p h1=>?_
   cases r with
   | @cons v' u vs' us hu r=>
    refine wpAny_bind (wpAny_holding (wpAny_assign_Name (storeVar hn R S h1 hu fun Ψ' s' S' K' R'=>?_)))
    exact ih (br ho) (r.mono fun _ _=>VRel.mono K'.fix) R' S' fun Ψ'' s'' S'' K'' R''=>h Ψ'' s'' S'' ((K'.weaken fun a ha=>slot_own ha).trans K'') R''
noncomputable def plainIts:List String:=["list_iterator","tuple_iterator","range_iterator","str_ascii_iterator","str_iterator"]
theorem plain_its:(plainIts.all fun c=>!(["enumerate","zip","dict_itemiterator","dict_reverseitemiterator","odict_iterator","itertools.zip_longest","itertools.pairwise"].contains c))=true:=by decide
theorem plainIt_mem {c:String}(h:plainIt c=true):c∈plainIts:=by
 unfold plainIt at h
 rcases Bool.or_eq_true_iff.mp h with h|h
 ·rcases Bool.or_eq_true_iff.mp h with h|h
  ·rcases Bool.or_eq_true_iff.mp h with h|h
   ·rcases Bool.or_eq_true_iff.mp h with h|h
    ·rw [eq_of_beq h];exact .head _
    ·rw [eq_of_beq h];exact .tail _ (.head _)
   ·rw [eq_of_beq h];exact .tail _ (.tail _ (.head _))
  ·rw [eq_of_beq h];exact .tail _ (.tail _ (.tail _ (.head _)))
 ·rw [eq_of_beq h];exact .tail _ (.tail _ (.tail _ (.tail _ (.head _))))
theorem tgt_tuple {xs:List String}{es:List PySem.Expr}{k:Nat}{p:Pos}(ht:okTargets nm xs es=true):SndTgt W nm (fun v ρ ρ'=>∃ vs,v=.tup vs∧BindR xs vs ρ ρ') (.Tuple es k p):=by
 intro A fs env ρ ρ' Ψ H s v mv it E QQ hh hn R S hv hf hit h
 obtain ⟨ia,o,c,dv,rfl,ho,hc,hd,hp⟩:=hit
 obtain ⟨vs,rfl,hf⟩:=hf
 obtain ⟨a,rfl,ha⟩:=vtup hv
 obtain ⟨items,htup,r,z,_⟩:=tup_at S ha
 unfold letOwnedTupleGo
 refine wpAny_bind (wpAny_load ho ?_)
 rw [hc,hd]
 dsimp only
 rw [not_of (List.all_eq_true.mp plain_its c (plainIt_mem hp)),Bool.false_and,if_neg (by decide)]
 refine wpAny_pure ?_
 obtain ⟨l1,l2⟩:=targets_len ht
 refine PyProof.Rows.assign_Tuple_tuple hh htup (by rw [(l2 env).1,bind_len hf,z]) (l2 env).2 fun h' hx=>?_
 exact assign_all hn hf ht r R (S.of_extBut S.none_at S.base_at hx rfl rfl) h
theorem snd_unpack {xs:List String}{e:ME}{es:List PySem.Expr}{k:Nat}{p pos:Pos}{v:Str}{vp:Pos}(ht:okTargets nm xs es=true)(he:SndE W Δ n nm e (.Name v vp)):SndS W Δ n nm (.unpack xs e) (.Assign [.Tuple es k p] (.Name v vp) pos):=by
 intro hd A outer env ρ Ψ H s N R X C Rl S h
 obtain ⟨rfl,h⟩:=h
 refine PyProof.Rows.Assign_Tuple (wpAny_mono (monoE (he C Rl S h) fun Ψ₁ H₁ mv v s₁ S₁ K₁ va h₁=>?_) (fun _ _ x=>x) fun _ _ x=>x.toY Rl (.refl _ _))
 obtain ⟨vs,ρ',rfl,hf,h₁⟩:=h₁
 obtain ⟨a,rfl,ha⟩:=vtup va
 obtain ⟨items,htup,r,z,_⟩:=tup_at S₁ ha
 obtain ⟨l1,l2⟩:=targets_len ht
 refine PyProof.Rows.assign_Tuple_tuple (C.hand rfl) htup (by rw [(l2 env).1,bind_len hf,z]) (l2 env).2 fun h' hx=>?_
 refine assign_all C.names hf ht r (Rl.keep K₁) (S₁.of_extBut S₁.none_at S₁.base_at hx rfl rfl) fun Ψ₂ s₂ S₂ K₂ R₂=>?_
 exact ⟨Ψ₂,H₁,ρ',S₂,K₁.of_none.trans K₂,R₂,h₁⟩
theorem snd_forT {xs:List String}{it:ME}{b:MSs}{es:List PySem.Expr}{k:Nat}{p:Pos}{t:PySem.Expr}{ys:List Stmt}{pos:Pos}(ht:okTargets nm xs es=true)(hset:notSet t=true)(hit:SndE W Δ n nm it t)(hb:SndSs W Δ n nm b ys):SndS W Δ n nm (.forT xs it b) (.For (.Tuple es k p) t ys [] pos):=by
 intro hd A outer env ρ Ψ H s N R X C Rl S h
 obtain ⟨rfl,h⟩:=h
 exact for_core (f:=fun v ρ ρ'=>∃ vs,v=.tup vs∧BindR xs vs ρ ρ') hset (tgt_tuple ht) hit hb (fun v ρ H k ⟨vs,ρ',a,b,c⟩=>⟨ρ',⟨vs,a,b⟩,c⟩) C Rl S h
end
end Mine
end
section
namespace Mine
open PySem
section
variable {W:Amb}{K:PySem.W.Frag}{Δ:CallT}{n:Nat}{nm:Names}{fs:List Env}{Ψ Ψ₀ Ψ':Psi}{H:MH}{s s':Shared}{A:Around}{E:Value→Shared→Prop}{env:Env}{outer:List Env}
theorem del_of {ρ:Sto}{x y:String}{v:MV}(h:ρ.del x y=some v):y≠x∧ρ y=some v:=by
 unfold Sto.del at h
 by_cases q:y=x
 ·rw [if_pos q] at h;cases h
 ·exact ⟨q,(if_neg q).symm.trans h⟩
theorem delVar {ρ:Sto}{x:String}{mv:MV}{QQ:Unit→Shared→Prop}(hk:env.kindOf (Str.ofString x)=some .local)(hx0:x≠".0")(R:EnvRel Ψ env ρ)(S:St W fs Ψ H s)(hv:ρ x=some mv)
  (h:∀ Ψ' s',St W fs Ψ' H s'→Keep (ownOf env) Ψ Ψ'→EnvRel Ψ' env (ρ.del x)→QQ () s'):wpAny W.M A (unbindName env (Str.ofString x)) QQ E s:=by
 obtain ⟨m,hL,hm⟩:=R.loc
 obtain ⟨o,ho,ents,k,hd,hs,hf⟩:=S.typed _ _ hL
 obtain ⟨w,hw,_⟩:=hf x mv (hm x mv hx0 hk hv)
 refine wpAny_unbindName_local hk (m:=nsFind ents) ⟨o,ents,k,ho,hd,hs,fun _=>rfl⟩ hw (by rw [R.kind];rfl) fun h' u hn hsb=>?_
 obtain ⟨o',ents',k',ho',hd',hs',hf'⟩:=hn
 have F:Fix Ψ (Ψ.set env.locals (.ns (m.del x))):=.set_turn _ hL rfl
 refine h (Ψ.set env.locals (.ns (m.del x))) _ (S.turned (s':={s with heap:=h'}) (k:=.ns (m.del x)) hL rfl (fun m' q=>⟨_,rfl⟩) ⟨ents',k',hd',hs',fun y z hy=>?_⟩ hsb ho' (heap_slot S hL rfl) rfl rfl fun _ q=>HK.noConfusion q)
  (Keep.set_own hL rfl (.inl rfl) (fun _ _=>⟨_,rfl⟩) (fun _ q=>by cases q)) ?_
 ·obtain ⟨q,hy⟩:=del_of hy
  exact (hf y z hy).imp fun w' e=>⟨(hf' _).trans ((if_neg fun z=>q (ofString_inj z)).trans e.1),e.2.mono F⟩
 ·exact ⟨R.kind,R.glob,R.blt,⟨m.del x,Psi.set_self _ _ _,fun y w h0 hy hw=>(if_neg (del_of hw).1).trans (hm y w h0 hy (del_of hw).2)⟩,fun y w hy hw=>(R.val y w hy (del_of hw).2).imp fun c e=>⟨e.1,Psi.set_sort hL e.2 ne12⟩,fun n' hn'=>(R.cel n' hn').imp fun c e=>e.imp fun w e=>⟨e.1,Psi.set_sort hL e.2 ne12⟩,R.apart⟩
theorem St.adopt {e:Addr}{c:String}{oe:Obj}{vs:Array Value}(S:St W fs Ψ H s)(hn:Ψ e=none)(h0:W.h₀.get? e=none)(hc:excNames.contains c=true)(he:s.heap.get? e=some oe)(hcl:oe.cls=.ref (W.ca c))(hd:oe.data=.fields vs):
  St W fs (Ψ.set e (.exc c)) H s∧Keep none_ Ψ (Ψ.set e (.exc c)):=by
 refine ⟨⟨fun a k q=>?_,fun a k q hx=>?_,fun a x q=>(S.heap a x q).keepN fun _ _=>Psi.set_up hn,S.base,fun e' he'=>?_,S.gens,S.os,fun a es q=>?_⟩,.set_new _ hn⟩
 ·rcases Psi.set_inv q with ⟨rfl,rfl⟩|⟨_,q⟩
  ·exact ⟨oe,he,hc,hcl,vs,hd⟩
  ·exact (S.typed a k q).imp fun o z=>⟨z.1,z.2.mono (.set_new _ hn)⟩
 ·rcases Psi.set_inv q with ⟨rfl,rfl⟩|⟨_,q⟩
  ·exact h0
  ·exact S.fresh a k q hx
 ·obtain ⟨a,L,m,b,d⟩:=S.frames e' he';exact ⟨a,L,m,b,Psi.set_up hn d⟩
 ·rcases Psi.set_inv q with ⟨_,z⟩|⟨_,q⟩
  ·exact HK.noConfusion z
  ·exact S.dsys a es q
noncomputable def tryOk (ca:String→Addr)(K:PySem.W.Frag):Bool:=(PySem.W.nsIn K mainGlobals (Str.ofString "SeatError")==some (some (.ref (ca "SeatError"))))&&(PySem.W.instIn K (.ref (ca "SeatError")) (.type "tuple")==some false)&&(PySem.W.clsIn K (ca "SeatError")).isSome&&
 (PySem.W.mroIn K (ca "SeatError") (.type "BaseException")==some true)&&excNames.all fun c=>PySem.W.mroIn K (ca c) (.ref (ca "SeatError"))==some true
open PySem.W in
theorem exc_matches {e:Addr}{c:String}{Q:Bool→Shared→Prop}(hok:tryOk W.ca K=true)(hc:excNames.contains c=true)(Y:K.In s.heap)(I:ExcLike s.heap e (W.ca c))(h:Q true s):wpAny W.M A (excMatches (.ref e) (.ref (W.ca "SeatError"))) Q E s:=by
 obtain ⟨hok,h4⟩:=and_of hok
 obtain ⟨hok,h3⟩:=and_of hok
 obtain ⟨hok,h2⟩:=and_of hok
 obtain ⟨_,h1⟩:=and_of hok
 have L1:=looks_instIn (M:=W.M) Y (eq_of_beq h1)
 have L2:=looks_cls (M:=W.M) Y h2
 have L3:=looks_mroIn (M:=W.M) Y (eq_of_beq h3)
 have L4:=looks_mroIn (M:=W.M) Y (eq_of_beq (List.all_eq_true.mp h4 c (List.contains_iff_mem.mp hc)))
 have L5:=I.type (M:=W.M)
 unfold excMatches
 refine wpAny_bind (L1.here ?_)
 simp only [Bool.false_eq_true,if_false]
 refine wpAny_bind (wpAny_pure ?_)
 simp only [List.forIn_cons,List.forIn_nil]
 unfold isExcClass
 refine wpAny_bind (wpAny_bind (wpAny_bind (wpAny_bind (L2.here ?_))))
 simp only [if_true]
 refine L3.here ?_
 simp only [Bool.not_true,Bool.false_eq_true,if_false]
 refine wpAny_pure (wpAny_pure (wpAny_bind (L5.here ?_)))
 refine wpAny_bind (wpAny_bind (wpAny_bind (L4.here ?_)))
 simp only [if_true]
 exact wpAny_pure (wpAny_pure (wpAny_pure h))
end
end Mine
end
section
namespace Mine
open PySem
section
variable {W:Amb}{K:PySem.W.Frag}{Δ:CallT}{n:Nat}{nm:Names}{fs:List Env}{Ψ Ψ₀ Ψ':Psi}{H:MH}{s s':Shared}{A:Around}{E:Value→Shared→Prop}{env:Env}{outer:List Env}
noncomputable def isLocal (nm:Names)(x:String)(id:Str):Bool:=strEq id (Str.ofString x)&&(nm.lookup id==some .local)&& !(x==".0")
theorem local_target {x:String}{id:Str}(h:isLocal nm x id=true):isTarget nm x id=true:=by
 obtain ⟨h1,h2⟩:=and_of (and_of h).1
 unfold isTarget
 rw [h1,eq_of_beq h2];rfl
theorem snd_try {b h:MSs}{x:String}{body suite:List Stmt}{st:Stmt}{idE id:Str}{np hpos pos:Pos}(F:Facts W K)(hE:isGlob nm "SeatError" idE=true)(hok:tryOk W.ca K=true)(hx:isLocal nm x id=true)
  (hb:SndSs W Δ n nm b body) (hh:SndSs W Δ n nm h (st::suite)):SndS W Δ n nm (.try_ b x h) (.Try body [.ExceptHandler (some (.Name idE np)) (some id) (st::suite) hpos] [] [] pos):=by
 intro hd A outer env ρ Ψ H s N R X C Rl S z
 obtain ⟨rfl,z⟩:=z
 have hT:=local_target hx
 obtain ⟨hx,hx3⟩:=and_of hx
 obtain ⟨hx1,hx2⟩:=and_of hx
 obtain rfl:=strEq_eq hx1
 have hloc:env.kindOf (Str.ofString x)=some .local:=by unfold Env.kindOf;rw [C.names];exact eq_of_beq hx2
 have hx0:x≠".0":=beq_eq_false_iff_ne.mp (not_of hx3)
 refine wpAny_Try_except (wpAny_mono (hb C Rl S z) (fun f s₁ h₁=>?_) fun e s₁ h₁=>?_)
 ·cases f with
  |next=>exact wpAny_execs_nil h₁
  |ret v=>exact h₁
  |_=>exact h₁.elim
 ·obtain ⟨ea,c,Ψ₁,H₁,ρ₁,rfl,Fl,S₁,K₁,R₁,h₁⟩:=h₁
  refine noted C.frames Fl S₁ fun s₂ Hd S₂=>landed Hd S₂ fun s₃ _ Tr S₃=>?_
  obtain ⟨B,a0,hB0,hBs,hBe,hBk,hBf,hTr⟩:=Tr
  have hcn:=Hd.1
  have hee:∀{h:Heap},h.TracedAtW B ea (.ref (W.ca c)) a0 .none→∃ oe vs,h.get? ea=some oe∧oe.cls=.ref (W.ca c)∧oe.data=.fields vs:=fun hh=>by
   obtain ⟨oe,vs,T,oT,ts,he,⟨hcls,_⟩,hd,_⟩:=hh
   exact ⟨oe,vs,he,hcls,hd⟩
  have Cm:Cx n true (A.mark (some (.ref ea))) (env::outer) env nm:=⟨C.frames,C.top,C.names,fun q=>(by cases q),C.depth,C.units⟩
  refine wpAny_handleBy_cons (codeAny_handlers_test (loadGlob F Cm R₁ S₃ hE (eq_of_beq (and_of (and_of (and_of (and_of hok).1).1).1).1) ?_)) (by intro q;cases q)
  obtain ⟨oe,vs,he1,he2,he3⟩:=hee hTr
  refine exc_matches hok hcn (F.at S₃) ⟨oe,he1,he2⟩ ?_
  refine codeAny_handlers_suite_as ?_
  refine PyProof.Rows.lands_againW (l:=env::outer) (base:=B) ⟨hBs,hBe,hBf,hTr⟩ fun h₄ hfl₄ hu₄=>?_
  obtain ⟨k1,k2,k3,k4⟩:=hfl₄
  have S₄:St W (env::outer) Ψ₁ H₁ {s₃ with heap:=h₄}:=S₃.flown hBk hB0 hBs k1 hu₄ rfl rfl
  obtain ⟨oe,vs,he1,he2,he3⟩:=hee k4
  have hn:Ψ₁ ea=none:=by
   cases q:Ψ₁ ea with
   |none=>rfl
   |some k=>
    exfalso
    by_cases hk:∃ m,k=.ns m
    ·obtain ⟨m,rfl⟩:=hk
     obtain ⟨o,ho,ents,kk,hd,_⟩:=S₄.typed _ _ q
     have ho':h₄.get? ea=some o:=ho
     rw [he1] at ho';cases ho';rw [he3] at hd;cases hd
    ·obtain ⟨o,ho⟩:=hBk ea k q fun m z=>hk ⟨m,z⟩
     rw [hBe] at ho;cases ho
  have h0:W.h₀.get? ea=none:=by
   cases q:W.h₀.get? ea with
   |none=>rfl
   |some o=>have:=hB0 _ _ q;rw [hBe] at this;cases this
  obtain ⟨S₅,K₅⟩:=S₄.adopt hn h0 hcn he1 he2 he3
  refine storeVar C.names (R₁.keep K₅) S₅ hT (.exc (Psi.set_self _ _ _)) fun Ψ₆ s₆ S₆ K₆ R₆=>?_
  have K16:Keep (ownOf env) Ψ Ψ₆:=(K₁.trans K₅.of_none).trans (K₆.weaken fun a ha=>slot_own ha)
  have fin:∀{Ψ₇:Psi} {H₇:MH} {ρ₇:Sto} {s₇:Shared} {QQ:Unit→Shared→Prop} {E':Value→Shared→Prop},St W (env::outer) Ψ₇ H₇ s₇→EnvRel Ψ₇ env ρ₇→
    (∀ Ψ₈ s₈,St W (env::outer) Ψ₈ H₇ s₈→Keep (ownOf env) Ψ₇ Ψ₈→EnvRel Ψ₈ env (ρ₇.del x)→QQ () s₈)→wpAny W.M A (do bindName env (Str.ofString x) .none;unbindBehindTheSuite env (Str.ofString x) hpos) QQ E' s₇:=by
   intro Ψ₇ H₇ ρ₇ s₇ QQ E' S₇ R₇ hq
   refine wpAny_bind (wpAny_bindName (storeVar C.names R₇ S₇ hT VRel.none fun Ψ₈ s₈ S₈ K₈ R₈=>?_))
   unfold unbindBehindTheSuite
   refine wpAny_onRaise (delVar hloc hx0 R₈ S₈ (mv:=.none) (if_pos rfl) fun Ψ₉ s₉ S₉ K₉ R₉=>?_)
   have e:(ρ₇.set x .none).del x=ρ₇.del x:=by
    funext y;unfold Sto.del Sto.set
    by_cases q:y=x<;>simp [q]
   rw [e] at R₉
   exact hq Ψ₉ s₉ S₉ ((K₈.weaken fun a ha=>slot_own ha).trans K₉) R₉
  refine wpAny_mono (hh Cm R₆ S₆ h₁) (fun f s₇ h₇=>?_) fun e s₇ h₇=>?_
  ·cases f with
   |next=>
    obtain ⟨Ψ₇,H₇,ρ₇,S₇,K₇,R₇,h₇⟩:=h₇
    exact fin S₇ R₇ fun Ψ₈ s₈ S₈ K₈ R₈=>⟨Ψ₈,H₇,_,S₈,(K16.trans K₇).trans K₈,R₈,h₇⟩
   |ret v=>
    obtain ⟨Ψ₇,H₇,mv,S₇,K₇,⟨ρ₇,R₇⟩,v₇,h₇⟩:=h₇
    exact fin S₇ R₇ fun Ψ₈ s₈ S₈ K₈ R₈=>⟨Ψ₈,H₇,mv,S₈,(K16.trans K₇).trans K₈,⟨_,R₈⟩,v₇.mono K₈.fix,h₇⟩
   |_=>exact h₇.elim
  ·obtain ⟨_,_,_,_,_,_,_,_,_,_,q⟩:=h₇
   exact q.elim
end
end Mine
end
section
namespace Mine
open PySem
structure Tab where
 fns:List (String×Addr)
 meths:List (String×Addr)
 init:Addr
 bis:List String
 consts:List (String×MV)
 attrs:List String
 sets:List String
 isis:List String
 raises:List String
 tries:Bool
 mks:Bool
noncomputable def inS (x:String):List String→Bool
 | []=>false
 |y::r=>x==y||inS x r
noncomputable def lookS {α:Type}(x:String):List (String×α)→Option α
 | []=>none
 |(y,a)::r=>if x==y then some a else lookS x r
noncomputable def mvIs (a:MV)(b:MV):Bool:=match a with
 | .int i=>(match b with| .int j=>decide (i=j)|_=>false)
 | .str s=>(match b with| .str t=>strEq s t|_=>false)
 |_=>false
theorem mvIs_eq {a b:MV}(h:mvIs a b=true):a=b:=by
 cases a<;>first|exact nof h|skip
 all_goals cases b<;>first|exact nof h|skip
 ·rw [of_decide_eq_true h]
 ·rw [strEq_eq h]
noncomputable def opIs (a:BOp)(b:Operator):Bool:=decide (b=opOf a)
noncomputable def copIs (a:COp)(b:CmpOp):Bool:=decide (b=copOf a)
noncomputable def plainTest (x:PySem.Expr):Bool:=Nat.beq x.ctorIdx 23||Nat.beq x.ctorIdx 16||Nat.beq x.ctorIdx 19||Nat.beq x.ctorIdx 20||Nat.beq x.ctorIdx 21
theorem plainTest_is {x:PySem.Expr}(h:plainTest x=true):∀ env whole,isTrue x env whole=(do let v←whole;standAt x.pos;holding [v] (truthy v)):=by
 intro env whole
 cases x<;>first|rfl|exact nof h
noncomputable def isBool (x:PySem.Expr)(f:BoolOp→List PySem.Expr→Pos→Bool):Bool:=if h:x.ctorIdx=0 then PySem.Expr.BoolOp.elim (motive_1:=fun _=>Bool) x h f else false
@[elab_as_elim] theorem isBool_of {P:PySem.Expr→Prop}{x:PySem.Expr}{f:BoolOp→List PySem.Expr→Pos→Bool}(h:isBool x f=true)(k:∀ a0 a1 a2,f a0 a1 a2=true→P (.BoolOp a0 a1 a2)):P x:=PySem.Expr.BoolOp.elim (motive_1:=fun x=>isBool x f=true→P x) x (dno h) k h
noncomputable def isBin (x:PySem.Expr)(f:PySem.Expr→Operator→PySem.Expr→Pos→Bool):Bool:=if h:x.ctorIdx=2 then PySem.Expr.BinOp.elim (motive_1:=fun _=>Bool) x h f else false
@[elab_as_elim] theorem isBin_of {P:PySem.Expr→Prop}{x:PySem.Expr}{f:PySem.Expr→Operator→PySem.Expr→Pos→Bool}(h:isBin x f=true)(k:∀ a0 a1 a2 a3,f a0 a1 a2 a3=true→P (.BinOp a0 a1 a2 a3)):P x:=PySem.Expr.BinOp.elim (motive_1:=fun x=>isBin x f=true→P x) x (dno h) k h
noncomputable def isUn (x:PySem.Expr)(f:UnaryOp→PySem.Expr→Pos→Bool):Bool:=if h:x.ctorIdx=3 then PySem.Expr.UnaryOp.elim (motive_1:=fun _=>Bool) x h f else false
@[elab_as_elim] theorem isUn_of {P:PySem.Expr→Prop}{x:PySem.Expr}{f:UnaryOp→PySem.Expr→Pos→Bool}(h:isUn x f=true)(k:∀ a0 a1 a2,f a0 a1 a2=true→P (.UnaryOp a0 a1 a2)):P x:=PySem.Expr.UnaryOp.elim (motive_1:=fun x=>isUn x f=true→P x) x (dno h) k h
noncomputable def isDict (x:PySem.Expr)(f:List (Option PySem.Expr)→List PySem.Expr→Pos→Bool):Bool:=if h:x.ctorIdx=6 then PySem.Expr.Dict.elim (motive_1:=fun _=>Bool) x h f else false
@[elab_as_elim] theorem isDict_of {P:PySem.Expr→Prop}{x:PySem.Expr}{f:List (Option PySem.Expr)→List PySem.Expr→Pos→Bool}(h:isDict x f=true)(k:∀ a0 a1 a2,f a0 a1 a2=true→P (.Dict a0 a1 a2)):P x:=PySem.Expr.Dict.elim (motive_1:=fun x=>isDict x f=true→P x) x (dno h) k h
noncomputable def isLC (x:PySem.Expr)(f:PySem.Expr→List Comprehension→Scope→Pos→Bool):Bool:=if h:x.ctorIdx=8 then PySem.Expr.ListComp.elim (motive_1:=fun _=>Bool) x h f else false
@[elab_as_elim] theorem isLC_of {P:PySem.Expr→Prop}{x:PySem.Expr}{f:PySem.Expr→List Comprehension→Scope→Pos→Bool}(h:isLC x f=true)(k:∀ a0 a1 a2 a3,f a0 a1 a2 a3=true→P (.ListComp a0 a1 a2 a3)):P x:=PySem.Expr.ListComp.elim (motive_1:=fun x=>isLC x f=true→P x) x (dno h) k h
noncomputable def isCmp (x:PySem.Expr)(f:PySem.Expr→List CmpOp→List PySem.Expr→Pos→Bool):Bool:=if h:x.ctorIdx=15 then PySem.Expr.Compare.elim (motive_1:=fun _=>Bool) x h f else false
@[elab_as_elim] theorem isCmp_of {P:PySem.Expr→Prop}{x:PySem.Expr}{f:PySem.Expr→List CmpOp→List PySem.Expr→Pos→Bool}(h:isCmp x f=true)(k:∀ a0 a1 a2 a3,f a0 a1 a2 a3=true→P (.Compare a0 a1 a2 a3)):P x:=PySem.Expr.Compare.elim (motive_1:=fun x=>isCmp x f=true→P x) x (dno h) k h
noncomputable def isCall (x:PySem.Expr)(f:PySem.Expr→List PySem.Expr→List Keyword→Pos→Bool):Bool:=if h:x.ctorIdx=16 then PySem.Expr.Call.elim (motive_1:=fun _=>Bool) x h f else false
@[elab_as_elim] theorem isCall_of {P:PySem.Expr→Prop}{x:PySem.Expr}{f:PySem.Expr→List PySem.Expr→List Keyword→Pos→Bool}(h:isCall x f=true)(k:∀ a0 a1 a2 a3,f a0 a1 a2 a3=true→P (.Call a0 a1 a2 a3)):P x:=PySem.Expr.Call.elim (motive_1:=fun x=>isCall x f=true→P x) x (dno h) k h
noncomputable def isConst (x:PySem.Expr)(f:Const→Nat→Pos→Bool):Bool:=if h:x.ctorIdx=19 then PySem.Expr.Constant.elim (motive_1:=fun _=>Bool) x h f else false
@[elab_as_elim] theorem isConst_of {P:PySem.Expr→Prop}{x:PySem.Expr}{f:Const→Nat→Pos→Bool}(h:isConst x f=true)(k:∀ a0 a1 a2,f a0 a1 a2=true→P (.Constant a0 a1 a2)):P x:=PySem.Expr.Constant.elim (motive_1:=fun x=>isConst x f=true→P x) x (dno h) k h
noncomputable def isAttr (x:PySem.Expr)(f:PySem.Expr→Str→Pos→Bool):Bool:=if h:x.ctorIdx=20 then PySem.Expr.Attribute.elim (motive_1:=fun _=>Bool) x h f else false
@[elab_as_elim] theorem isAttr_of {P:PySem.Expr→Prop}{x:PySem.Expr}{f:PySem.Expr→Str→Pos→Bool}(h:isAttr x f=true)(k:∀ a0 a1 a2,f a0 a1 a2=true→P (.Attribute a0 a1 a2)):P x:=PySem.Expr.Attribute.elim (motive_1:=fun x=>isAttr x f=true→P x) x (dno h) k h
noncomputable def isSub (x:PySem.Expr)(f:PySem.Expr→PySem.Expr→Pos→Bool):Bool:=if h:x.ctorIdx=21 then PySem.Expr.Subscript.elim (motive_1:=fun _=>Bool) x h f else false
@[elab_as_elim] theorem isSub_of {P:PySem.Expr→Prop}{x:PySem.Expr}{f:PySem.Expr→PySem.Expr→Pos→Bool}(h:isSub x f=true)(k:∀ a0 a1 a2,f a0 a1 a2=true→P (.Subscript a0 a1 a2)):P x:=PySem.Expr.Subscript.elim (motive_1:=fun x=>isSub x f=true→P x) x (dno h) k h
noncomputable def isList (x:PySem.Expr)(f:List PySem.Expr→Pos→Bool):Bool:=if h:x.ctorIdx=24 then PySem.Expr.List.elim (motive_1:=fun _=>Bool) x h f else false
@[elab_as_elim] theorem isList_of {P:PySem.Expr→Prop}{x:PySem.Expr}{f:List PySem.Expr→Pos→Bool}(h:isList x f=true)(k:∀ a0 a1,f a0 a1=true→P (.List a0 a1)):P x:=PySem.Expr.List.elim (motive_1:=fun x=>isList x f=true→P x) x (dno h) k h
noncomputable def isTup (x:PySem.Expr)(f:List PySem.Expr→Nat→Pos→Bool):Bool:=if h:x.ctorIdx=25 then PySem.Expr.Tuple.elim (motive_1:=fun _=>Bool) x h f else false
@[elab_as_elim] theorem isTup_of {P:PySem.Expr→Prop}{x:PySem.Expr}{f:List PySem.Expr→Nat→Pos→Bool}(h:isTup x f=true)(k:∀ a0 a1 a2,f a0 a1 a2=true→P (.Tuple a0 a1 a2)):P x:=PySem.Expr.Tuple.elim (motive_1:=fun x=>isTup x f=true→P x) x (dno h) k h
noncomputable def isSlice (x:PySem.Expr)(f:Option PySem.Expr→Option PySem.Expr→Option PySem.Expr→Pos→Bool):Bool:=if h:x.ctorIdx=26 then PySem.Expr.Slice.elim (motive_1:=fun _=>Bool) x h f else false
@[elab_as_elim] theorem isSlice_of {P:PySem.Expr→Prop}{x:PySem.Expr}{f:Option PySem.Expr→Option PySem.Expr→Option PySem.Expr→Pos→Bool}(h:isSlice x f=true)(k:∀ a0 a1 a2 a3,f a0 a1 a2 a3=true→P (.Slice a0 a1 a2 a3)):P x:=PySem.Expr.Slice.elim (motive_1:=fun x=>isSlice x f=true→P x) x (dno h) k h
noncomputable def isCBool (x:PySem.Const)(f:Bool→Bool):Bool:=if h:x.ctorIdx=1 then PySem.Const.bool.elim (motive:=fun _=>Bool) x h f else false
@[elab_as_elim] theorem isCBool_of {P:PySem.Const→Prop}{x:PySem.Const}{f:Bool→Bool}(h:isCBool x f=true)(k:∀ a0,f a0=true→P (.bool a0)):P x:=PySem.Const.bool.elim (motive:=fun x=>isCBool x f=true→P x) x (dno h) k h
noncomputable def isCInt (x:PySem.Const)(f:Int→Bool):Bool:=if h:x.ctorIdx=2 then PySem.Const.int.elim (motive:=fun _=>Bool) x h f else false
@[elab_as_elim] theorem isCInt_of {P:PySem.Const→Prop}{x:PySem.Const}{f:Int→Bool}(h:isCInt x f=true)(k:∀ a0,f a0=true→P (.int a0)):P x:=PySem.Const.int.elim (motive:=fun x=>isCInt x f=true→P x) x (dno h) k h
noncomputable def isCStr (x:PySem.Const)(f:Str→Bool):Bool:=if h:x.ctorIdx=5 then PySem.Const.str.elim (motive:=fun _=>Bool) x h f else false
@[elab_as_elim] theorem isCStr_of {P:PySem.Const→Prop}{x:PySem.Const}{f:Str→Bool}(h:isCStr x f=true)(k:∀ a0,f a0=true→P (.str a0)):P x:=PySem.Const.str.elim (motive:=fun x=>isCStr x f=true→P x) x (dno h) k h
noncomputable def isNilL {α:Type}:List α→Bool
 | []=>true
 |_=>false
@[elab_as_elim] theorem nil_of {α:Type}{P:List α→Prop}{l:List α}(h:isNilL l=true)(k:P []):P l:=by
 cases l with
 |nil=>exact k
 |cons _ _=>cases h
noncomputable def isOne {α:Type}(l:List α)(f:α→Bool):Bool:=match l with
 | []=>false
 |a::r=>f a&&isNilL r
@[elab_as_elim] theorem isOne_of {α:Type}{P:List α→Prop}{l:List α}{f:α→Bool}(h:isOne l f=true)(k:∀ a,f a=true→P [a]):P l:=by
 cases l with
 |nil=>cases h
 |cons a r=>exact nil_of (br h) (k a (bl h))
noncomputable def isTwo {α:Type}(l:List α)(f:α→α→Bool):Bool:=match l with
 | []=>false
 |a::r=>isOne r (f a)
@[elab_as_elim] theorem isTwo_of {α:Type}{P:List α→Prop}{l:List α}{f:α→α→Bool}(h:isTwo l f=true)(k:∀ a b,f a b=true→P [a,b]):P l:=by
 cases l with
 |nil=>cases h
 |cons a r=>exact isOne_of (show isOne r (f a)=true from h) (k a)
noncomputable def isNoneM (e:ME):Bool:=match e with
 | .none=>true
 |_=>false
theorem isNoneM_eq {e:ME}(h:isNoneM e=true):e=.none:=by
 cases e<;>first|rfl|exact nof h
noncomputable def isTrueM (e:ME):Bool:=match e with
 | .bool b=>b
 |_=>false
theorem isTrueM_eq {e:ME}(h:isTrueM e=true):e=.bool true:=by
 cases e<;>first|exact nof h|exact congrArg ME.bool h
section
variable (T:Tab)
mutual
noncomputable def okE:Nat→Names→ME→PySem.Expr→Bool
 |0,_,_,_=>false
 |k+1,_,.none,x=>isConst x fun c _ _=>Nat.beq c.ctorIdx 0
 |k+1,_,.bool b,x=>isConst x fun c _ _=>isCBool c fun d=>b==d
 |k+1,_,.int i,x=>isConst x fun c _ _=>isCInt c fun j=>decide (i=j)
 |k+1,_,.str s,x=>isConst x fun c _ _=>isCStr c fun t=>strEq t (Str.ofString s)
 |k+1,nm,.var y,x=>isName x fun i _=>isVar nm y i
 |k+1,nm,.gconst g u,x=>isName x fun i _=>isGlob nm g i&&(lookS g T.consts).any (mvIs u)
 |k+1,nm,.bin op l r,x=>isBin x fun a o b _=>opIs op o&&okE k nm l a&&okE k nm r b
 |k+1,nm,.neg e,x=>isUn x fun o y _=>decide (o=.USub)&&okE k nm e y
 |k+1,nm,.not e,x=>isUn x fun o y _=>decide (o=.Not)&&okE k nm e y
 |k+1,nm,.and es,x=>isBool x fun o y _=>decide (o=.And)&&okAnd k nm es y
 |k+1,nm,.or es,x=>isBool x fun o y _=>decide (o=.Or)&&okAnd k nm es y
 |k+1,nm,.cmp l c,x=>isCmp x fun y o z _=>okE k nm l y&&okC k nm c o z
 |k+1,nm,.attr e f,x=>isAttr x fun y i _=>strEq i (Str.ofString f)&&inS f T.attrs&&notSuper y&&okE k nm e y
 |k+1,nm,.sub e i,x=>isSub x fun y z _=>notSlice z&&okE k nm e y&&okE k nm i z
 |k+1,nm,.slice e lo hi,x=>isSub x fun y z _=>isSlice z fun l u s _=>isNilL s.toList&&okE k nm e y&&okO k nm lo l&&okO k nm hi u
 |k+1,nm,.list es,x=>isList x fun v _=>decide (v.length≤1000)&&okL k nm es v
 |k+1,nm,.tup es,x=>isTup x fun v _ _=>decide (v.length≤1000)&&okL k nm es v
 |k+1,_,.dict,x=>isDict x fun v u _=>isNilL v&&isNilL u
 |k+1,nm,.comp elt y it cond,x=>isLC x fun v gs sc _=>isOne gs fun g=>isName g.target fun t _=>
   strEq t (Str.ofString y)&&compOk nm y sc&&notSet g.iter&&okE k nm it g.iter&&okIfs k (relabN nm sc.names) cond g.ifs&&okE k (relabN nm sc.names) elt v&&decide (g.is_async=0)
 |k+1,nm,.call f es,x=>isCall x fun g xs ks _=>isName g fun t _=>isGlob nm f t&&(lookS f T.fns).isSome&&allPlain xs&&okL k nm es xs&&isNilL ks
 |k+1,nm,.meth e m es,x=>isCall x fun g xs ks p=>isAttr g fun y t q=>
   strEq t (Str.ofString m)&&(lookS m T.meths).isSome&&notSuper y&&allPlain xs&&decide (xs.length<29)&&(q.endLine==p.line)&&okE k nm e y&&okL k nm es xs&&isNilL ks
 |k+1,nm,.mk es,x=>isCall x fun g xs ks _=>isName g fun t _=>T.mks&&isGlob nm "Train" t&&allPlain xs&&okL k nm es xs&&isNilL ks
 |k+1,nm,.bi b es,x=>isCall x fun g xs ks _=>isName g fun t _=>inS b T.bis&&isGlob nm b t&&allPlain xs&&okL k nm es xs&&isNilL ks
 |k+1,nm,.bm e m es,x=>isCall x fun g xs ks p=>isAttr g fun y t q=>
   strEq t (Str.ofString m)&&notSuper y&&allPlain xs&&decide (xs.length<29)&&(q.endLine==p.line)&&okE k nm e y&&okL k nm es xs&&isNilL ks
 |k+1,nm,.isinst e t,x=>isCall x fun g xs ks _=>isName g fun i _=>isTwo xs fun a b=>isName b fun z _=>isGlob nm "isinstance" i&&isGlob nm t z&&inS t T.isis&&notStarred a&&okE k nm e a&&isNilL ks
noncomputable def okL:Nat→Names→MEs→List PySem.Expr→Bool
 |0,_,_,_=>false
 |k+1,_,.nil,xs=>isNilL xs
 |k+1,nm,.cons e es,xs=>match xs with
  | []=>false
  |x::xs=>notStarred x&&okE k nm e x&&okL k nm es xs
noncomputable def okAnd:Nat→Names→MEs→List PySem.Expr→Bool
 |0,_,_,_=>false
 |k+1,_,.nil,_=>false
 |k+1,nm,.cons e es,xs=>match xs with
  | []=>false
  |x::xs=>okE k nm e x&&(match es with
   | .nil=>isNilL xs
   | .cons _ _=>okAnd k nm es xs)
noncomputable def okC:Nat→Names→MCs→List CmpOp→List PySem.Expr→Bool
 |0,_,_,_,_=>false
 |k+1,_,.nil,_,_=>false
 |k+1,nm,.cons op e c,ops,xs=>match ops with
  | []=>false
  |o::ops=>match xs with
   | []=>false
   |x::xs=>copIs op o&&okE k nm e x&&(match c with
    | .nil=>isNilL ops&&isNilL xs&&notSet x
    | .cons _ _ _=>okC k nm c ops xs)
noncomputable def okT:Nat→Names→ME→PySem.Expr→Bool
 |0,_,_,_=>false
 |k+1,nm,.not e,x=>isUn x fun o y _=>decide (o=.Not)&&okT k nm e y
 |k+1,nm,.and es,x=>isBool x fun o y _=>decide (o=.And)&&okAllT k nm es y
 |k+1,nm,.or es,x=>isBool x fun o y _=>decide (o=.Or)&&okAllT k nm es y
 |k+1,nm,.cmp l c,x=>isCmp x fun y o z _=>okE k nm l y&&okC k nm c o z
 |k+1,nm,e,x=>plainTest x&&okE k nm e x
noncomputable def okAllT:Nat→Names→MEs→List PySem.Expr→Bool
 |0,_,_,_=>false
 |k+1,_,.nil,_=>false
 |k+1,nm,.cons e es,xs=>match xs with
  | []=>false
  |x::xs=>okT k nm e x&&(match es with
   | .nil=>isNilL xs
   | .cons _ _=>okAllT k nm es xs)
noncomputable def okO:Nat→Names→ME→Option PySem.Expr→Bool
 |0,_,_,_=>false
 |k+1,nm,e,x=>match x with
  |none=>isNoneM e
  |some x=>okE k nm e x
noncomputable def okIfs:Nat→Names→ME→List PySem.Expr→Bool
 |0,_,_,_=>false
 |k+1,nm,c,ifs=>match ifs with
  | []=>isTrueM c
  |x::xs=>isNilL xs&&okT k nm c x
end
end
end Mine
end
section
namespace Mine
open PySem
noncomputable def tabOk (ca:String→Addr)(K:PySem.W.Frag)(T:Tab):Bool:=
 (T.fns.all fun p=>defOk K p.1 p.2)&&(T.meths.all fun p=>methOk ca K (Str.ofString p.1) p.2)&&(!T.mks||mkOk ca K T.init)&&(T.bis.all fun b=>biOk K b)&&(T.consts.all fun p=>gcOk K p.1 p.2)&&
 (T.attrs.all fun f=>attrOk ca K (Str.ofString f))&&(T.sets.all fun f=>setOk ca K (Str.ofString f))&&(T.isis.all fun t=>isiOk ca K t)&&(T.raises.all fun c=>raiseOk ca K c)&&(!T.tries||tryOk ca K)
structure TabOk (W:Amb)(K:PySem.W.Frag)(T:Tab):Prop where
 fns:∀ p∈T.fns,defOk K p.1 p.2=true
 meths:∀ p∈T.meths,methOk W.ca K (Str.ofString p.1) p.2=true
 mks:T.mks=true→mkOk W.ca K T.init=true
 bis:∀ b∈T.bis,biOk K b=true
 consts:∀ p∈T.consts,gcOk K p.1 p.2=true
 attrs:∀ f∈T.attrs,attrOk W.ca K (Str.ofString f)=true
 sets:∀ f∈T.sets,setOk W.ca K (Str.ofString f)=true
 isis:∀ t∈T.isis,isiOk W.ca K t=true
 raises:∀ c∈T.raises,raiseOk W.ca K c=true
 tries:T.tries=true→tryOk W.ca K=true
theorem bnot {a b:Bool}(h:(!a||b)=true)(e:a=true):b=true:=by
 cases e;exact h
theorem tabOk_of {W:Amb}{K:PySem.W.Frag}{T:Tab}(h:tabOk W.ca K T=true):TabOk W K T:=by
 have h9:=bl h
 have h8:=bl h9
 have h7:=bl h8
 have h6:=bl h7
 have h5:=bl h6
 have h4:=bl h5
 have h3:=bl h4
 have h2:=bl h3
 exact ⟨List.all_eq_true.mp (bl h2),List.all_eq_true.mp (br h2),bnot (br h3),List.all_eq_true.mp (br h4),List.all_eq_true.mp (br h5),List.all_eq_true.mp (br h6),List.all_eq_true.mp (br h7),List.all_eq_true.mp (br h8),List.all_eq_true.mp (br h9),bnot (br h)⟩
theorem inS_mem {x:String}:∀{l:List String},inS x l=true→x∈l
 |y::r,h=>by
  simp only [inS,Bool.or_eq_true,beq_iff_eq] at h
  rcases h with h|h
  ·simp [h]
  ·simp [inS_mem h]
theorem lookS_mem {α:Type}{x:String}:∀{l:List (String×α)} {a:α},lookS x l=some a→(x,a)∈l
 |(y,b)::r,a,h=>by
  unfold lookS at h
  split at h
  ·rename_i q;cases h;rw [beq_iff_eq.mp q];simp
  ·simp [lookS_mem h]
noncomputable def addrOf (T:Tab)(f:String)(a:Addr):Prop:=lookS f T.fns=some a∨lookS f T.meths=some a∨(f="__init__"∧T.mks=true∧a=T.init)
section
variable {W:Amb}{K:PySem.W.Frag}{T:Tab}{Δ:CallT}{n:Nat}
theorem SndF.up {c:Bool→List MV→MH→(MV→MH→Prop)→(String→MH→Prop)→Prop}{f:Value}(x:SndF W n c f):SndF W (n+1) c f:=x.le (Nat.le_succ n)
variable (W T Δ n) in
noncomputable def OkE (k:Nat):Prop:=∀ nm e x,okE T k nm e x=true→SndE W Δ (n+1) nm e x
variable (W T Δ n) in
noncomputable def OkL (k:Nat):Prop:=∀ nm es xs,okL T k nm es xs=true→SndL W Δ (n+1) nm es xs
variable (W T Δ n) in
noncomputable def OkA (k:Nat):Prop:=∀ nm es xs,okAnd T k nm es xs=true→SndAnd (W:=W) (Δ:=Δ) (n:=n+1) nm es xs
variable (W T Δ n) in
noncomputable def OkC (k:Nat):Prop:=∀ nm c ops xs,okC T k nm c ops xs=true→SndC W Δ (n+1) nm c ops xs
variable (W T Δ n) in
noncomputable def OkT (k:Nat):Prop:=∀ nm e x,okT T k nm e x=true→SndT W Δ (n+1) nm e x
variable (W T Δ n) in
noncomputable def OkAT (k:Nat):Prop:=∀ nm es xs,okAllT T k nm es xs=true→SndAllT (W:=W) (Δ:=Δ) (n:=n+1) nm es xs
variable (W T Δ n) in
noncomputable def OkI (k:Nat):Prop:=∀ nm c xs,okIfs T k nm c xs=true→SndIfs W Δ (n+1) nm c xs
variable (W T Δ n) in
noncomputable def OkO (k:Nat):Prop:=∀ nm e x,okO T k nm e x=true→SndO W Δ (n+1) nm e x
theorem okAnd_x {k nm e es}(h:okAnd T k nm (.cons e es) []=true):False:=by cases k<;>exact nof h
theorem okAllT_x {k nm e es}(h:okAllT T k nm (.cons e es) []=true):False:=by cases k<;>exact nof h
theorem okC_x {k nm o e c xs}(h:okC T k nm (.cons o e c) [] xs=true):False:=by cases k<;>exact nof h
theorem okC_y {k nm o e c p ps}(h:okC T k nm (.cons o e c) (p::ps) []=true):False:=by cases k<;>exact nof h
variable (F:Facts W K)(TT:TabOk W K T)(HΔ:∀ f a,addrOf T f a→SndF W n (fun hd=>Δ hd f) (.ref a))
include F TT HΔ
set_option maxHeartbeats 800000 in
theorem okAll (k:Nat):OkE W T Δ n k∧OkL W T Δ n k∧OkA W T Δ n k∧OkC W T Δ n k∧OkT W T Δ n k∧OkAT W T Δ n k∧OkI W T Δ n k∧OkO W T Δ n k:=by
 induction k with
 |zero=>exact ⟨fun _ _ _ h=>nof h,fun _ _ _ h=>nof h,fun _ _ _ h=>nof h,fun _ _ _ _ h=>nof h,fun _ _ _ h=>nof h,fun _ _ _ h=>nof h,fun _ _ _ h=>nof h,fun _ _ _ h=>nof h⟩
 |succ k ih=>
  obtain ⟨iE,iL,iA,iC,iT,iAT,iI,iO⟩:=ih
  refine ⟨fun nm e x h=>?_,fun nm es xs h=>?_,fun nm es xs h=>?_,fun nm c ops xs h=>?_,fun nm e x h=>?_,fun nm es xs h=>?_,fun nm c xs h=>?_,fun nm e x h=>?_⟩
  ·cases e with
   |none=>exact isConst_of (show isConst x _=true from h) fun c _ _ h=>PySem.Const.none.elim (motive:=fun c=>∀ i p,SndE W Δ (n+1) nm .none (.Constant c i p)) c (Nat.eq_of_beq_eq_true h) (fun i p=>snd_none) _ _
   |bool b=>exact isConst_of (show isConst x _=true from h) fun c _ _ h=>isCBool_of h fun d h=>beq_iff_eq.mp h▸snd_bool
   |int i=>exact isConst_of (show isConst x _=true from h) fun c _ _ h=>isCInt_of h fun d h=>of_decide_eq_true h▸snd_int
   |str s=>exact isConst_of (show isConst x _=true from h) fun c _ _ h=>isCStr_of h fun d h=>(strEq_eq h).symm▸snd_str
   |var y=>exact isName_of (show isName x _=true from h) fun i _ h=>snd_var h
   |gconst g u=>exact isName_of (show isName x _=true from h) fun i _ h=>(bany (br h)).elim fun u' z=>mvIs_eq z.2▸snd_gconst F (TT.consts _ (lookS_mem z.1)) (bl h)
   |bin op l r=>exact isBin_of (show isBin x _=true from h) fun a o b _ h=>(of_decide_eq_true (bl (bl h))).symm▸snd_bin (iE _ _ _ (br (bl h))) (iE _ _ _ (br h))
   |neg e=>exact isUn_of (show isUn x _=true from h) fun o y _ h=>(of_decide_eq_true (bl h)).symm▸snd_neg (iE _ _ _ (br h))
   |not e=>exact isUn_of (show isUn x _=true from h) fun o y _ h=>(of_decide_eq_true (bl h)).symm▸snd_not (iE _ _ _ (br h))
   |and es=>exact isBool_of (show isBool x _=true from h) fun o y _ h=>(of_decide_eq_true (bl h)).symm▸snd_bop (op:=.And) (e:=.and es) (iA _ _ _ (br h)) fun z=>z
   |or es=>exact isBool_of (show isBool x _=true from h) fun o y _ h=>(of_decide_eq_true (bl h)).symm▸snd_bop (op:=.Or) (e:=.or es) (iA _ _ _ (br h)) fun z=>z
   |cmp l c=>exact isCmp_of (show isCmp x _=true from h) fun y o z _ h=>snd_cmp (iE _ _ _ (bl h)) (iC _ _ _ _ (br h))
   |attr e f=>exact isAttr_of (show isAttr x _=true from h) fun y i _ h=>snd_attr F (bl (bl (bl h))) (TT.attrs _ (inS_mem (br (bl (bl h))))) (br (bl h)) (iE _ _ _ (br h))
   |sub e i=>exact isSub_of (show isSub x _=true from h) fun y z _ h=>snd_sub (bl (bl h)) (iE _ _ _ (br (bl h))) (iE _ _ _ (br h))
   |slice e lo hi=>
    refine isSub_of (show isSub x _=true from h) fun y z _ h=>isSlice_of h fun l u s _ h=>?_
    cases s with
    |none=>exact snd_slice (iE _ _ _ (br (bl (bl h)))) (iO _ _ _ (br (bl h))) (iO _ _ _ (br h))
    |some _=>exact nof (bl (bl (bl h)))
   |list es=>exact isList_of (show isList x _=true from h) fun v _ h=>snd_list (iL _ _ _ (br h)) (of_decide_eq_true (bl h))
   |tup es=>exact isTup_of (show isTup x _=true from h) fun v _ _ h=>snd_tup (iL _ _ _ (br h)) (of_decide_eq_true (bl h))
   |dict=>exact isDict_of (show isDict x _=true from h) fun v u _ h=>nil_of (bl h) (nil_of (br h) snd_dict)
   |comp elt y it cond=>
    refine isLC_of (show isLC x _=true from h) fun v gs sc _ h=>isOne_of h fun g h=>?_
    obtain ⟨tg,iter,ifs,as⟩:=g
    dsimp only at h
    refine isName_of h fun t _ h=>?_
    cases of_decide_eq_true (br h)
    exact snd_comp (bl (bl (bl (bl (bl (bl h)))))) (br (bl (bl (bl (bl (bl h)))))) (br (bl (bl (bl (bl h))))) (iE _ _ _ (br (bl (bl (bl h))))) (iI _ _ _ (br (bl (bl h)))) (iE _ _ _ (br (bl h)))
   |call f es=>exact isCall_of (show isCall x _=true from h) fun g xs ks _ h=>isName_of h fun t _ h=>nil_of (br h) ((Option.isSome_iff_exists.mp (br (bl (bl (bl h))))).elim fun a ha=>snd_call F (bl (bl (bl (bl h)))) (TT.fns _ (lookS_mem ha)) (br (bl (bl h))) (iL _ _ _ (br (bl h))) (SndF.up (HΔ f a (.inl ha))))
   |meth e m es=>exact isCall_of (show isCall x _=true from h) fun g xs ks _ h=>isAttr_of h fun y t _ h=>nil_of (br h) ((Option.isSome_iff_exists.mp (br (bl (bl (bl (bl (bl (bl (bl h))))))))).elim fun a ha=>snd_meth F (bl (bl (bl (bl (bl (bl (bl (bl h)))))))) (TT.meths _ (lookS_mem ha)) (br (bl (bl (bl (bl (bl (bl h))))))) (br (bl (bl (bl (bl (bl h)))))) (of_decide_eq_true (br (bl (bl (bl (bl h)))))) (br (bl (bl (bl h)))) (iE _ _ _ (br (bl (bl h)))) (iL _ _ _ (br (bl h))) (SndF.up (HΔ m a (.inr (.inl ha)))))
   |mk es=>exact isCall_of (show isCall x _=true from h) fun g xs ks _ h=>isName_of h fun t _ h=>nil_of (br h) (snd_mk F (br (bl (bl (bl h)))) (TT.mks (bl (bl (bl (bl h))))) (br (bl (bl h))) (iL _ _ _ (br (bl h))) (HΔ _ _ (.inr (.inr ⟨rfl,bl (bl (bl (bl h))),rfl⟩))))
   |bi b es=>exact isCall_of (show isCall x _=true from h) fun g xs ks _ h=>isName_of h fun t _ h=>nil_of (br h) (snd_bi F (TT.bis _ (inS_mem (bl (bl (bl (bl h)))))) (br (bl (bl (bl h)))) (br (bl (bl h))) (iL _ _ _ (br (bl h))))
   |bm e m es=>exact isCall_of (show isCall x _=true from h) fun g xs ks _ h=>isAttr_of h fun y t _ h=>nil_of (br h) (snd_bm (bl (bl (bl (bl (bl (bl (bl h))))))) (br (bl (bl (bl (bl (bl (bl h))))))) (br (bl (bl (bl (bl (bl h)))))) (of_decide_eq_true (br (bl (bl (bl (bl h)))))) (br (bl (bl (bl h)))) (iE _ _ _ (br (bl (bl h)))) (iL _ _ _ (br (bl h))))
   |isinst e t=>exact isCall_of (show isCall x _=true from h) fun g xs ks _ h=>isName_of h fun i _ h=>isTwo_of h fun a b h=>isName_of h fun z _ h=>nil_of (br h) (snd_isinst F (bl (bl (bl (bl (bl h))))) (br (bl (bl (bl (bl h))))) (TT.isis _ (inS_mem (br (bl (bl (bl h)))))) (br (bl (bl h))) (iE _ _ _ (br (bl h))))
  ·cases es with
   |nil=>exact nil_of (show isNilL xs=true from h) sndL_nil
   |cons e es=>
    cases xs with
    |nil=>exact nof h
    |cons x xs=>exact sndL_cons (bl (bl h)) (iE _ _ _ (br (bl h))) (iL _ _ _ (br h))
  ·cases es with
   |nil=>exact nof h
   |cons e es=>
    cases xs with
    |nil=>exact nof h
    |cons x xs=>
     cases es with
     |nil=>exact nil_of (br h) (sndAnd_one (iE _ _ _ (bl h)))
     |cons e' es'=>
      have h2:okAnd T k nm (.cons e' es') xs=true:=br h
      cases xs with
      |nil=>exact (okAnd_x h2).elim
      |cons y ys=>exact sndAnd_cons (iE _ _ _ (bl h)) (iA _ _ _ h2)
  ·cases c with
   |nil=>exact nof h
   |cons op e c=>
    cases ops with
    |nil=>exact nof h
    |cons o ops=>
     cases xs with
     |nil=>exact nof h
     |cons x xs=>
      obtain rfl:=of_decide_eq_true (bl (bl h))
      cases c with
      |nil=>exact nil_of (bl (bl (br h))) (nil_of (br (bl (br h))) (sndC_one F (br (br h)) (iE _ _ _ (br (bl h)))))
      |cons op' e' c'=>
       have h3:okC T k nm (.cons op' e' c') ops xs=true:=br h
       cases ops with
       |nil=>exact (okC_x h3).elim
       |cons o2 ops2=>
        cases xs with
        |nil=>exact (okC_y h3).elim
        |cons y ys=>exact sndC_cons F (iE _ _ _ (br (bl h))) (iC _ _ _ _ h3)
  ·cases e
   case not e=>exact isUn_of (show isUn x _=true from h) fun o y _ h=>(of_decide_eq_true (bl h)).symm▸sndT_not (iT _ _ _ (br h))
   case and es=>exact isBool_of (show isBool x _=true from h) fun o y _ h=>(of_decide_eq_true (bl h)).symm▸sndT_bop (op:=.And) (e:=.and es) (iAT _ _ _ (br h)) fun z=>z
   case or es=>exact isBool_of (show isBool x _=true from h) fun o y _ h=>(of_decide_eq_true (bl h)).symm▸sndT_bop (op:=.Or) (e:=.or es) (iAT _ _ _ (br h)) fun z=>z
   case cmp l c=>exact isCmp_of (show isCmp x _=true from h) fun y o z _ h=>sndT_cmp (iE _ _ _ (bl h)) (iC _ _ _ _ (br h))
   all_goals exact sndT_plain (iE _ _ _ (br h)) (plainTest_is (bl h))
  ·cases es with
   |nil=>exact nof h
   |cons e es=>
    cases xs with
    |nil=>exact nof h
    |cons x xs=>
     cases es with
     |nil=>exact nil_of (br h) (sndAllT_one (iT _ _ _ (bl h)))
     |cons e' es'=>
      have h2:okAllT T k nm (.cons e' es') xs=true:=br h
      cases xs with
      |nil=>exact (okAllT_x h2).elim
      |cons y ys=>exact sndAllT_cons (iT _ _ _ (bl h)) (iAT _ _ _ h2)
  ·cases xs with
   |nil=>exact isTrueM_eq h▸rfl
   |cons x xs=>exact nil_of (bl h) (iT _ _ _ (br h))
  ·cases x with
   |none=>exact isNoneM_eq h
   |some x=>exact iE _ _ _ h
end
end Mine
end
section
namespace Mine
open PySem
noncomputable def isRet (x:PySem.Stmt)(f:Option PySem.Expr→Pos→Bool):Bool:=if h:x.ctorIdx=3 then PySem.Stmt.Return.elim (motive_2:=fun _=>Bool) x h f else false
@[elab_as_elim] theorem isRet_of {P:PySem.Stmt→Prop}{x:PySem.Stmt}{f:Option PySem.Expr→Pos→Bool}(h:isRet x f=true)(k:∀ a0 a1,f a0 a1=true→P (.Return a0 a1)):P x:=PySem.Stmt.Return.elim (motive_2:=fun x=>isRet x f=true→P x) x (dno h) k h
noncomputable def isAss (x:PySem.Stmt)(f:List PySem.Expr→PySem.Expr→Pos→Bool):Bool:=if h:x.ctorIdx=5 then PySem.Stmt.Assign.elim (motive_2:=fun _=>Bool) x h f else false
@[elab_as_elim] theorem isAss_of {P:PySem.Stmt→Prop}{x:PySem.Stmt}{f:List PySem.Expr→PySem.Expr→Pos→Bool}(h:isAss x f=true)(k:∀ a0 a1 a2,f a0 a1 a2=true→P (.Assign a0 a1 a2)):P x:=PySem.Stmt.Assign.elim (motive_2:=fun x=>isAss x f=true→P x) x (dno h) k h
noncomputable def isFor (x:PySem.Stmt)(f:PySem.Expr→PySem.Expr→List Stmt→List Stmt→Pos→Bool):Bool:=if h:x.ctorIdx=9 then PySem.Stmt.For.elim (motive_2:=fun _=>Bool) x h f else false
@[elab_as_elim] theorem isFor_of {P:PySem.Stmt→Prop}{x:PySem.Stmt}{f:PySem.Expr→PySem.Expr→List Stmt→List Stmt→Pos→Bool}(h:isFor x f=true)(k:∀ a0 a1 a2 a3 a4,f a0 a1 a2 a3 a4=true→P (.For a0 a1 a2 a3 a4)):P x:=PySem.Stmt.For.elim (motive_2:=fun x=>isFor x f=true→P x) x (dno h) k h
noncomputable def isWhile (x:PySem.Stmt)(f:PySem.Expr→List Stmt→List Stmt→Pos→Bool):Bool:=if h:x.ctorIdx=11 then PySem.Stmt.While.elim (motive_2:=fun _=>Bool) x h f else false
@[elab_as_elim] theorem isWhile_of {P:PySem.Stmt→Prop}{x:PySem.Stmt}{f:PySem.Expr→List Stmt→List Stmt→Pos→Bool}(h:isWhile x f=true)(k:∀ a0 a1 a2 a3,f a0 a1 a2 a3=true→P (.While a0 a1 a2 a3)):P x:=PySem.Stmt.While.elim (motive_2:=fun x=>isWhile x f=true→P x) x (dno h) k h
noncomputable def isIf (x:PySem.Stmt)(f:PySem.Expr→List Stmt→List Stmt→Pos→Bool):Bool:=if h:x.ctorIdx=12 then PySem.Stmt.If.elim (motive_2:=fun _=>Bool) x h f else false
@[elab_as_elim] theorem isIf_of {P:PySem.Stmt→Prop}{x:PySem.Stmt}{f:PySem.Expr→List Stmt→List Stmt→Pos→Bool}(h:isIf x f=true)(k:∀ a0 a1 a2 a3,f a0 a1 a2 a3=true→P (.If a0 a1 a2 a3)):P x:=PySem.Stmt.If.elim (motive_2:=fun x=>isIf x f=true→P x) x (dno h) k h
noncomputable def isRaise (x:PySem.Stmt)(f:Option PySem.Expr→Option PySem.Expr→Pos→Bool):Bool:=if h:x.ctorIdx=16 then PySem.Stmt.Raise.elim (motive_2:=fun _=>Bool) x h f else false
@[elab_as_elim] theorem isRaise_of {P:PySem.Stmt→Prop}{x:PySem.Stmt}{f:Option PySem.Expr→Option PySem.Expr→Pos→Bool}(h:isRaise x f=true)(k:∀ a0 a1 a2,f a0 a1 a2=true→P (.Raise a0 a1 a2)):P x:=PySem.Stmt.Raise.elim (motive_2:=fun x=>isRaise x f=true→P x) x (dno h) k h
noncomputable def isTry (x:PySem.Stmt)(f:List Stmt→List ExceptHandler→List Stmt→List Stmt→Pos→Bool):Bool:=if h:x.ctorIdx=17 then PySem.Stmt.Try.elim (motive_2:=fun _=>Bool) x h f else false
@[elab_as_elim] theorem isTry_of {P:PySem.Stmt→Prop}{x:PySem.Stmt}{f:List Stmt→List ExceptHandler→List Stmt→List Stmt→Pos→Bool}(h:isTry x f=true)(k:∀ a0 a1 a2 a3 a4,f a0 a1 a2 a3 a4=true→P (.Try a0 a1 a2 a3 a4)):P x:=PySem.Stmt.Try.elim (motive_2:=fun x=>isTry x f=true→P x) x (dno h) k h
noncomputable def isExprS (x:PySem.Stmt)(f:PySem.Expr→Pos→Bool):Bool:=if h:x.ctorIdx=24 then PySem.Stmt.Expr.elim (motive_2:=fun _=>Bool) x h f else false
@[elab_as_elim] theorem isExprS_of {P:PySem.Stmt→Prop}{x:PySem.Stmt}{f:PySem.Expr→Pos→Bool}(h:isExprS x f=true)(k:∀ a0 a1,f a0 a1=true→P (.Expr a0 a1)):P x:=PySem.Stmt.Expr.elim (motive_2:=fun x=>isExprS x f=true→P x) x (dno h) k h
noncomputable def hType:ExceptHandler→Option PySem.Expr
 | .ExceptHandler a _ _ _=>a
noncomputable def hName:ExceptHandler→Option Str
 | .ExceptHandler _ a _ _=>a
noncomputable def hBody:ExceptHandler→List Stmt
 | .ExceptHandler _ _ a _=>a
noncomputable def isCons {α:Type}:List α→Bool
 | []=>false
 |_=>true
noncomputable def okAC (T:Tab)(nm:Names)(e:ME)(x:PySem.Expr):Bool:=match e with
 | .comp elt y it cond=>isLC x fun v gs sc _=>isOne gs fun g=>isName g.target fun t _=>
   strEq t (Str.ofString y)&&compOk nm y sc&&notSet g.iter&&okE T 100 nm it g.iter&&okIfs T 100 (relabN nm sc.names) cond g.ifs&&okE T 100 (relabN nm sc.names) elt v&&decide (g.is_async=0)
 |_=>false
theorem okAC_of {T:Tab}{nm:Names}{P:ME→Prop}{e:ME}{x:PySem.Expr}(h:okAC T nm e x=true)(k:∀ elt y it cond,okAC T nm (.comp elt y it cond) x=true→P (.comp elt y it cond)):P e:=by
 cases e<;>first|exact k _ _ _ _ h|exact nof h
section
variable (T:Tab)
mutual
noncomputable def okS:Nat→Names→MS→Stmt→Bool
 |0,_,_,_=>false
 |k+1,nm,.expr e,x=>isExprS x fun v _=>notComp v&&okE T 100 nm e v
 |k+1,nm,.assign y e,x=>isAss x fun ts v _=>isOne ts fun t=>isName t fun i _=>isTarget nm y i&&((notComp v&&okE T 100 nm e v)||okAC T nm e v)
 |k+1,nm,.setAttr e f y,x=>isAss x fun ts v _=>isOne ts fun t=>isAttr t fun z i _=>strEq i (Str.ofString f)&&inS f T.sets&&okE T 100 nm e z&&okE T 100 nm y v
 |k+1,nm,.ret e,x=>isRet x fun v _=>v.any fun y=>okE T 100 nm e y
 |k+1,nm,.ite t a b,x=>isIf x fun y u v _=>okT T 100 nm t y&&okSs k nm a u&&okSs k nm b v
 |k+1,nm,.whil t b,x=>isWhile x fun y u v _=>okT T 100 nm t y&&okSs k nm b u&&isNilL v
 |k+1,nm,.for_ y it b,x=>isFor x fun t z u v _=>isName t fun i _=>isTarget nm y i&&notSet z&&okE T 100 nm it z&&okSs k nm b u&&isNilL v
 |k+1,nm,.unpack ys e,x=>isAss x fun ts v _=>isOne ts fun t=>isTup t fun i _ _=>isName v fun i2 p2=>okTargets nm ys i&&okE T 100 nm e (.Name i2 p2)
 |k+1,nm,.raise c _,x=>isRaise x fun v w _=>v.any fun y=>isCall y fun g xs ks _=>isName g fun i _=>isOne xs fun a=>isConst a fun c' _ _=>isCStr c' fun _=>isGlob nm c i&&inS c T.raises&&isNilL ks&&isNilL w.toList
 |k+1,nm,.try_ b y h,x=>isTry x fun u hs v w _=>isOne hs fun z=>(hType z).any fun t=>isName t fun i _=>(hName z).any fun id=>
   T.tries&&isGlob nm "SeatError" i&&isLocal nm y id&&okSs k nm b u&&okSs k nm h (hBody z)&&isCons (hBody z)&&isNilL v&&isNilL w
 |k+1,nm,.setIdx e i y,x=>isAss x fun ts v _=>isOne ts fun t=>isSub t fun a z _=>okE T 100 nm e a&&okE T 100 nm i z&&okE T 100 nm y v
 |k+1,nm,.forT ys it b,x=>isFor x fun t z u v _=>isTup t fun i _ _=>okTargets nm ys i&&notSet z&&okE T 100 nm it z&&okSs k nm b u&&isNilL v
noncomputable def okSs:Nat→Names→MSs→List Stmt→Bool
 |0,_,_,_=>false
 |k+1,_,.nil,xs=>isNilL xs
 |k+1,nm,.cons m ms,xs=>match xs with
  | []=>false
  |x::xs=>okS k nm m x&&okSs k nm ms xs
end
end
section
noncomputable def OkS (W:Amb)(T:Tab)(Δ:CallT)(n k:Nat):Prop:=∀ nm m x,okS T k nm m x=true→SndS W Δ (n+1) nm m x
noncomputable def OkSs (W:Amb)(T:Tab)(Δ:CallT)(n k:Nat):Prop:=∀ nm ms xs,okSs T k nm ms xs=true→SndSs W Δ (n+1) nm ms xs
variable {W:Amb}{K:PySem.W.Frag}{T:Tab}{Δ:CallT}{n:Nat}(F:Facts W K)(TT:TabOk W K T)(HΔ:∀ f a,addrOf T f a→SndF W n (fun hd=>Δ hd f) (.ref a))
include F TT HΔ
set_option maxHeartbeats 800000 in
theorem okStm (k:Nat):OkS W T Δ n k∧OkSs W T Δ n k:=by
 obtain ⟨iE,iL,iA,iC,iT,iAT,iI,iO⟩:=okAll F TT HΔ 100
 induction k with
 |zero=>exact ⟨fun _ _ _ h=>nof h,fun _ _ _ h=>nof h⟩
 |succ k ih=>
  obtain ⟨iS,iSs⟩:=ih
  refine ⟨fun nm m x h=>?_,fun nm ms xs h=>?_⟩
  ·cases m with
   |expr e=>exact isExprS_of (show isExprS x _=true from h) fun v _ h=>snd_expr (bl h) (iE _ _ _ (br h))
   |assign y e=>
    refine isAss_of (show isAss x _=true from h) fun ts v _ h=>isOne_of h fun t h=>isName_of h fun i _ h=>?_
    refine (Bool.or_eq_true_iff.mp (br h)).elim (fun h2=>snd_assign (bl h2) (bl h) (iE _ _ _ (br h2))) fun h2=>okAC_of (P:=fun e=>SndS W Δ (n+1) nm (.assign y e) (.Assign [.Name i _] v _)) h2 fun elt z it cond h2=>?_
    refine isLC_of (show isLC v _=true from h2) fun v gs sc _ h2=>isOne_of h2 fun g h2=>?_
    obtain ⟨tg,iter,ifs,as⟩:=g
    dsimp only at h2
    refine isName_of h2 fun t _ h2=>?_
    cases of_decide_eq_true (br h2)
    exact snd_assignComp (bl h) (bl (bl (bl (bl (bl (bl h2)))))) (br (bl (bl (bl (bl (bl h2)))))) (br (bl (bl (bl (bl h2))))) (iE _ _ _ (br (bl (bl (bl h2))))) (iI _ _ _ (br (bl (bl h2)))) (iE _ _ _ (br (bl h2)))
   |setAttr e f y=>exact isAss_of (show isAss x _=true from h) fun ts v _ h=>isOne_of h fun t h=>isAttr_of h fun z i _ h=>snd_setAttr F (bl (bl (bl h))) (TT.sets _ (inS_mem (br (bl (bl h))))) (iE _ _ _ (br (bl h))) (iE _ _ _ (br h))
   |ret e=>exact isRet_of (show isRet x _=true from h) fun v _ h=>(bany h).elim fun y z=>z.1▸snd_ret (iE _ _ _ z.2)
   |ite t a b=>exact isIf_of (show isIf x _=true from h) fun y u v _ h=>snd_ite (iT _ _ _ (bl (bl h))) (iSs _ _ _ (br (bl h))) (iSs _ _ _ (br h))
   |whil t b=>exact isWhile_of (show isWhile x _=true from h) fun y u v _ h=>nil_of (br h) (snd_while (iT _ _ _ (bl (bl h))) (iSs _ _ _ (br (bl h))))
   |for_ y it b=>exact isFor_of (show isFor x _=true from h) fun t z u v _ h=>isName_of h fun i _ h=>nil_of (br h) (snd_for (bl (bl (bl (bl h)))) (br (bl (bl (bl h)))) (iE _ _ _ (br (bl (bl h)))) (iSs _ _ _ (br (bl h))))
   |unpack ys e=>exact isAss_of (show isAss x _=true from h) fun ts v _ h=>isOne_of h fun t h=>isTup_of h fun es k p h=>isName_of h fun i2 p2 h=>snd_unpack (bl h) (iE _ _ _ (br h))
   |raise c msg=>
    refine isRaise_of (show isRaise x _=true from h) fun v w _ h=>?_
    cases v with
    |none=>exact nof h
    |some y=>
     refine isCall_of (show isCall y _=true from h) fun g xs ks _ h=>isName_of h fun i _ h=>isOne_of h fun a h=>isConst_of h fun c' _ _ h=>isCStr_of h fun s h=>nil_of (br (bl h)) ?_
     cases w with
     |none=>exact snd_raise F (bl (bl (bl h))) (TT.raises _ (inS_mem (br (bl (bl h)))))
     |some _=>exact nof (br h)
   |try_ b y hs=>
    refine isTry_of (show isTry x _=true from h) fun u hs v w _ h=>isOne_of h fun z h=>?_
    obtain ⟨ty,na,bo,po⟩:=z
    cases ty with
    |none=>exact nof h
    |some t=>
     refine isName_of (show isName t _=true from h) fun i _ h=>?_
     cases na with
     |none=>exact nof h
     |some id=>
      cases bo with
      |nil=>exact nof (br (bl (bl h)))
      |cons st suite=>exact nil_of (br (bl h)) (nil_of (br h) (snd_try F (br (bl (bl (bl (bl (bl (bl h))))))) (TT.tries (bl (bl (bl (bl (bl (bl (bl h)))))))) (br (bl (bl (bl (bl (bl h)))))) (iSs _ _ _ (br (bl (bl (bl (bl h)))))) (iSs _ _ _ (br (bl (bl (bl h)))))))
   |setIdx e i y=>exact isAss_of (show isAss x _=true from h) fun ts v _ h=>isOne_of h fun t h=>isSub_of h fun a z _ h=>snd_setIdx (iE _ _ _ (bl (bl h))) (iE _ _ _ (br (bl h))) (iE _ _ _ (br h))
   |forT ys it b=>exact isFor_of (show isFor x _=true from h) fun t z u v _ h=>isTup_of h fun i _ _ h=>nil_of (br h) (snd_forT (bl (bl (bl (bl h)))) (br (bl (bl (bl h)))) (iE _ _ _ (br (bl (bl h)))) (iSs _ _ _ (br (bl h))))
  ·cases ms with
   |nil=>exact nil_of (show isNilL xs=true from h) sndSs_nil
   |cons m ms=>
    cases xs with
    |nil=>exact nof h
    |cons x xs=>exact sndSs_cons (iS _ _ _ (bl h)) (iSs _ _ _ (br h))
end
noncomputable def argsAre:List Arg→List String→Bool
 | [],[]=>true
 |a::as,p::ps=>strEq a.arg (Str.ofString p)&&argsAre as ps
 |_,_=>false
theorem argsAre_eq:∀{as:List Arg} {ps:List String},argsAre as ps=true→as.map (·.arg)=ps.map Str.ofString
 | [],[],_=>rfl
 |a::as,p::ps,h=>by
  simp only [argsAre,Bool.and_eq_true] at h
  simp only [List.map_cons,strEq_eq h.1,argsAre_eq h.2]
 | [],_::_,h=>by cases h
 |_::_,[],h=>by cases h
noncomputable def isNone:Value→Bool
 | .none=>true
 |_=>false
noncomputable def nodupS:List Str→Bool
 | []=>true
 |a::r=>(r.all fun b=>!strEq a b)&&nodupS r
theorem strEq_self (a:Str):strEq a a=true:=by
 have:∀ l,strEqL l l=true:=by
  intro l;induction l with
  |nil=>rfl
  |cons a l ih=>simp [strEqL,ih]
 exact this _
theorem nodupS_of:∀{l:List Str},nodupS l=true→l.Nodup
 | [],_=> .nil
 |a::r,h=>by
  simp only [nodupS,Bool.and_eq_true,List.all_eq_true,Bool.not_eq_true'] at h
  refine List.nodup_cons.mpr ⟨fun hm=>?_,nodupS_of h.2⟩
  have:=h.1 a hm
  rw [strEq_self] at this;cases this
noncomputable def stmtsOf:FuncBody→Option (List Stmt)
 | .stmts b=>some b
 |_=>none
theorem stmtsOf_eq {b:FuncBody}{l:List Stmt}(h:stmtsOf b=some l):b=.stmts l:=by
 cases b<;>cases h;rfl
theorem opt_nil {α:Type}{o:Option α}(h:isNilL o.toList=true):o=none:=by
 cases o with
 |none=>rfl
 |some _=>cases h
theorem args_mk {a b c d e f g}(ha:a=[])(hc:c=none)(hd:d=[])(hf:f=none):(⟨a,b,c,d,e,f,g⟩:Arguments)=⟨[],b,none,[],e,none,g⟩:=by
 rw [ha,hc,hd,hf]
theorem par_of {p:Arguments}(h1:isNilL p.posonlyargs=true)(h2:isNilL p.vararg.toList=true)(h3:isNilL p.kwonlyargs=true)(h4:isNilL p.kwarg.toList=true):p=⟨[],p.args,none,[],p.kw_defaults,none,p.defaults⟩:=by
 obtain ⟨a,b,c,d,e,f,g⟩:=p
 have e1:a=[]:=nil_of (show isNilL a=true from h1) rfl
 have e3:d=[]:=nil_of (show isNilL d=true from h3) rfl
 exact args_mk e1 (opt_nil h2) e3 (opt_nil h4)
theorem storeKind_of {k:Option NameKind}(h:storeKind k=true):k=some .local∨k=some .cell:=by
 unfold storeKind at h
 split at h
 ·exact .inl rfl
 ·exact .inr rfl
 ·cases h
noncomputable def fdOk (T:Tab)(fd:FuncData)(d:MFn):Bool:=
 (stmtsOf fd.body).any fun body=>okSs T 100 fd.scope.names d.body body&&argsAre fd.params.args d.params&&nodupS (d.params.map Str.ofString)&&isNilL fd.closure&&(fd.globals==mainGlobals)&&(fd.builtins==builtinsNs)&&
  (d.params.all fun p=>storeKind (fd.scope.names.lookup (Str.ofString p)))&&nodupS (fd.scope.names.map (·.1))&&nodupS ((cellsFrom 0 fd.scope.names []).map (·.1))&&(fd.scope.isCoroutine==false)&&(fd.scope.isGenerator==false)&&(fd.scope.kind==.function)&&
  isNilL fd.params.posonlyargs&&isNilL fd.params.vararg.toList&&isNilL fd.params.kwonlyargs&&isNilL fd.params.kwarg.toList
theorem fnIs_of {T:Tab}{h:Heap}{a:Addr}{o:Obj}{fd:FuncData}{d:MFn}(ho:h.get? a=some o)(hd:o.data=.func fd)(hc:h.CodeRec fd.code fd.qualname)(hdf:fd.defaults=.none)(hk:fdOk T fd d=true):
  ∃ body,FnIs h a fd body d.params∧okSs T 100 fd.scope.names d.body body=true:=by
 obtain ⟨body,hb,h4⟩:=bany hk
 have h3:=bl h4
 have h2:=bl h3
 have h1:=bl h2
 have g5:=bl h1
 have g4:=bl g5
 have g3:=bl g4
 have g2:=bl g3
 have g1:=bl g2
 have f5:=bl g1
 have f4:=bl f5
 have f3:=bl f4
 have f2:=bl f3
 have f1:=bl f2
 have e:=bl f1
 exact ⟨body,{
  at_:=⟨o,ho,hd⟩
  body:=stmtsOf_eq hb
  par:=⟨_,_,_,par_of (br h1) (br h2) (br h3) (br h4),argsAre_eq (br e)⟩
  dflt:=hdf
  nodup:=nodupS_of (br f1)
  clo:=nil_of (br f2) rfl
  glob:=eq_of_beq (br f3)
  blt:=eq_of_beq (br f4)
  code:=hc
  kinds:=fun x hx=>(List.mem_map.mp hx).elim fun p z=>z.2▸storeKind_of (List.all_eq_true.mp (br f5) p z.1)
  names:=nodupS_of (br g1)
  cells:=nodupS_of (br g2)
  co:=eq_of_beq (br g3)
  gen:=eq_of_beq (br g4)
  kind:=eq_of_beq (br g5)},bl e⟩
noncomputable def funcOf (o:Obj):Option FuncData:=match o.data with
 | .func fd=>some fd
 |_=>none
theorem funcOf_eq {o:Obj}{fd:FuncData}(h:funcOf o=some fd):o.data=.func fd:=by
 unfold funcOf at h
 split at h
 ·cases h;assumption
 ·cases h
noncomputable def fnOk (K:PySem.W.Frag)(T:Tab)(a:Addr)(d:MFn):Bool:=(K.lookup a).any fun o=>(funcOf o).any fun fd=>fdOk T fd d&&isNone fd.defaults&&PySem.W.codeIn K fd.code fd.qualname
theorem isNone_eq {v:Value}(h:isNone v=true):v=.none:=by cases v<;>first|rfl|cases h
theorem fn_sound {W:Amb}{K:PySem.W.Frag}{T:Tab}{Δ:CallT}{n:Nat}{a:Addr}{d:MFn}(F:Facts W K)(TT:TabOk W K T)(HΔ:∀ f a,addrOf T f a→SndF W n (fun hd=>Δ hd f) (.ref a))(h:fnOk K T a d=true):
  SndF W (n+2) (fun hd vs H Q X=>d.params.length=vs.length∧wSs Δ hd d.body (Sto.ofArgs d.params vs) H (fun _ H'=>Q .none H') Q (fun c _ H'=>X c H')) (.ref a):=by
 obtain ⟨o,ho,h⟩:=bany h
 obtain ⟨fd,hf,h⟩:=bany h
 obtain ⟨body,D,h14⟩:=fnIs_of (F.inn _ _ ho) (funcOf_eq hf) (PySem.W.codeRec_of F.inn (br h)) (isNone_eq (br (bl h))) (bl (bl h))
 intro hd A fs Ψ H s vs mvs Q X C S v z
 exact call_fn F D ((okStm F TT HΔ 100).2 _ _ _ h14) C S v z
theorem sound {W:Amb}{K:PySem.W.Frag}{T:Tab}{P:MProg}(F:Facts W K)(TT:TabOk W K T)(hP:∀ f a d,addrOf T f a→P.fn f=some d→fnOk K T a d=true):
  ∀ m f a,addrOf T f a→SndF W (4*m) (fun hd=>callW P m hd f) (.ref a):=by
 intro m
 induction m with
 |zero=>intro f a _ hd A fs Ψ H s vs mvs Q X C S hv h;exact h.elim
 |succ m ih=>
  intro f a ha hd' A fs Ψ H s vs mvs Q X C S hv h
  obtain ⟨d,hd,h⟩:=h
  exact fn_sound F TT ih (hP f a d ha hd) (C.le (by lia)) S hv h
end Mine
end
section
namespace Mine
open PySem
noncomputable def progOk (K:PySem.W.Frag)(T:Tab)(P:MProg):Bool:=
 (T.fns.all fun p=>(P.fn p.1).all (fnOk K T p.2))&&(T.meths.all fun p=>(P.fn p.1).all (fnOk K T p.2))&&(!T.mks||(P.fn "__init__").all (fnOk K T T.init))
theorem all_some {α:Type}{o:Option α}{f:α→Bool}{a:α}(h:o.all f=true)(e:o=some a):f a=true:=by
 rw [e] at h;exact h
theorem progOk_of {K:PySem.W.Frag}{T:Tab}{P:MProg}(h:progOk K T P=true):∀ f a d,addrOf T f a→P.fn f=some d→fnOk K T a d=true:=fun f a d ha hd=>
 ha.elim (fun z=>all_some (List.all_eq_true.mp (bl (bl h)) _ (lookS_mem z)) hd) fun z=>z.elim (fun z=>all_some (List.all_eq_true.mp (br (bl h)) _ (lookS_mem z)) hd) fun z=>z.2.2▸all_some (bnot (br h) z.2.1) (z.1▸hd)
theorem entry {prog:Program}{w:World}{K:PySem.W.Frag}{T:Tab}{P:MProg}{ca:String→Addr}{fa script:Addr}{fd:FuncData}{body:List Stmt}{params:List String}{ms:MSs}{s₁:Shared}{vals:List Value}{is:List Int}{pv:Program}{loose:List Str}{mean:ExcName→Option Value}{mg mb:Str→Option Value}{R:Result→Shared→Prop}
  (X:K.In s₁.heap) (Tp:PyProof.Rows.Top pv loose mean mg mb s₁.heap) (hg:s₁.gens=#[]) (ht:tabOk ca K T=true) (hP:progOk K T P=true) (D:FnIs s₁.heap fa fd body params) (hbody:okSs T 100 fd.scope.names ms body=true)
  (hL:s₁.heap.IsList script vals.toArray) (hI:PyProof.Rows.IntsAre vals is) (hsm:is.length≤63) (M:Nat) (hM:M≤100) (hpar:params.length=1)
  (hw:∀ H:MH,H script=some (.ro (is.map .int))→wSs (callW P M) false ms (Sto.ofArgs params [.ref script]) H (fun _ _=>MV.none=.bool true) (fun v _=>v=.bool true) (fun _ _ _=>False))
  (fin:∀ s',s₁.heap.StaysIn s'.heap→s'.gens=#[]→s'.os=s₁.os→R (.ok (.ret (.bool true))) s'):
  codeAny (model prog w) callerA (.call (.ref fa) ⟨[.ref script],[]⟩) R s₁:=by
 have hbig:∃ a o,sysModules<a∧s₁.heap.get? a=some o:=by
  obtain ⟨_,⟨o,_,_,ho,_⟩,_⟩:=Tp.nodigits
  exact ⟨_,o,by decide,ho⟩
 let W:Amb:=⟨prog,w,s₁.heap,ca,s₁.gens,s₁.os,hbig⟩
 have F:Facts W K:=⟨X,⟨pv,loose,mg,mb,PySem.W.topRead_of Tp⟩,Tp.nolimit⟩
 have TT:TabOk W K T:=tabOk_of ht
 have HS:=sound F TT (progOk_of hP) M
 have hb:SndSs W (callW P M) (4*M+1) fd.scope.names ms body:=(okStm F TT HS 100).2 _ _ _ hbody
 let Ψ:Psi:=fun a=>if a=script then some (.ro (is.map .int)) else none
 let H:MH:=fun a=>if a=script then some (.ro (is.map .int)) else none
 have S:St W [] Ψ H s₁:=by
  have inv:∀ a k,Ψ a=some k→a=script∧k=.ro (is.map .int):=fun a k e=>by
   have e':(if a=script then some (HK.ro (is.map .int)) else none)=some k:=e
   split at e'
   ·rename_i q;cases e';exact ⟨q,rfl⟩
   ·cases e'
  refine ⟨fun a k e=>?_,fun a k e hx=>?_,fun a o e=>?_,fun _ _ e=>e,fun e he=>(by cases he),rfl,rfl,fun a es e=>?_⟩
  ·obtain ⟨rfl,rfl⟩:=inv a k e
   obtain ⟨o,ho,hc,n,hd⟩:=hL
   exact ⟨o,ho,_,n,hc,hd,of_intsAre hI,by rw [List.length_map];exact Nat.le_trans hsm (by decide)⟩
  ·obtain ⟨_,rfl⟩:=inv a k e;exact absurd rfl (hx _)
  ·have e':(if a=script then some (MObj.ro (is.map .int)) else none)=some o:=e
   split at e'
   ·rename_i q;cases e';exact if_pos q
   ·cases e'
  ·obtain ⟨_,q⟩:=inv a _ e;cases q
 have C:CxC (4*M+1+1) false callerA []:=⟨rfl,fun _=>rfl,by show 1+claimMargin+(4*M+1+1)≤900;unfold claimMargin;lia,by show 4+4*(4*M+1+1)≤9000;lia⟩
 refine codeAny_mono (call_fn F D hb (Q:=fun v _=>v=.bool true) (X:=fun _ _=>False) C S (vs:=[.ref script]) (mvs:=[.ref script]) (.cons .ref .nil) ⟨hpar,?_⟩) fun r s' h=>?_
 ·exact hw H (if_pos rfl)
 ·cases r with
  |error e=>obtain ⟨_,_,_,_,_,_,_,_,q⟩:=h;exact q.elim
  |ok f=>
   cases f with
   |ret v=>
    obtain ⟨Ψ',H',mv,S',K',v',rfl⟩:=h
    obtain rfl:=vbool v'
    exact fin s' S'.base (S'.gens.trans hg) S'.os
   |_=>exact h.elim
open PySem.W in
theorem good_true {c:ClaimW}{cl:Str→Option Addr}{mean:ExcName→Option Value}{args:List WData}{s₁ s':Shared}(hk:s₁.heap.StaysIn s'.heap)(hg:s'.gens=#[])(hos:s'.os=s₁.os)(hn:∀ cls,c.raises args cls=false)(hp:c.post args (.bool true) args=true):
  GoodW c cl mean args s₁ (.ok (.ret (.bool true))) s':=⟨.inl ⟨_,_,[],rfl,hn,.bool true,hp,fun _=>⟨.nil,fun _ h=>by cases h⟩⟩,hk,hos,hg⟩
end Mine
end
section
namespace Mine
open PySem
open PySem.W in
theorem claim_of {row:RowW}{w:World}{K:PySem.W.Frag}{T:Tab}{P:MProg}{ca:String→Addr}{fa script:Addr}{fd:FuncData}{d:MFn}{o:Obj}{s₁:Shared}{vals:List Value}{is:List Int}{pv:Program}{loose:List Str}{mean:ExcName→Option Value}{mg mb:Str→Option Value}{cl:Str→Option Addr}{args:List WData}{x:String}
  (X:K.In s₁.heap) (Tp:PyProof.Rows.Top pv loose mean mg mb s₁.heap) (hg:s₁.gens=#[]) (ht:tabOk ca K T=true) (hP:progOk K T P=true)
  (ho:s₁.heap.get? fa=some o) (hd:o.data=.func fd) (hc:s₁.heap.CodeRec fd.code fd.qualname) (hdf:fd.defaults=.none) (hk:fdOk T fd d=true) (hpar:d.params=[x])
  (hL:s₁.heap.IsList script vals.toArray) (hI:PyProof.Rows.IntsAre vals is) (hlen:¬((63:Nat):Int)<(is.length:Int)) (M:Nat) (hM:M≤100)
  (law:is.length≤63→∀ H:MH,H script=some (.ro (is.map .int))→wSs (callW P M) false d.body (Sto.ofArgs [x] [.ref script]) H (fun _ _=>MV.none=.bool true) (fun v _=>v=.bool true) (fun _ _ _=>False))
  (hn:∀ cls,row.claim.raises args cls=false) (hp:row.claim.post args (.bool true) args=true):
  codeAny (model row.prog w) callerA (.call (.ref fa) ⟨[.ref script],[]⟩) (GoodW row.claim cl mean args s₁) s₁:=by
 obtain ⟨body,D,hb⟩:=fnIs_of ho hd hc hdf hk
 rw [hpar] at D
 exact entry X Tp hg ht hP D hb hL hI (by lia) M hM rfl (law (by lia)) fun s' h1 h2 h3=>good_true h1 h2 h3 hn hp
end Mine
end
section
namespace Mine
open PySem PySem.W
theorem left_of_run {p q:Program}{loose:List Str}{Xt:Shared→Bool}{α:Type}{Yf:Shared→α}{Ya:World→α}{N:Nat}{g0:Bool}{H₀:Params→Heap}{gs₀:Array GenState}{d₀:Drawn}{k₀:Nat}{m₀:Nat}{ann:Option Value}
  (open_:∀ w:World,(fencedOpening treeTable p w N).map (fun s=>(s.heap,s.gens,s.drawn,s.toks))=some (H₀ w.params,gs₀,d₀,k₀))
  (size:∀ w:World,((H₀ w.params).isNs mainGlobals&&gs₀.size==0,(H₀ w.params).objs.size,(H₀ w.params).nsMap mainGlobals "__annotations__")=(true,m₀,ann))
  (run:∀ w:World,(fun os=>(topRun treeTable p w m₀ ann N ⟨H₀ w.params,gs₀,d₀,k₀,os⟩ (topStub p)).map fun s₁=>((staticsOk (importedModules p.main.body) (H₀ w.params) s₁.heap&&namesBound p s₁.heap&&gensDone s₁&&laidKept (H₀ w.params) s₁.heap),
    openSeen q loose (importedModules p.main.body) Xt g0 s₁,Yf s₁))=fun _=>some (true,openGood q loose,Ya w)):LeftO p q loose Xt Yf Ya N g0:=fun w=>by
 obtain ⟨⟨h,gs,d,k,os⟩,e,e'⟩:=Option.map_eq_some_iff.mp (open_ w)
 obtain ⟨rfl,rfl,rfl,rfl⟩:h=H₀ w.params∧gs=gs₀∧d=d₀∧k=k₀:=by simpa using e'
 obtain ⟨z1,z2,z3⟩:_∧_∧_:=by simpa only [Prod.mk.injEq] using size w
 obtain ⟨s₁,r,l⟩:=Option.map_eq_some_iff.mp (congrFun (run w) os)
 obtain ⟨l1,l2,l3⟩:_∧_∧_:=by simpa only [Prod.mk.injEq] using l
 have t:topFrom treeTable p w N ⟨H₀ w.params,gs,d,k,os⟩=some s₁:=by
  unfold topFrom
  dsimp only
  rw [z1,z2,z3,r]
  show (match staticsOk (importedModules p.main.body) (H₀ w.params) s₁.heap&&namesBound p s₁.heap&&gensDone s₁&&laidKept (H₀ w.params) s₁.heap with|true=>_|false=>_)=_
  rw [l1]
 unfold openEnds
 rw [e]
 show (topFrom treeTable p w N ⟨H₀ w.params,gs,d,k,os⟩).map _=_
 rw [t,Option.map_some,l2,l3]
noncomputable def fragOfHeap (as:List Addr)(h:Heap):Frag:=as.filterMap fun a=>match h.get? a with
 |some o=>some (a,o)
 |none=>none
theorem fragOf_in:∀(as:List Addr) (h:Heap),(fragOfHeap as h).In h
 | [],_,a,o,e=>by cases e
 |b::as,h,a,o,e=>by
  unfold fragOfHeap at e
  rw [List.filterMap_cons] at e
  cases q:h.get? b with
  |none=>rw [q] at e;exact fragOf_in as h a o e
  |some x=>
   rw [q] at e
   change List.lookup a ((b,x)::fragOfHeap as h)=some o at e
   rw [List.lookup_cons] at e
   cases z:a==b with
   |true=>rw [z] at e;cases e;rw [beq_iff_eq.mp z];exact q
   |false=>rw [z] at e;exact fragOf_in as h a o e
noncomputable def lawHook (as:List Addr)(ca:String→Addr)(T:Tab)(P:MProg):Hook:=
 ⟨Bool,fun s=>tabOk ca (fragOfHeap as s.heap) T&&progOk (fragOfHeap as s.heap) T P,fun _=>true,fun _ h=>∃ K:Frag,K.In h∧tabOk ca K T=true∧progOk K T P=true,
 fun _ s e=>⟨fragOfHeap as s.heap,fragOf_in _ _,(Bool.and_eq_true_iff.mp e).1,(Bool.and_eq_true_iff.mp e).2⟩,fun _ _ _ ⟨K,k1,k2⟩ hk=>⟨K,fun a o e=>hk a o (k1 a o e),k2⟩⟩
end Mine
end
section
namespace Mine
open PySem PySem.W
theorem goT_top {tb:String→Option Builtin}{p:Program}{w:World}{n₀:Nat}{ann:Option Value}:∀{n:Nat} {s s':SharedT} {t:Thread},goT (stepOk n₀ ann) (stepT (denote tb) p w) n s t=some s'→topRun tb p w n₀ ann n s.abs t=some s'.abs
 |0,_,_,_,h=>by cases h
 |n+1,s,s',t,h=>by
  unfold goT at h
  unfold topRun
  cases he:through t with
  |true=>rw [he] at h;cases h;rfl
  |false=>
   rw [he] at h
   cases hk:stepOk n₀ ann t with
   |false=>rw [hk] at h;cases h
   |true=>
    rw [hk] at h
    cases hs:stepT (denote tb) p w s t with
    |none=>rw [hs] at h;cases h
    |some r=>rw [hs] at h;rw [stepT_spec hs];exact goT_top h
theorem left_of_tree {p q:Program}{loose:List Str}{Xt:Shared→Bool}{α:Type}{Yf:Shared→α}{Ya:World→α}{N:Nat}{g0:Bool}{gs₀:Array GenState}{d₀:Drawn}{k₀:Nat}{m₀:Nat}{ann:Option Value}
  (open_:∀ w:World,(fencedOpening treeTable p w N).map (fun s=>(s.heap,s.gens,s.drawn,s.toks))=some (boot_heap w.params,gs₀,d₀,k₀))
  (size:∀ w:World,((boot_heap w.params).isNs mainGlobals&&gs₀.size==0,(boot_heap w.params).objs.size,(boot_heap w.params).nsMap mainGlobals "__annotations__")=(true,m₀,ann))
  (tree:∀ w:World,absHeap (bootTree w.params) m₀ (boot_heap w.params).life=boot_heap w.params)
  (run:∀ w:World,(fun os=>(goT (stepOk m₀ ann) (stepT (denote treeTable) p w) N ⟨bootTree w.params,m₀,(boot_heap w.params).life,gs₀,d₀,k₀,os⟩ (topStub p)).map fun s₁=>((staticsOk (importedModules p.main.body) (boot_heap w.params) s₁.abs.heap&&namesBound p s₁.abs.heap&&gensDone s₁.abs&&laidKept (boot_heap w.params) s₁.abs.heap),
    openSeen q loose (importedModules p.main.body) Xt g0 s₁.abs))=fun _=>some (true,openGood q loose))
  (seen:∀ w:World,(fun os=>(goT (stepOk m₀ ann) (stepT (denote treeTable) p w) N ⟨bootTree w.params,m₀,(boot_heap w.params).life,gs₀,d₀,k₀,os⟩ (topStub p)).map fun s₁=>Yf s₁.abs)=fun _=>some (Ya w)):LeftO p q loose Xt Yf Ya N g0:=
 left_of_run open_ size fun w=>by
  funext os
  obtain ⟨s₁,r,l⟩:=Option.map_eq_some_iff.mp (congrFun (run w) os)
  obtain ⟨s₂,r2,l2⟩:=Option.map_eq_some_iff.mp (congrFun (seen w) os)
  rw [r] at r2;cases r2
  have:=goT_top r
  unfold SharedT.abs at this
  dsimp only at this
  rw [tree w] at this
  rw [this,Option.map_some]
  obtain ⟨l1,l3⟩:_∧_:=by simpa only [Prod.mk.injEq] using l
  have l1':(staticsOk (importedModules p.main.body) (boot_heap w.params) s₁.abs.heap&&namesBound p s₁.abs.heap&&gensDone s₁.abs&&laidKept (boot_heap w.params) s₁.abs.heap)=true:=l1
  have l3':openSeen q loose (importedModules p.main.body) Xt g0 s₁.abs=openGood q loose:=l3
  have l2':Yf s₁.abs=Ya w:=l2
  unfold SharedT.abs at l1' l3' l2'
  rw [l1',l3',l2']
end Mine
end
section
namespace Mine
open PySem
noncomputable def f_law:MFn:=⟨["_law_script"],
 (.cons (.assign "_law_built_here" (.call "_law_built" (.cons (.var "_law_script") .nil)))
 (.cons (.assign "_law_train" (.sub (.var "_law_built_here") (.int 0)))
 (.cons (.assign "_law_world_here" (.sub (.var "_law_built_here") (.int 1)))
 (.cons (.assign "_law_stops_here" (.bin .add (.bi "len" (.cons (.sub (.sub (.var "_law_world_here") (.int 0)) (.int 0)) .nil)) (.int 1)))
 (.cons (.for_ "_law_cell" (.call "_law_cells" (.cons (.var "_law_script") .nil))
 (.cons (.assign "_law_deed" (.call "_law_deed_by" (.cons (.var "_law_cell") (.cons (.sub (.var "_law_world_here") (.int 1)) (.cons (.var "_law_stops_here") .nil)))))
 (.cons (.ite (.cmp (.sub (.call "_law_word" (.cons (.var "_law_train") (.cons (.var "_law_deed") .nil))) (.int 0)) (.cons .ne (.sub (.call "_law_done_by" (.cons (.var "_law_world_here") (.cons (.var "_law_deed") .nil))) (.int 0)) .nil))
 (.cons (.ret (.bool false))
 .nil)
 .nil)
 .nil)))
 (.cons (.assign "_law_found_here" (.call "written" (.cons (.var "_law_train") .nil)))
 (.cons (.ite (.or (.cons (.not (.isinst (.var "_law_found_here") "str")) (.cons (.cmp (.var "_law_found_here") (.cons .ne (.call "_law_text_of" (.cons (.var "_law_world_here") .nil)) .nil)) .nil)))
 (.cons (.ret (.bool false))
 .nil)
 .nil)
 (.cons (.assign "_law_other" (.call "read" (.cons (.var "_law_found_here") .nil)))
 (.cons (.ite (.or (.cons (.not (.call "_law_tells" (.cons (.var "_law_other") (.cons (.var "_law_world_here") (.cons (.call "_law_cell_at" (.cons (.var "_law_script") (.cons (.int 2) .nil))) .nil))))) (.cons (.not (.call "_law_packs" (.cons (.var "_law_other") (.cons (.var "_law_world_here") .nil)))) .nil)))
 (.cons (.ret (.bool false))
 .nil)
 .nil)
 (.cons (.ite (.or (.cons (.not (.call "_law_like" (.cons (.var "_law_other") (.cons (.var "_law_world_here") .nil)))) (.cons (.not (.call "_law_like" (.cons (.var "_law_train") (.cons (.var "_law_world_here") .nil)))) .nil)))
 (.cons (.ret (.bool false))
 .nil)
 .nil)
 (.cons (.for_ "_law_k" (.bi "range" (.cons (.bin .mod (.bin .fdiv (.call "_law_cell_at" (.cons (.var "_law_script") (.cons (.int 0) .nil))) (.int 7)) (.int 6)) .nil))
 (.cons (.assign "_law_deed" (.call "_law_deed_by" (.cons (.bin .add (.call "_law_cell_at" (.cons (.var "_law_script") (.cons (.int 1) .nil))) (.bin .mul (.int 11) (.var "_law_k"))) (.cons (.sub (.var "_law_world_here") (.int 1)) (.cons (.var "_law_stops_here") .nil)))))
 (.cons (.assign "_law_due" (.call "_law_done_by" (.cons (.var "_law_world_here") (.cons (.var "_law_deed") .nil))))
 (.cons (.ite (.or (.cons (.cmp (.call "_law_word" (.cons (.var "_law_other") (.cons (.var "_law_deed") .nil))) (.cons .ne (.var "_law_due") .nil)) (.cons (.cmp (.call "_law_word" (.cons (.var "_law_train") (.cons (.var "_law_deed") .nil))) (.cons .ne (.var "_law_due") .nil)) .nil)))
 (.cons (.ret (.bool false))
 .nil)
 .nil)
 (.cons (.ite (.or (.cons (.cmp (.call "written" (.cons (.var "_law_other") .nil)) (.cons .ne (.call "_law_text_of" (.cons (.var "_law_world_here") .nil)) .nil)) (.cons (.not (.call "_law_like" (.cons (.var "_law_other") (.cons (.var "_law_world_here") .nil)))) .nil)))
 (.cons (.ret (.bool false))
 .nil)
 .nil)
 (.cons (.ite (.or (.cons (.not (.call "_law_tells" (.cons (.var "_law_other") (.cons (.var "_law_world_here") (.cons (.bin .add (.call "_law_cell_at" (.cons (.var "_law_script") (.cons (.int 2) .nil))) (.var "_law_k")) .nil))))) (.cons (.not (.call "_law_packs" (.cons (.var "_law_other") (.cons (.var "_law_world_here") .nil)))) .nil)))
 (.cons (.ret (.bool false))
 .nil)
 .nil)
 .nil))))))
 (.cons (.assign "_law_found_here" (.call "_law_text_of" (.cons (.var "_law_world_here") .nil)))
 (.cons (.assign "_law_deed" (.tup (.cons (.str "sell") (.cons (.int 0) (.cons (.bin .sub (.var "_law_stops_here") (.int 1)) .nil)))))
 (.cons (.assign "_law_told_here" (.call "_law_word" (.cons (.var "_law_other") (.cons (.var "_law_deed") .nil))))
 (.cons (.ite (.or (.cons (.not (.call "_law_like" (.cons (.var "_law_train") (.cons (.var "_law_world_here") .nil)))) (.cons (.cmp (.var "_law_told_here") (.cons .ne (.call "_law_done_by" (.cons (.var "_law_world_here") (.cons (.var "_law_deed") .nil))) .nil)) (.cons (.not (.call "_law_like" (.cons (.var "_law_other") (.cons (.var "_law_world_here") .nil)))) .nil))))
 (.cons (.ret (.bool false))
 .nil)
 .nil)
 (.cons (.ite (.or (.cons (.cmp (.call "written" (.cons (.var "_law_train") .nil)) (.cons .ne (.var "_law_found_here") .nil)) (.cons (.cmp (.call "_law_word" (.cons (.var "_law_train") (.cons (.var "_law_deed") .nil))) (.cons .ne (.var "_law_told_here") .nil)) (.cons (.cmp (.call "written" (.cons (.var "_law_train") .nil)) (.cons .ne (.call "_law_text_of" (.cons (.var "_law_world_here") .nil)) .nil)) .nil))))
 (.cons (.ret (.bool false))
 .nil)
 .nil)
 (.cons (.ret (.cmp (.call "written" (.cons (.var "_law_other") .nil)) (.cons .eq (.call "_law_text_of" (.cons (.var "_law_world_here") .nil)) .nil)))
 .nil)))))))))))))))))⟩
noncomputable def f__law_text_of:MFn:=⟨["_law_world_here"],
 (.cons (.assign "_law_rows_here" (.list (.cons (.bm (.str " ") "join" (.cons (.list (.cons (.str "train") (.cons (.bi "str" (.cons (.bi "len" (.cons (.sub (.var "_law_world_here") (.int 0)) .nil)) .nil)) (.cons (.bi "str" (.cons (.bin .add (.bi "len" (.cons (.sub (.sub (.var "_law_world_here") (.int 0)) (.int 0)) .nil)) (.int 1)) .nil)) (.cons (.bi "str" (.cons (.sub (.var "_law_world_here") (.int 3)) .nil)) .nil))))) .nil)) .nil)))
 (.cons (.for_ "_law_k" (.bi "range" (.cons (.bi "len" (.cons (.sub (.var "_law_world_here") (.int 1)) .nil)) .nil))
 (.cons (.assign "_law_row" (.bin .add (.str "ticket ") (.bi "str" (.cons (.sub (.sub (.var "_law_world_here") (.int 1)) (.var "_law_k")) .nil))))
 (.cons (.for_ "_law_one" (.sub (.sub (.var "_law_world_here") (.int 2)) (.var "_law_k"))
 (.cons (.assign "_law_row" (.bin .add (.bin .add (.bin .add (.bin .add (.bin .add (.bin .add (.var "_law_row") (.str " ")) (.bi "str" (.cons (.sub (.var "_law_one") (.int 0)) .nil))) (.str " ")) (.bi "str" (.cons (.sub (.var "_law_one") (.int 1)) .nil))) (.str " ")) (.bi "str" (.cons (.sub (.var "_law_one") (.int 2)) .nil))))
 .nil))
 (.cons (.expr (.bm (.var "_law_rows_here") "append" (.cons (.var "_law_row") .nil)))
 .nil))))
 (.cons (.ret (.bm (.str "\n") "join" (.cons (.var "_law_rows_here") .nil)))
 .nil)))⟩
noncomputable def f_written:MFn:=⟨["train"],
 (.cons (.assign "lines" (.list (.cons (.call "line_of" (.cons (.str "train") (.cons (.bin .add (.bi "list" (.cons (.meth (.var "train") "size" .nil) .nil)) (.list (.cons (.attr (.var "train") "coming") .nil))) .nil))) .nil)))
 (.cons (.for_ "ticket" (.meth (.var "train") "tickets" .nil)
 (.cons (.assign "numbers" (.list (.cons (.var "ticket") .nil)))
 (.cons (.for_ "part" (.meth (.var "train") "parts" (.cons (.var "ticket") .nil))
 (.cons (.assign "numbers" (.bin .add (.var "numbers") (.bi "list" (.cons (.var "part") .nil))))
 .nil))
 (.cons (.expr (.bm (.var "lines") "append" (.cons (.call "line_of" (.cons (.str "ticket") (.cons (.var "numbers") .nil))) .nil)))
 .nil))))
 (.cons (.ret (.bm (.str "\n") "join" (.cons (.var "lines") .nil)))
 .nil)))⟩
noncomputable def f__law_word:MFn:=⟨["_law_train","_law_deed"],
 (.cons (.try_ (.cons (.ret (.tup (.cons (.str "") (.cons (.call "_law_told" (.cons (.var "_law_train") (.cons (.var "_law_deed") .nil))) .nil))))
 .nil) "_law_e"
 (.cons (.ret (.tup (.cons (.call "_law_class" (.cons (.var "_law_e") .nil)) (.cons .none .nil))))
 .nil))
 .nil)⟩
noncomputable def f__law_like:MFn:=⟨["_law_train","_law_world_here"],
 (.cons (.assign "_law_stops_here" (.bin .add (.bi "len" (.cons (.sub (.sub (.var "_law_world_here") (.int 0)) (.int 0)) .nil)) (.int 1)))
 (.cons (.ite (.or (.cons (.cmp (.meth (.var "_law_train") "size" .nil) (.cons .ne (.tup (.cons (.bi "len" (.cons (.sub (.var "_law_world_here") (.int 0)) .nil)) (.cons (.var "_law_stops_here") .nil))) .nil)) (.cons (.not (.call "_law_numbers" (.cons (.meth (.var "_law_train") "tickets" .nil) (.cons (.sub (.var "_law_world_here") (.int 1)) .nil)))) .nil)))
 (.cons (.ret (.bool false))
 .nil)
 .nil)
 (.cons (.for_ "_law_k" (.bi "range" (.cons (.bi "len" (.cons (.sub (.var "_law_world_here") (.int 1)) .nil)) .nil))
 (.cons (.ite (.not (.call "_law_rows" (.cons (.meth (.var "_law_train") "parts" (.cons (.sub (.sub (.var "_law_world_here") (.int 1)) (.var "_law_k")) .nil)) (.cons (.sub (.sub (.var "_law_world_here") (.int 2)) (.var "_law_k")) .nil))))
 (.cons (.ret (.bool false))
 .nil)
 .nil)
 .nil))
 (.cons (.for_ "_law_seat" (.bi "range" (.cons (.bi "len" (.cons (.sub (.var "_law_world_here") (.int 0)) .nil)) .nil))
 (.cons (.for_ "_law_leg" (.bi "range" (.cons (.bin .sub (.var "_law_stops_here") (.int 1)) .nil))
 (.cons (.assign "_law_held" (.meth (.var "_law_train") "holder" (.cons (.var "_law_seat") (.cons (.var "_law_leg") .nil))))
 (.cons (.ite (.or (.cons (.and (.cons (.cmp (.var "_law_held") (.cons .isnot .none .nil)) (.cons (.not (.call "_law_whole" (.cons (.var "_law_held") .nil))) .nil))) (.cons (.cmp (.var "_law_held") (.cons .ne (.sub (.sub (.sub (.var "_law_world_here") (.int 0)) (.var "_law_seat")) (.var "_law_leg")) .nil)) .nil)))
 (.cons (.ret (.bool false))
 .nil)
 .nil)
 .nil)))
 .nil))
 (.cons (.ret (.bool true))
 .nil)))))⟩
noncomputable def f__law_done_by:MFn:=⟨["_law_world_here","_law_deed"],
 (.cons (.ite (.cmp (.sub (.var "_law_deed") (.int 0)) (.cons .eq (.str "sell") .nil))
 (.cons (.ret (.call "_law_sold_by" (.cons (.var "_law_world_here") (.cons (.sub (.var "_law_deed") (.int 1)) (.cons (.sub (.var "_law_deed") (.int 2)) .nil)))))
 .nil)
 .nil)
 (.cons (.ite (.cmp (.sub (.var "_law_deed") (.int 1)) (.cons .notin (.sub (.var "_law_world_here") (.int 1)) .nil))
 (.cons (.ret (.tup (.cons (.str "ticket") (.cons .none .nil))))
 .nil)
 .nil)
 (.cons (.assign "_law_at" (.bm (.sub (.var "_law_world_here") (.int 1)) "index" (.cons (.sub (.var "_law_deed") (.int 1)) .nil)))
 (.cons (.assign "_law_found_here" (.sub (.sub (.var "_law_world_here") (.int 2)) (.var "_law_at")))
 (.cons (.ite (.cmp (.sub (.var "_law_deed") (.int 0)) (.cons .eq (.str "leave") .nil))
 (.cons (.ite (.or (.cons (.cmp (.sub (.var "_law_deed") (.int 2)) (.cons .le (.sub (.sub (.var "_law_found_here") (.int 0)) (.int 1)) .nil)) (.cons (.cmp (.sub (.var "_law_deed") (.int 2)) (.cons .ge (.sub (.sub (.var "_law_found_here") (.neg (.int 1))) (.int 2)) .nil)) .nil)))
 (.cons (.ret (.tup (.cons (.str "stop") (.cons .none .nil))))
 .nil)
 .nil)
 (.cons (.assign "_law_both" (.call "_law_left" (.cons (.var "_law_found_here") (.cons (.sub (.var "_law_deed") (.int 2)) .nil))))
 (.cons (.expr (.call "_law_mark" (.cons (.sub (.var "_law_world_here") (.int 0)) (.cons (.sub (.var "_law_both") (.int 1)) (.cons .none .nil)))))
 (.cons (.setIdx (.sub (.var "_law_world_here") (.int 2)) (.var "_law_at") (.sub (.var "_law_both") (.int 0)))
 (.cons (.ret (.tup (.cons (.str "") (.cons (.sub (.var "_law_both") (.int 1)) .nil))))
 .nil)))))
 .nil)
 (.cons (.expr (.call "_law_mark" (.cons (.sub (.var "_law_world_here") (.int 0)) (.cons (.var "_law_found_here") (.cons .none .nil)))))
 (.cons (.ite (.cmp (.sub (.var "_law_deed") (.int 0)) (.cons .eq (.str "back") .nil))
 (.cons (.expr (.bm (.sub (.var "_law_world_here") (.int 1)) "pop" (.cons (.var "_law_at") .nil)))
 (.cons (.expr (.bm (.sub (.var "_law_world_here") (.int 2)) "pop" (.cons (.var "_law_at") .nil)))
 (.cons (.ret (.tup (.cons (.str "") (.cons (.var "_law_found_here") .nil))))
 .nil)))
 .nil)
 (.cons (.setIdx (.sub (.var "_law_world_here") (.int 2)) (.var "_law_at") (.call "_law_found" (.cons (.sub (.var "_law_world_here") (.int 0)) (.cons (.sub (.sub (.var "_law_found_here") (.int 0)) (.int 1)) (.cons (.sub (.sub (.var "_law_found_here") (.neg (.int 1))) (.int 2)) .nil)))))
 (.cons (.expr (.call "_law_mark" (.cons (.sub (.var "_law_world_here") (.int 0)) (.cons (.sub (.sub (.var "_law_world_here") (.int 2)) (.var "_law_at")) (.cons (.sub (.var "_law_deed") (.int 1)) .nil)))))
 (.cons (.ret (.tup (.cons (.str "") (.cons (.sub (.sub (.var "_law_world_here") (.int 2)) (.var "_law_at")) .nil))))
 .nil))))))))))⟩
noncomputable def f__law_cell_at:MFn:=⟨["_law_script","_law_k"],
 (.cons (.ite (.cmp (.var "_law_k") (.cons .lt (.bi "len" (.cons (.var "_law_script") .nil)) .nil))
 (.cons (.ret (.sub (.var "_law_script") (.var "_law_k")))
 .nil)
 .nil)
 (.cons (.ret (.int 0))
 .nil))⟩
noncomputable def f__law_packs:MFn:=⟨["_law_train","_law_world_here"],
 (.cons (.assign "_law_found_here" (.call "packed" (.cons (.var "_law_train") .nil)))
 (.cons (.ite (.or (.cons (.not (.isinst (.var "_law_found_here") "list")) (.cons (.cmp (.bi "len" (.cons (.var "_law_found_here") .nil)) (.cons .ne (.bi "len" (.cons (.sub (.var "_law_world_here") (.int 1)) .nil)) .nil)) .nil)))
 (.cons (.ret (.bool false))
 .nil)
 .nil)
 (.cons (.assign "_law_most" (.bi "max" (.cons (.comp (.bi "len" (.cons (.comp (.var "_law_row") "_law_row" (.sub (.var "_law_world_here") (.int 0)) (.cmp (.sub (.var "_law_row") (.var "_law_leg")) (.cons .isnot .none .nil))) .nil)) "_law_leg" (.bi "range" (.cons (.bi "len" (.cons (.sub (.sub (.var "_law_world_here") (.int 0)) (.int 0)) .nil)) .nil)) (.bool true)) .nil)))
 (.cons (.assign "_law_taken" (.comp (.bin .mul (.list (.cons (.bool false) .nil)) (.bi "len" (.cons (.sub (.sub (.var "_law_world_here") (.int 0)) (.int 0)) .nil))) "_law_seat" (.bi "range" (.cons (.var "_law_most") .nil)) (.bool true)))
 (.cons (.for_ "_law_k" (.bi "range" (.cons (.bi "len" (.cons (.var "_law_found_here") .nil)) .nil))
 (.cons (.assign "_law_one" (.sub (.var "_law_found_here") (.var "_law_k")))
 (.cons (.ite (.or (.cons (.not (.isinst (.var "_law_one") "tuple")) (.cons (.cmp (.bi "len" (.cons (.var "_law_one") .nil)) (.cons .ne (.int 2) .nil)) (.cons (.not (.call "_law_whole" (.cons (.sub (.var "_law_one") (.int 0)) .nil))) (.cons (.not (.call "_law_whole" (.cons (.sub (.var "_law_one") (.int 1)) .nil))) .nil)))))
 (.cons (.ret (.bool false))
 .nil)
 .nil)
 (.cons (.ite (.or (.cons (.cmp (.sub (.var "_law_one") (.int 0)) (.cons .ne (.sub (.sub (.var "_law_world_here") (.int 1)) (.var "_law_k")) .nil)) (.cons (.cmp (.sub (.var "_law_one") (.int 1)) (.cons .lt (.int 0) .nil)) (.cons (.cmp (.sub (.var "_law_one") (.int 1)) (.cons .ge (.var "_law_most") .nil)) .nil))))
 (.cons (.ret (.bool false))
 .nil)
 .nil)
 (.cons (.for_ "_law_leg" (.bi "range" (.cons (.sub (.sub (.sub (.sub (.var "_law_world_here") (.int 2)) (.var "_law_k")) (.int 0)) (.int 1)) (.cons (.sub (.sub (.sub (.sub (.var "_law_world_here") (.int 2)) (.var "_law_k")) (.neg (.int 1))) (.int 2)) .nil)))
 (.cons (.ite (.sub (.sub (.var "_law_taken") (.sub (.var "_law_one") (.int 1))) (.var "_law_leg"))
 (.cons (.ret (.bool false))
 .nil)
 .nil)
 (.cons (.setIdx (.sub (.var "_law_taken") (.sub (.var "_law_one") (.int 1))) (.var "_law_leg") (.bool true))
 .nil)))
 .nil)))))
 (.cons (.ret (.bool true))
 .nil))))))⟩
noncomputable def f__law_tells:MFn:=⟨["_law_train","_law_world_here","_law_cell"],
 (.cons (.assign "_law_order" (.sub (.list (.cons (.list (.cons (.int 0) (.cons (.int 1) (.cons (.int 2) (.cons (.int 3) .nil))))) (.cons (.list (.cons (.int 3) (.cons (.int 1) (.cons (.int 0) (.cons (.int 2) .nil))))) (.cons (.list (.cons (.int 2) (.cons (.int 0) (.cons (.int 3) (.cons (.int 1) .nil))))) (.cons (.list (.cons (.int 1) (.cons (.int 2) (.cons (.int 3) (.cons (.int 0) .nil))))) .nil))))) (.call "_law_mixed" (.cons (.var "_law_cell") (.cons (.int 7) (.cons (.int 4) .nil))))))
 (.cons (.ret (.bi "all" (.cons (.comp (.call "_law_told_of" (.cons (.var "_law_train") (.cons (.sub (.var "_law_world_here") (.int 0)) (.cons (.bin .add (.var "_law_cell") (.bin .mul (.int 5) (.var "_law_way"))) (.cons (.var "_law_way") .nil))))) "_law_way" (.var "_law_order") (.bool true)) .nil)))
 .nil))⟩
noncomputable def f__law_deed_by:MFn:=⟨["_law_cell","_law_sold","_law_stops_here"],
 (.cons (.ite (.isinst (.var "_law_cell") "tuple")
 (.cons (.ret (.var "_law_cell"))
 .nil)
 .nil)
 (.cons (.assign "_law_way" (.sub (.list (.cons (.int 0) (.cons (.int 0) (.cons (.int 0) (.cons (.int 0) (.cons (.int 1) (.cons (.int 2) (.cons (.int 3) (.cons (.int 0) (.cons (.int 4) .nil)))))))))) (.bin .mod (.var "_law_cell") (.int 9))))
 (.cons (.assign "_law_some" (.bin .add (.var "_law_sold") (.list (.cons (.int 0) .nil))))
 (.cons (.assign "_law_ticket" (.sub (.var "_law_some") (.call "_law_mixed" (.cons (.var "_law_cell") (.cons (.int 3) (.cons (.bi "max" (.cons (.int 1) (.cons (.bi "len" (.cons (.var "_law_sold") .nil)) .nil))) .nil))))))
 (.cons (.ite (.cmp (.var "_law_way") (.cons .eq (.int 1) .nil))
 (.cons (.ret (.tup (.cons (.str "back") (.cons (.var "_law_ticket") (.cons (.int 0) .nil)))))
 .nil)
 .nil)
 (.cons (.ite (.cmp (.var "_law_way") (.cons .eq (.int 2) .nil))
 (.cons (.ret (.tup (.cons (.str "leave") (.cons (.var "_law_ticket") (.cons (.bin .sub (.call "_law_mixed" (.cons (.var "_law_cell") (.cons (.int 4) (.cons (.bin .add (.var "_law_stops_here") (.int 2)) .nil)))) (.int 1)) .nil)))))
 .nil)
 .nil)
 (.cons (.ite (.cmp (.var "_law_way") (.cons .eq (.int 3) .nil))
 (.cons (.ret (.tup (.cons (.str "reseat") (.cons (.var "_law_ticket") (.cons (.int 0) .nil)))))
 .nil)
 .nil)
 (.cons (.ite (.and (.cons (.cmp (.var "_law_way") (.cons .eq (.int 4) .nil)) (.cons (.cmp (.bin .mod (.bin .fdiv (.var "_law_cell") (.int 9)) (.int 2)) (.cons .eq (.int 1) .nil)) .nil)))
 (.cons (.assign "_law_kind" (.sub (.list (.cons (.str "back") (.cons (.str "leave") (.cons (.str "reseat") .nil)))) (.bin .mod (.bin .fdiv (.var "_law_cell") (.int 18)) (.int 3))))
 (.cons (.ret (.tup (.cons (.var "_law_kind") (.cons (.sub (.list (.cons (.neg (.int 1)) (.cons (.bin .add (.bi "len" (.cons (.var "_law_sold") .nil)) (.int 400)) (.cons (.bin .add (.var "_law_ticket") (.int 1)) (.cons (.bin .pow (.int 10) (.int 12)) .nil))))) (.bin .mod (.bin .fdiv (.var "_law_cell") (.int 54)) (.int 4))) (.cons (.int 1) .nil)))))
 .nil))
 .nil)
 (.cons (.assign "_law_stretch" (.call "_law_stretch_by" (.cons (.var "_law_cell") (.cons (.var "_law_stops_here") .nil))))
 (.cons (.ite (.cmp (.var "_law_way") (.cons .eq (.int 4) .nil))
 (.cons (.assign "_law_end" (.sub (.list (.cons (.sub (.var "_law_stretch") (.int 0)) (.cons (.bin .sub (.sub (.var "_law_stretch") (.int 0)) (.int 1)) (.cons (.var "_law_stops_here") (.cons (.bin .pow (.int 10) (.int 12)) .nil))))) (.bin .mod (.bin .fdiv (.var "_law_cell") (.int 18)) (.int 4))))
 (.cons (.ret (.tup (.cons (.str "sell") (.cons (.sub (.list (.cons (.sub (.var "_law_stretch") (.int 0)) (.cons (.neg (.int 1)) .nil))) (.bin .mod (.bin .fdiv (.var "_law_cell") (.int 72)) (.int 2))) (.cons (.var "_law_end") .nil)))))
 .nil))
 .nil)
 (.cons (.ret (.tup (.cons (.str "sell") (.cons (.sub (.var "_law_stretch") (.int 0)) (.cons (.sub (.var "_law_stretch") (.int 1)) .nil)))))
 .nil)))))))))))⟩
noncomputable def f_read:MFn:=⟨["text"],
 (.cons (.ite (.not (.isinst (.var "text") "str"))
 (.cons (.raise "NoText" "no text")
 .nil)
 .nil)
 (.cons (.assign "lines" (.bm (.var "text") "split" (.cons (.str "\n") .nil)))
 (.cons (.assign "head" (.call "numbers_of" (.cons (.sub (.var "lines") (.int 0)) (.cons (.str "train") .nil))))
 (.cons (.ite (.cmp (.bi "len" (.cons (.var "head") .nil)) (.cons .ne (.int 3) .nil))
 (.cons (.raise "NoText" "no train's row")
 .nil)
 .nil)
 (.cons (.assign "rows" (.list .nil))
 (.cons (.for_ "line" (.slice (.var "lines") (.int 1) .none)
 (.cons (.assign "numbers" (.call "numbers_of" (.cons (.var "line") (.cons (.str "ticket") .nil))))
 (.cons (.ite (.or (.cons (.cmp (.bi "len" (.cons (.var "numbers") .nil)) (.cons .lt (.int 4) .nil)) (.cons (.cmp (.bin .mod (.bi "len" (.cons (.var "numbers") .nil)) (.int 3)) (.cons .ne (.int 1) .nil)) .nil)))
 (.cons (.raise "NoText" "no ticket's row")
 .nil)
 .nil)
 (.cons (.expr (.bm (.var "rows") "append" (.cons (.var "numbers") .nil)))
 .nil))))
 (.cons (.assign "train" (.mk (.cons (.sub (.var "head") (.int 0)) (.cons (.sub (.var "head") (.int 1)) .nil))))
 (.cons (.assign "last" (.neg (.int 1)))
 (.cons (.for_ "numbers" (.var "rows")
 (.cons (.ite (.not (.cmp (.var "last") (.cons .lt (.sub (.var "numbers") (.int 0)) (.cons .lt (.sub (.var "head") (.int 2)) .nil))))
 (.cons (.raise "NoTicket" "no such ticket")
 .nil)
 .nil)
 (.cons (.assign "last" (.sub (.var "numbers") (.int 0)))
 (.cons (.expr (.call "seat_ticket" (.cons (.var "train") (.cons (.var "numbers") .nil))))
 .nil))))
 (.cons (.expr (.meth (.var "train") "start_at" (.cons (.sub (.var "head") (.int 2)) .nil)))
 (.cons (.ret (.var "train"))
 .nil)))))))))))⟩
noncomputable def f__law_cells:MFn:=⟨["_law_script"],
 (.cons (.assign "_law_far" (.call "_law_cell_at" (.cons (.var "_law_script") (.cons (.int 2) .nil))))
 (.cons (.assign "_law_seats_here" (.call "_law_seats" (.cons (.call "_law_cell_at" (.cons (.var "_law_script") (.cons (.int 0) .nil))) .nil)))
 (.cons (.assign "_law_stops_here" (.call "_law_stops" (.cons (.call "_law_cell_at" (.cons (.var "_law_script") (.cons (.int 1) .nil))) .nil)))
 (.cons (.ite (.and (.cons (.cmp (.bin .mod (.var "_law_far") (.int 4)) (.cons .eq (.int 3) .nil)) (.cons (.cmp (.bin .mul (.var "_law_seats_here") (.var "_law_stops_here")) (.cons .lt (.int 240) .nil)) .nil)))
 (.cons (.ret (.bin .add (.call "_law_laid" (.cons (.var "_law_seats_here") (.cons (.var "_law_stops_here") (.cons (.bin .fdiv (.var "_law_far") (.int 8)) .nil)))) (.slice (.var "_law_script") (.int 3) (.int 40))))
 .nil)
 .nil)
 (.cons (.ite (.and (.cons (.cmp (.bin .mod (.var "_law_far") (.int 8)) (.cons .eq (.int 1) .nil)) (.cons (.cmp (.bin .mul (.var "_law_seats_here") (.var "_law_stops_here")) (.cons .lt (.int 900) .nil)) .nil)))
 (.cons (.ret (.bin .add (.comp (.bin .add (.bin .fdiv (.var "_law_far") (.int 8)) (.bin .mul (.int 17) (.var "_law_k"))) "_law_k" (.bi "range" (.cons (.bin .add (.int 60) (.bin .mod (.bin .fdiv (.var "_law_far") (.int 8)) (.int 90))) .nil)) (.bool true)) (.slice (.var "_law_script") (.int 3) (.int 13))))
 .nil)
 .nil)
 (.cons (.ite (.cmp (.bin .mod (.var "_law_far") (.int 8)) (.cons .eq (.int 2) .nil))
 (.cons (.ret (.bin .add (.comp (.bin .mul (.int 9) (.bin .add (.bin .fdiv (.var "_law_far") (.int 8)) (.bin .mul (.int 5) (.var "_law_k")))) "_law_k" (.bi "range" (.cons (.bin .add (.int 60) (.bin .mod (.bin .fdiv (.var "_law_far") (.int 8)) (.int 90))) .nil)) (.bool true)) (.slice (.var "_law_script") (.int 3) (.int 13))))
 .nil)
 .nil)
 (.cons (.ret (.slice (.var "_law_script") (.int 3) (.int 99)))
 .nil)))))))⟩
noncomputable def f__law_built:MFn:=⟨["_law_script"],
 (.cons (.assign "_law_seats_here" (.call "_law_seats" (.cons (.call "_law_cell_at" (.cons (.var "_law_script") (.cons (.int 0) .nil))) .nil)))
 (.cons (.assign "_law_stops_here" (.call "_law_stops" (.cons (.call "_law_cell_at" (.cons (.var "_law_script") (.cons (.int 1) .nil))) .nil)))
 (.cons (.ret (.list (.cons (.mk (.cons (.var "_law_seats_here") (.cons (.var "_law_stops_here") .nil))) (.cons (.call "_law_world" (.cons (.var "_law_seats_here") (.cons (.var "_law_stops_here") .nil))) .nil))))
 .nil)))⟩
noncomputable def f_Train_tickets:MFn:=⟨["self"],
 (.cons (.ret (.bi "sorted" (.cons (.bi "list" (.cons (.attr (.var "self") "rides") .nil)) .nil)))
 .nil)⟩
noncomputable def f_line_of:MFn:=⟨["word","numbers"],
 (.cons (.ret (.bm (.str " ") "join" (.cons (.bin .add (.list (.cons (.var "word") .nil)) (.comp (.bi "str" (.cons (.var "number") .nil)) "number" (.var "numbers") (.bool true))) .nil)))
 .nil)⟩
noncomputable def f_Train_parts:MFn:=⟨["self","ticket"],
 (.cons (.expr (.meth (.var "self") "need_ticket" (.cons (.var "ticket") .nil)))
 (.cons (.ret (.bi "list" (.cons (.sub (.attr (.var "self") "rides") (.var "ticket")) .nil)))
 .nil))⟩
noncomputable def f_Train_size:MFn:=⟨["self"],
 (.cons (.ret (.tup (.cons (.attr (.var "self") "seats") (.cons (.attr (.var "self") "stops") .nil))))
 .nil)⟩
noncomputable def f__law_told:MFn:=⟨["_law_train","_law_deed"],
 (.cons (.ite (.cmp (.sub (.var "_law_deed") (.int 0)) (.cons .eq (.str "sell") .nil))
 (.cons (.ret (.meth (.var "_law_train") "sell" (.cons (.sub (.var "_law_deed") (.int 1)) (.cons (.sub (.var "_law_deed") (.int 2)) .nil))))
 .nil)
 .nil)
 (.cons (.ite (.cmp (.sub (.var "_law_deed") (.int 0)) (.cons .eq (.str "back") .nil))
 (.cons (.ret (.meth (.var "_law_train") "back" (.cons (.sub (.var "_law_deed") (.int 1)) .nil)))
 .nil)
 .nil)
 (.cons (.ite (.cmp (.sub (.var "_law_deed") (.int 0)) (.cons .eq (.str "leave") .nil))
 (.cons (.ret (.meth (.var "_law_train") "leave" (.cons (.sub (.var "_law_deed") (.int 1)) (.cons (.sub (.var "_law_deed") (.int 2)) .nil))))
 .nil)
 .nil)
 (.cons (.ret (.meth (.var "_law_train") "reseat" (.cons (.sub (.var "_law_deed") (.int 1)) .nil)))
 .nil))))⟩
noncomputable def f__law_class:MFn:=⟨["_law_e"],
 (.cons (.assign "_law_words" (.list .nil))
 (.cons (.ite (.isinst (.var "_law_e") "NoTrain")
 (.cons (.expr (.bm (.var "_law_words") "append" (.cons (.str "train") .nil)))
 .nil)
 .nil)
 (.cons (.ite (.isinst (.var "_law_e") "NoStretch")
 (.cons (.expr (.bm (.var "_law_words") "append" (.cons (.str "stretch") .nil)))
 .nil)
 .nil)
 (.cons (.ite (.isinst (.var "_law_e") "NoSeat")
 (.cons (.expr (.bm (.var "_law_words") "append" (.cons (.str "seat") .nil)))
 .nil)
 .nil)
 (.cons (.ite (.isinst (.var "_law_e") "NoStop")
 (.cons (.expr (.bm (.var "_law_words") "append" (.cons (.str "stop") .nil)))
 .nil)
 .nil)
 (.cons (.ite (.isinst (.var "_law_e") "NoLeg")
 (.cons (.expr (.bm (.var "_law_words") "append" (.cons (.str "leg") .nil)))
 .nil)
 .nil)
 (.cons (.ite (.isinst (.var "_law_e") "NoTicket")
 (.cons (.expr (.bm (.var "_law_words") "append" (.cons (.str "ticket") .nil)))
 .nil)
 .nil)
 (.cons (.ite (.isinst (.var "_law_e") "Full")
 (.cons (.expr (.bm (.var "_law_words") "append" (.cons (.str "full") .nil)))
 .nil)
 .nil)
 (.cons (.ite (.isinst (.var "_law_e") "Shared")
 (.cons (.expr (.bm (.var "_law_words") "append" (.cons (.str "shared") .nil)))
 .nil)
 .nil)
 (.cons (.ite (.isinst (.var "_law_e") "NoText")
 (.cons (.expr (.bm (.var "_law_words") "append" (.cons (.str "text") .nil)))
 .nil)
 .nil)
 (.cons (.ite (.and (.cons (.cmp (.bi "len" (.cons (.var "_law_words") .nil)) (.cons .eq (.int 1) .nil)) (.cons (.isinst (.var "_law_e") "ValueError") .nil)))
 (.cons (.ret (.sub (.var "_law_words") (.int 0)))
 .nil)
 .nil)
 (.cons (.ret (.str "other"))
 .nil))))))))))))⟩
noncomputable def f__law_whole:MFn:=⟨["_law_found_here"],
 (.cons (.ret (.and (.cons (.isinst (.var "_law_found_here") "int") (.cons (.not (.isinst (.var "_law_found_here") "bool")) .nil))))
 .nil)⟩
noncomputable def f_Train_holder:MFn:=⟨["self","seat","leg"],
 (.cons (.expr (.meth (.var "self") "need_seat" (.cons (.var "seat") .nil)))
 (.cons (.expr (.meth (.var "self") "need_leg" (.cons (.var "leg") .nil)))
 (.cons (.ret (.sub (.sub (.attr (.var "self") "held") (.var "seat")) (.var "leg")))
 .nil)))⟩
noncomputable def f__law_rows:MFn:=⟨["_law_found_here","_law_due"],
 (.cons (.ite (.or (.cons (.not (.isinst (.var "_law_found_here") "list")) (.cons (.cmp (.bi "len" (.cons (.var "_law_found_here") .nil)) (.cons .ne (.bi "len" (.cons (.var "_law_due") .nil)) .nil)) .nil)))
 (.cons (.ret (.bool false))
 .nil)
 .nil)
 (.cons (.for_ "_law_k" (.bi "range" (.cons (.bi "len" (.cons (.var "_law_due") .nil)) .nil))
 (.cons (.ite (.or (.cons (.not (.isinst (.sub (.var "_law_found_here") (.var "_law_k")) "tuple")) (.cons (.cmp (.bi "len" (.cons (.sub (.var "_law_found_here") (.var "_law_k")) .nil)) (.cons .ne (.bi "len" (.cons (.sub (.var "_law_due") (.var "_law_k")) .nil)) .nil)) .nil)))
 (.cons (.ret (.bool false))
 .nil)
 .nil)
 (.cons (.ite (.or (.cons (.not (.bi "all" (.cons (.comp (.call "_law_whole" (.cons (.var "_law_one") .nil)) "_law_one" (.sub (.var "_law_found_here") (.var "_law_k")) (.bool true)) .nil))) (.cons (.cmp (.sub (.var "_law_found_here") (.var "_law_k")) (.cons .ne (.sub (.var "_law_due") (.var "_law_k")) .nil)) .nil)))
 (.cons (.ret (.bool false))
 .nil)
 .nil)
 .nil)))
 (.cons (.ret (.bool true))
 .nil)))⟩
noncomputable def f__law_numbers:MFn:=⟨["_law_found_here","_law_due"],
 (.cons (.ite (.or (.cons (.not (.isinst (.var "_law_found_here") "list")) (.cons (.cmp (.bi "len" (.cons (.var "_law_found_here") .nil)) (.cons .ne (.bi "len" (.cons (.var "_law_due") .nil)) .nil)) .nil)))
 (.cons (.ret (.bool false))
 .nil)
 .nil)
 (.cons (.for_ "_law_k" (.bi "range" (.cons (.bi "len" (.cons (.var "_law_due") .nil)) .nil))
 (.cons (.ite (.or (.cons (.not (.call "_law_whole" (.cons (.sub (.var "_law_found_here") (.var "_law_k")) .nil))) (.cons (.cmp (.sub (.var "_law_found_here") (.var "_law_k")) (.cons .ne (.sub (.var "_law_due") (.var "_law_k")) .nil)) .nil)))
 (.cons (.ret (.bool false))
 .nil)
 .nil)
 .nil))
 (.cons (.ret (.bool true))
 .nil)))⟩
noncomputable def f__law_mark:MFn:=⟨["_law_rows_here","_law_row","_law_held"],
 (.cons (.for_ "_law_one" (.var "_law_row")
 (.cons (.for_ "_law_leg" (.bi "range" (.cons (.sub (.var "_law_one") (.int 1)) (.cons (.sub (.var "_law_one") (.int 2)) .nil)))
 (.cons (.setIdx (.sub (.var "_law_rows_here") (.sub (.var "_law_one") (.int 0))) (.var "_law_leg") (.var "_law_held"))
 .nil))
 .nil))
 .nil)⟩
noncomputable def f__law_found:MFn:=⟨["_law_rows_here","_law_begin","_law_end"],
 (.cons (.assign "_law_found_here" (.list .nil))
 (.cons (.whil (.cmp (.var "_law_begin") (.cons .lt (.var "_law_end") .nil))
 (.cons (.assign "_law_leads" (.comp (.bi "min" (.cons (.call "_law_reach" (.cons (.var "_law_row") (.cons (.var "_law_begin") .nil))) (.cons (.var "_law_end") .nil))) "_law_row" (.var "_law_rows_here") (.bool true)))
 (.cons (.expr (.bm (.var "_law_found_here") "append" (.cons (.tup (.cons (.bm (.var "_law_leads") "index" (.cons (.bi "max" (.cons (.var "_law_leads") .nil)) .nil)) (.cons (.var "_law_begin") (.cons (.bi "max" (.cons (.var "_law_leads") .nil)) .nil)))) .nil)))
 (.cons (.assign "_law_begin" (.bi "max" (.cons (.var "_law_leads") .nil)))
 .nil))))
 (.cons (.ret (.var "_law_found_here"))
 .nil)))⟩
noncomputable def f__law_left:MFn:=⟨["_law_found_here","_law_stop"],
 (.cons (.assign "_law_kept" (.comp (.tup (.cons (.sub (.var "_law_one") (.int 0)) (.cons (.sub (.var "_law_one") (.int 1)) (.cons (.bi "min" (.cons (.sub (.var "_law_one") (.int 2)) (.cons (.var "_law_stop") .nil))) .nil)))) "_law_one" (.var "_law_found_here") (.cmp (.sub (.var "_law_one") (.int 1)) (.cons .lt (.var "_law_stop") .nil))))
 (.cons (.assign "_law_gone" (.comp (.tup (.cons (.sub (.var "_law_one") (.int 0)) (.cons (.bi "max" (.cons (.sub (.var "_law_one") (.int 1)) (.cons (.var "_law_stop") .nil))) (.cons (.sub (.var "_law_one") (.int 2)) .nil)))) "_law_one" (.var "_law_found_here") (.cmp (.sub (.var "_law_one") (.int 2)) (.cons .gt (.var "_law_stop") .nil))))
 (.cons (.ret (.tup (.cons (.var "_law_kept") (.cons (.var "_law_gone") .nil))))
 .nil)))⟩
noncomputable def f__law_sold_by:MFn:=⟨["_law_world_here","_law_begin","_law_end"],
 (.cons (.ite (.or (.cons (.cmp (.var "_law_begin") (.cons .lt (.int 0) .nil)) (.cons (.cmp (.var "_law_begin") (.cons .ge (.var "_law_end") .nil)) (.cons (.cmp (.var "_law_end") (.cons .gt (.bi "len" (.cons (.sub (.sub (.var "_law_world_here") (.int 0)) (.int 0)) .nil)) .nil)) .nil))))
 (.cons (.ret (.tup (.cons (.str "stretch") (.cons .none .nil))))
 .nil)
 .nil)
 (.cons (.ite (.cmp (.call "_law_full" (.cons (.sub (.var "_law_world_here") (.int 0)) (.cons (.var "_law_begin") (.cons (.var "_law_end") .nil)))) (.cons .isnot .none .nil))
 (.cons (.ret (.tup (.cons (.str "full") (.cons .none .nil))))
 .nil)
 .nil)
 (.cons (.assign "_law_found_here" (.call "_law_found" (.cons (.sub (.var "_law_world_here") (.int 0)) (.cons (.var "_law_begin") (.cons (.var "_law_end") .nil)))))
 (.cons (.expr (.call "_law_mark" (.cons (.sub (.var "_law_world_here") (.int 0)) (.cons (.var "_law_found_here") (.cons (.sub (.var "_law_world_here") (.int 3)) .nil)))))
 (.cons (.expr (.bm (.sub (.var "_law_world_here") (.int 1)) "append" (.cons (.sub (.var "_law_world_here") (.int 3)) .nil)))
 (.cons (.expr (.bm (.sub (.var "_law_world_here") (.int 2)) "append" (.cons (.var "_law_found_here") .nil)))
 (.cons (.setIdx (.var "_law_world_here") (.int 3) (.bin .add (.sub (.var "_law_world_here") (.int 3)) (.int 1)))
 (.cons (.ret (.tup (.cons (.str "") (.cons (.bin .sub (.sub (.var "_law_world_here") (.int 3)) (.int 1)) .nil))))
 .nil))))))))⟩
noncomputable def f_packed:MFn:=⟨["train"],
 (.cons (.assign "stretches" (.list .nil))
 (.cons (.for_ "ticket" (.meth (.var "train") "tickets" .nil)
 (.cons (.assign "told" (.meth (.var "train") "parts" (.cons (.var "ticket") .nil)))
 (.cons (.expr (.bm (.var "stretches") "append" (.cons (.tup (.cons (.sub (.sub (.var "told") (.int 0)) (.int 1)) (.cons (.sub (.sub (.var "told") (.neg (.int 1))) (.int 2)) (.cons (.var "ticket") .nil)))) .nil)))
 .nil)))
 (.cons (.assign "ends" (.list .nil))
 (.cons (.assign "found" (.list .nil))
 (.cons (.forT ["begin","end","ticket"] (.bi "sorted" (.cons (.var "stretches") .nil))
 (.cons (.assign "seat" (.call "seat_for" (.cons (.var "ends") (.cons (.var "begin") .nil))))
 (.cons (.ite (.cmp (.var "seat") (.cons .eq (.bi "len" (.cons (.var "ends") .nil)) .nil))
 (.cons (.expr (.bm (.var "ends") "append" (.cons (.var "end") .nil)))
 .nil)
 (.cons (.setIdx (.var "ends") (.var "seat") (.var "end"))
 .nil))
 (.cons (.expr (.bm (.var "found") "append" (.cons (.tup (.cons (.var "ticket") (.cons (.var "seat") .nil))) .nil)))
 .nil))))
 (.cons (.ret (.bi "sorted" (.cons (.var "found") .nil)))
 .nil))))))⟩
noncomputable def f__law_told_of:MFn:=⟨["_law_train","_law_rows_here","_law_cell","_law_way"],
 (.cons (.assign "_law_stops_here" (.bin .add (.bi "len" (.cons (.sub (.var "_law_rows_here") (.int 0)) .nil)) (.int 1)))
 (.cons (.assign "_law_stretch" (.call "_law_stretch_by" (.cons (.var "_law_cell") (.cons (.var "_law_stops_here") .nil))))
 (.cons (.ite (.cmp (.var "_law_way") (.cons .eq (.int 0) .nil))
 (.cons (.assign "_law_legs" (.bi "list" (.cons (.bi "range" (.cons (.bin .sub (.var "_law_stops_here") (.int 1)) .nil)) .nil)))
 (.cons (.ret (.cmp (.comp (.meth (.var "_law_train") "load" (.cons (.var "_law_leg") .nil)) "_law_leg" (.var "_law_legs") (.bool true)) (.cons .eq (.comp (.bi "len" (.cons (.comp (.var "_law_row") "_law_row" (.var "_law_rows_here") (.cmp (.sub (.var "_law_row") (.var "_law_leg")) (.cons .isnot .none .nil))) .nil)) "_law_leg" (.var "_law_legs") (.bool true)) .nil)))
 .nil))
 .nil)
 (.cons (.ite (.cmp (.var "_law_way") (.cons .eq (.int 1) .nil))
 (.cons (.assign "_law_blocks" (.meth (.var "_law_train") "blocked" (.cons (.sub (.var "_law_stretch") (.int 0)) (.cons (.sub (.var "_law_stretch") (.int 1)) .nil))))
 (.cons (.assign "_law_due" (.call "_law_full" (.cons (.var "_law_rows_here") (.cons (.sub (.var "_law_stretch") (.int 0)) (.cons (.sub (.var "_law_stretch") (.int 1)) .nil)))))
 (.cons (.ret (.or (.cons (.and (.cons (.cmp (.var "_law_blocks") (.cons .is_ .none .nil)) (.cons (.cmp (.var "_law_due") (.cons .is_ .none .nil)) .nil))) (.cons (.and (.cons (.cmp (.var "_law_due") (.cons .isnot .none .nil)) (.cons (.call "_law_whole" (.cons (.var "_law_blocks") .nil)) (.cons (.cmp (.var "_law_blocks") (.cons .eq (.var "_law_due") .nil)) .nil)))) .nil))))
 .nil)))
 .nil)
 (.cons (.ite (.cmp (.var "_law_way") (.cons .eq (.int 2) .nil))
 (.cons (.ret (.and (.cons (.call "_law_offers" (.cons (.var "_law_train") (.cons (.var "_law_rows_here") (.cons (.sub (.var "_law_stretch") (.int 0)) (.cons (.sub (.var "_law_stretch") (.int 1)) .nil))))) (.cons (.call "_law_offers" (.cons (.var "_law_train") (.cons (.var "_law_rows_here") (.cons (.int 0) (.cons (.bin .sub (.var "_law_stops_here") (.int 1)) .nil))))) .nil))))
 .nil)
 .nil)
 (.cons (.assign "_law_at" (.call "_law_mixed" (.cons (.var "_law_cell") (.cons (.int 6) (.cons (.var "_law_stops_here") .nil)))))
 (.cons (.ret (.cmp (.comp (.meth (.var "_law_train") "farthest" (.cons (.var "_law_seat") (.cons (.var "_law_at") .nil))) "_law_seat" (.bi "range" (.cons (.bi "len" (.cons (.var "_law_rows_here") .nil)) .nil)) (.bool true)) (.cons .eq (.comp (.call "_law_reach" (.cons (.var "_law_row") (.cons (.var "_law_at") .nil))) "_law_row" (.var "_law_rows_here") (.bool true)) .nil)))
 .nil)))))))⟩
noncomputable def f__law_mixed:MFn:=⟨["_law_cell","_law_k","_law_many"],
 (.cons (.assign "_law_some" (.list (.cons (.int 99991) (.cons (.int 99989) (.cons (.int 99971) (.cons (.int 99961) (.cons (.int 99929) (.cons (.int 99923) (.cons (.int 99907) (.cons (.int 99901) (.cons (.int 99881) (.cons (.int 99877) (.cons (.int 99871) .nil)))))))))))))
 (.cons (.assign "_law_made" (.bin .mod (.bin .mul (.bin .add (.var "_law_cell") (.bin .mul (.int 7) (.var "_law_k"))) (.int 48271)) (.sub (.var "_law_some") (.bin .mod (.var "_law_k") (.int 11)))))
 (.cons (.ret (.bin .mod (.bin .mod (.bin .add (.bin .add (.bin .mul (.bin .mul (.var "_law_made") (.var "_law_made")) (.int 7)) (.var "_law_made")) (.var "_law_k")) (.int 1000003)) (.var "_law_many")))
 .nil)))⟩
noncomputable def f__law_stretch_by:MFn:=⟨["_law_cell","_law_stops_here"],
 (.cons (.assign "_law_begin" (.call "_law_mixed" (.cons (.var "_law_cell") (.cons (.int 1) (.cons (.bin .sub (.var "_law_stops_here") (.int 1)) .nil)))))
 (.cons (.ite (.cmp (.bin .mod (.bin .fdiv (.var "_law_cell") (.int 9)) (.int 3)) (.cons .eq (.int 1) .nil))
 (.cons (.assign "_law_begin" (.int 0))
 .nil)
 .nil)
 (.cons (.assign "_law_end" (.bin .add (.bin .add (.var "_law_begin") (.int 1)) (.call "_law_mixed" (.cons (.var "_law_cell") (.cons (.int 2) (.cons (.bin .sub (.bin .sub (.var "_law_stops_here") (.int 1)) (.var "_law_begin")) .nil))))))
 (.cons (.ite (.cmp (.bin .mod (.bin .fdiv (.var "_law_cell") (.int 27)) (.int 3)) (.cons .eq (.int 1) .nil))
 (.cons (.assign "_law_end" (.bi "min" (.cons (.bin .add (.bin .add (.var "_law_begin") (.int 1)) (.bin .mod (.bin .fdiv (.var "_law_cell") (.int 81)) (.int 3))) (.cons (.bin .sub (.var "_law_stops_here") (.int 1)) .nil))))
 .nil)
 .nil)
 (.cons (.ret (.tup (.cons (.var "_law_begin") (.cons (.var "_law_end") .nil))))
 .nil)))))⟩
noncomputable def f_Train_start_at:MFn:=⟨["self","number"],
 (.cons (.setAttr (.var "self") "coming" (.var "number"))
 .nil)⟩
noncomputable def f_seat_ticket:MFn:=⟨["train","numbers"],
 (.cons (.assign "told" (.list .nil))
 (.cons (.for_ "at" (.bi "range" (.cons (.int 1) (.cons (.bi "len" (.cons (.var "numbers") .nil)) (.cons (.int 3) .nil))))
 (.cons (.assign "part" (.tup (.cons (.sub (.var "numbers") (.var "at")) (.cons (.sub (.var "numbers") (.bin .add (.var "at") (.int 1))) (.cons (.sub (.var "numbers") (.bin .add (.var "at") (.int 2))) .nil)))))
 (.cons (.expr (.call "need_part" (.cons (.var "train") (.cons (.var "told") (.cons (.var "part") .nil)))))
 (.cons (.expr (.meth (.var "train") "hold" (.cons (.sub (.var "numbers") (.int 0)) (.cons (.var "part") .nil))))
 (.cons (.expr (.bm (.var "told") "append" (.cons (.var "part") .nil)))
 .nil)))))
 .nil))⟩
noncomputable def f_Train_init:MFn:=⟨["self","seats","stops"],
 (.cons (.ite (.or (.cons (.not (.cmp (.int 1) (.cons .le (.var "seats") (.cons .le (.gconst "MOST" (.int 60)) .nil)))) (.cons (.not (.cmp (.int 2) (.cons .le (.var "stops") (.cons .le (.gconst "MOST" (.int 60)) .nil)))) .nil)))
 (.cons (.raise "NoTrain" "no such train")
 .nil)
 .nil)
 (.cons (.setAttr (.var "self") "seats" (.var "seats"))
 (.cons (.setAttr (.var "self") "stops" (.var "stops"))
 (.cons (.setAttr (.var "self") "coming" (.int 0))
 (.cons (.setAttr (.var "self") "rides" .dict)
 (.cons (.setAttr (.var "self") "held" (.comp (.bin .mul (.list (.cons .none .nil)) (.bin .sub (.var "stops") (.int 1))) "seat" (.bi "range" (.cons (.var "seats") .nil)) (.bool true)))
 .nil))))))⟩
noncomputable def f_numbers_of:MFn:=⟨["line","word"],
 (.cons (.assign "words" (.bm (.var "line") "split" (.cons (.str " ") .nil)))
 (.cons (.ite (.cmp (.sub (.var "words") (.int 0)) (.cons .ne (.var "word") .nil))
 (.cons (.raise "NoText" "no row")
 .nil)
 .nil)
 (.cons (.ret (.comp (.call "number_of" (.cons (.var "one") .nil)) "one" (.slice (.var "words") (.int 1) .none) (.bool true)))
 .nil)))⟩
noncomputable def f__law_laid:MFn:=⟨["_law_seats_here","_law_stops_here","_law_far"],
 (.cons (.assign "_law_deeds" (.list .nil))
 (.cons (.for_ "_law_leg" (.bi "range" (.cons (.bin .sub (.var "_law_stops_here") (.int 1)) .nil))
 (.cons (.for_ "_law_seat" (.bi "range" (.cons (.var "_law_seats_here") .nil))
 (.cons (.expr (.bm (.var "_law_deeds") "append" (.cons (.tup (.cons (.str "sell") (.cons (.var "_law_leg") (.cons (.bin .add (.var "_law_leg") (.int 1)) .nil)))) .nil)))
 .nil))
 .nil))
 (.cons (.for_ "_law_leg" (.bi "range" (.cons (.bin .sub (.var "_law_stops_here") (.int 1)) .nil))
 (.cons (.expr (.bm (.var "_law_deeds") "append" (.cons (.tup (.cons (.str "back") (.cons (.bin .add (.bin .mul (.var "_law_leg") (.var "_law_seats_here")) (.bin .mod (.bin .add (.bin .mul (.var "_law_leg") (.bin .add (.int 1) (.bin .mod (.var "_law_far") (.int 3)))) (.bin .fdiv (.var "_law_far") (.int 3))) (.var "_law_seats_here"))) (.cons (.int 0) .nil)))) .nil)))
 .nil))
 (.cons (.assign "_law_whole_here" (.bin .mul (.var "_law_seats_here") (.bin .sub (.var "_law_stops_here") (.int 1))))
 (.cons (.ret (.bin .add (.var "_law_deeds") (.list (.cons (.tup (.cons (.str "sell") (.cons (.bin .mod (.bin .fdiv (.var "_law_far") (.int 9)) (.int 2)) (.cons (.bin .sub (.var "_law_stops_here") (.int 1)) .nil)))) (.cons (.tup (.cons (.str "leave") (.cons (.var "_law_whole_here") (.cons (.bin .mod (.bin .fdiv (.var "_law_far") (.int 18)) (.var "_law_stops_here")) .nil)))) (.cons (.tup (.cons (.str "reseat") (.cons (.var "_law_whole_here") (.cons (.int 0) .nil)))) .nil))))))
 .nil)))))⟩
noncomputable def f__law_stops:MFn:=⟨["_law_cell"],
 (.cons (.ite (.cmp (.bin .mod (.bin .fdiv (.var "_law_cell") (.int 8)) (.int 8)) (.cons .eq (.int 1) .nil))
 (.cons (.ret (.bin .add (.int 50) (.bin .mod (.bin .fdiv (.var "_law_cell") (.int 64)) (.int 11))))
 .nil)
 .nil)
 (.cons (.ite (.cmp (.bin .mod (.bin .fdiv (.var "_law_cell") (.int 8)) (.int 8)) (.cons .eq (.int 2) .nil))
 (.cons (.ret (.bin .add (.int 10) (.bin .mod (.bin .fdiv (.var "_law_cell") (.int 64)) (.int 40))))
 .nil)
 .nil)
 (.cons (.ret (.bin .add (.int 2) (.bin .mod (.var "_law_cell") (.int 8))))
 .nil)))⟩
noncomputable def f__law_seats:MFn:=⟨["_law_cell"],
 (.cons (.ite (.cmp (.bin .mod (.bin .fdiv (.var "_law_cell") (.int 5)) (.int 8)) (.cons .eq (.int 1) .nil))
 (.cons (.ret (.bin .add (.int 50) (.bin .mod (.bin .fdiv (.var "_law_cell") (.int 40)) (.int 11))))
 .nil)
 .nil)
 (.cons (.ite (.cmp (.bin .mod (.bin .fdiv (.var "_law_cell") (.int 5)) (.int 8)) (.cons .eq (.int 2) .nil))
 (.cons (.ret (.bin .add (.int 6) (.bin .mod (.bin .fdiv (.var "_law_cell") (.int 40)) (.int 44))))
 .nil)
 .nil)
 (.cons (.ret (.bin .add (.int 1) (.bin .mod (.var "_law_cell") (.int 5))))
 .nil)))⟩
noncomputable def f__law_world:MFn:=⟨["_law_seats_here","_law_stops_here"],
 (.cons (.ret (.list (.cons (.comp (.bin .mul (.list (.cons .none .nil)) (.bin .sub (.var "_law_stops_here") (.int 1))) "_law_seat" (.bi "range" (.cons (.var "_law_seats_here") .nil)) (.bool true)) (.cons (.list .nil) (.cons (.list .nil) (.cons (.int 0) .nil))))))
 .nil)⟩
noncomputable def f_Train_need_ticket:MFn:=⟨["self","ticket"],
 (.cons (.ite (.cmp (.var "ticket") (.cons .notin (.attr (.var "self") "rides") .nil))
 (.cons (.raise "NoTicket" "no such ticket")
 .nil)
 .nil)
 .nil)⟩
noncomputable def f_Train_reseat:MFn:=⟨["self","ticket"],
 (.cons (.expr (.meth (.var "self") "need_ticket" (.cons (.var "ticket") .nil)))
 (.cons (.assign "told" (.sub (.attr (.var "self") "rides") (.var "ticket")))
 (.cons (.expr (.meth (.var "self") "mark" (.cons (.var "told") (.cons .none .nil))))
 (.cons (.assign "again" (.meth (.var "self") "found" (.cons (.sub (.sub (.var "told") (.int 0)) (.int 1)) (.cons (.sub (.sub (.var "told") (.neg (.int 1))) (.int 2)) .nil))))
 (.cons (.setIdx (.attr (.var "self") "rides") (.var "ticket") (.var "again"))
 (.cons (.expr (.meth (.var "self") "mark" (.cons (.var "again") (.cons (.var "ticket") .nil))))
 (.cons (.ret (.bi "list" (.cons (.var "again") .nil)))
 .nil)))))))⟩
noncomputable def f_Train_leave:MFn:=⟨["self","ticket","stop"],
 (.cons (.expr (.meth (.var "self") "need_ticket" (.cons (.var "ticket") .nil)))
 (.cons (.assign "told" (.sub (.attr (.var "self") "rides") (.var "ticket")))
 (.cons (.ite (.not (.cmp (.sub (.sub (.var "told") (.int 0)) (.int 1)) (.cons .lt (.var "stop") (.cons .lt (.sub (.sub (.var "told") (.neg (.int 1))) (.int 2)) .nil))))
 (.cons (.raise "NoStop" "not within the stretch")
 .nil)
 .nil)
 (.cons (.assign "gone" (.comp (.tup (.cons (.sub (.var "part") (.int 0)) (.cons (.bi "max" (.cons (.sub (.var "part") (.int 1)) (.cons (.var "stop") .nil))) (.cons (.sub (.var "part") (.int 2)) .nil)))) "part" (.var "told") (.cmp (.sub (.var "part") (.int 2)) (.cons .gt (.var "stop") .nil))))
 (.cons (.expr (.meth (.var "self") "mark" (.cons (.var "gone") (.cons .none .nil))))
 (.cons (.setIdx (.attr (.var "self") "rides") (.var "ticket") (.comp (.tup (.cons (.sub (.var "part") (.int 0)) (.cons (.sub (.var "part") (.int 1)) (.cons (.bi "min" (.cons (.sub (.var "part") (.int 2)) (.cons (.var "stop") .nil))) .nil)))) "part" (.var "told") (.cmp (.sub (.var "part") (.int 1)) (.cons .lt (.var "stop") .nil))))
 (.cons (.ret (.var "gone"))
 .nil)))))))⟩
noncomputable def f_Train_back:MFn:=⟨["self","ticket"],
 (.cons (.expr (.meth (.var "self") "need_ticket" (.cons (.var "ticket") .nil)))
 (.cons (.assign "told" (.bm (.attr (.var "self") "rides") "pop" (.cons (.var "ticket") .nil)))
 (.cons (.expr (.meth (.var "self") "mark" (.cons (.var "told") (.cons .none .nil))))
 (.cons (.ret (.bi "list" (.cons (.var "told") .nil)))
 .nil))))⟩
noncomputable def f_Train_sell:MFn:=⟨["self","begin","end"],
 (.cons (.assign "told" (.meth (.var "self") "row" (.cons (.var "begin") (.cons (.var "end") .nil))))
 (.cons (.assign "ticket" (.attr (.var "self") "coming"))
 (.cons (.setAttr (.var "self") "coming" (.bin .add (.var "ticket") (.int 1)))
 (.cons (.setIdx (.attr (.var "self") "rides") (.var "ticket") (.var "told"))
 (.cons (.expr (.meth (.var "self") "mark" (.cons (.var "told") (.cons (.var "ticket") .nil))))
 (.cons (.ret (.var "ticket"))
 .nil))))))⟩
noncomputable def f_Train_need_leg:MFn:=⟨["self","leg"],
 (.cons (.ite (.not (.cmp (.int 0) (.cons .le (.var "leg") (.cons .lt (.bin .sub (.attr (.var "self") "stops") (.int 1)) .nil))))
 (.cons (.raise "NoLeg" "no such leg")
 .nil)
 .nil)
 .nil)⟩
noncomputable def f_Train_need_seat:MFn:=⟨["self","seat"],
 (.cons (.ite (.not (.cmp (.int 0) (.cons .le (.var "seat") (.cons .lt (.attr (.var "self") "seats") .nil))))
 (.cons (.raise "NoSeat" "no such seat")
 .nil)
 .nil)
 .nil)⟩
noncomputable def f__law_reach:MFn:=⟨["_law_row","_law_stop"],
 (.cons (.whil (.and (.cons (.cmp (.var "_law_stop") (.cons .lt (.bi "len" (.cons (.var "_law_row") .nil)) .nil)) (.cons (.cmp (.sub (.var "_law_row") (.var "_law_stop")) (.cons .is_ .none .nil)) .nil)))
 (.cons (.assign "_law_stop" (.bin .add (.var "_law_stop") (.int 1)))
 .nil))
 (.cons (.ret (.var "_law_stop"))
 .nil))⟩
noncomputable def f__law_full:MFn:=⟨["_law_rows_here","_law_begin","_law_end"],
 (.cons (.for_ "_law_leg" (.bi "range" (.cons (.var "_law_begin") (.cons (.var "_law_end") .nil)))
 (.cons (.ite (.bi "all" (.cons (.comp (.cmp (.sub (.var "_law_row") (.var "_law_leg")) (.cons .isnot .none .nil)) "_law_row" (.var "_law_rows_here") (.bool true)) .nil))
 (.cons (.ret (.var "_law_leg"))
 .nil)
 .nil)
 .nil))
 (.cons (.ret .none)
 .nil))⟩
noncomputable def f_seat_for:MFn:=⟨["ends","begin"],
 (.cons (.for_ "seat" (.bi "range" (.cons (.bi "len" (.cons (.var "ends") .nil)) .nil))
 (.cons (.ite (.cmp (.sub (.var "ends") (.var "seat")) (.cons .le (.var "begin") .nil))
 (.cons (.ret (.var "seat"))
 .nil)
 .nil)
 .nil))
 (.cons (.ret (.bi "len" (.cons (.var "ends") .nil)))
 .nil))⟩
noncomputable def f_Train_farthest:MFn:=⟨["self","seat","stop"],
 (.cons (.expr (.meth (.var "self") "need_seat" (.cons (.var "seat") .nil)))
 (.cons (.ite (.not (.cmp (.int 0) (.cons .le (.var "stop") (.cons .lt (.attr (.var "self") "stops") .nil))))
 (.cons (.raise "NoStop" "no such stop")
 .nil)
 .nil)
 (.cons (.ret (.meth (.var "self") "leads" (.cons (.var "seat") (.cons (.var "stop") .nil))))
 .nil)))⟩
noncomputable def f__law_offers:MFn:=⟨["_law_train","_law_rows_here","_law_begin","_law_end"],
 (.cons (.assign "_law_found_here" (.call "_law_offered" (.cons (.var "_law_train") (.cons (.var "_law_begin") (.cons (.var "_law_end") .nil)))))
 (.cons (.ite (.cmp (.call "_law_full" (.cons (.var "_law_rows_here") (.cons (.var "_law_begin") (.cons (.var "_law_end") .nil)))) (.cons .isnot .none .nil))
 (.cons (.ret (.cmp (.sub (.var "_law_found_here") (.int 0)) (.cons .eq (.str "full") .nil)))
 .nil)
 .nil)
 (.cons (.ret (.and (.cons (.cmp (.sub (.var "_law_found_here") (.int 0)) (.cons .eq (.str "") .nil)) (.cons (.call "_law_rows" (.cons (.sub (.var "_law_found_here") (.int 1)) (.cons (.call "_law_found" (.cons (.var "_law_rows_here") (.cons (.var "_law_begin") (.cons (.var "_law_end") .nil)))) .nil))) .nil))))
 .nil)))⟩
noncomputable def f_Train_blocked:MFn:=⟨["self","begin","end"],
 (.cons (.expr (.meth (.var "self") "need_stretch" (.cons (.var "begin") (.cons (.var "end") .nil))))
 (.cons (.ret (.meth (.var "self") "blocking" (.cons (.var "begin") (.cons (.var "end") .nil))))
 .nil))⟩
noncomputable def f_Train_load:MFn:=⟨["self","leg"],
 (.cons (.expr (.meth (.var "self") "need_leg" (.cons (.var "leg") .nil)))
 (.cons (.ret (.bi "len" (.cons (.comp (.var "seat") "seat" (.bi "range" (.cons (.attr (.var "self") "seats") .nil)) (.cmp (.sub (.sub (.attr (.var "self") "held") (.var "seat")) (.var "leg")) (.cons .isnot .none .nil))) .nil)))
 .nil))⟩
noncomputable def f_Train_hold:MFn:=⟨["self","ticket","part"],
 (.cons (.setIdx (.attr (.var "self") "rides") (.var "ticket") (.bin .add (.bm (.attr (.var "self") "rides") "get" (.cons (.var "ticket") (.cons (.list .nil) .nil))) (.list (.cons (.var "part") .nil))))
 (.cons (.expr (.meth (.var "self") "mark" (.cons (.list (.cons (.var "part") .nil)) (.cons (.var "ticket") .nil))))
 .nil))⟩
noncomputable def f_need_part:MFn:=⟨["train","told","part"],
 (.cons (.unpack ["seat","begin","end"] (.var "part"))
 (.cons (.assign "size" (.meth (.var "train") "size" .nil))
 (.cons (.ite (.not (.cmp (.int 0) (.cons .le (.var "seat") (.cons .lt (.sub (.var "size") (.int 0)) .nil))))
 (.cons (.raise "NoSeat" "no such seat")
 .nil)
 .nil)
 (.cons (.ite (.not (.cmp (.int 0) (.cons .le (.var "begin") (.cons .lt (.var "end") (.cons .lt (.sub (.var "size") (.int 1)) .nil)))))
 (.cons (.raise "NoStretch" "no stretch")
 .nil)
 .nil)
 (.cons (.ite (.and (.cons (.cmp (.var "told") (.cons .ne (.list .nil) .nil)) (.cons (.or (.cons (.cmp (.sub (.sub (.var "told") (.neg (.int 1))) (.int 2)) (.cons .ne (.var "begin") .nil)) (.cons (.cmp (.sub (.sub (.var "told") (.neg (.int 1))) (.int 0)) (.cons .eq (.var "seat") .nil)) .nil))) .nil)))
 (.cons (.raise "NoStretch" "not behind the part ahead")
 .nil)
 .nil)
 (.cons (.for_ "leg" (.bi "range" (.cons (.var "begin") (.cons (.var "end") .nil)))
 (.cons (.ite (.cmp (.meth (.var "train") "holder" (.cons (.var "seat") (.cons (.var "leg") .nil))) (.cons .isnot .none .nil))
 (.cons (.raise "Shared" "the seat is held")
 .nil)
 .nil)
 .nil))
 .nil))))))⟩
noncomputable def f_number_of:MFn:=⟨["word"],
 (.cons (.ite (.or (.cons (.not (.cmp (.int 1) (.cons .le (.bi "len" (.cons (.var "word") .nil)) (.cons .le (.gconst "MOST_FIGURES" (.int 9)) .nil)))) (.cons (.and (.cons (.cmp (.sub (.var "word") (.int 0)) (.cons .eq (.str "0") .nil)) (.cons (.cmp (.bi "len" (.cons (.var "word") .nil)) (.cons .gt (.int 1) .nil)) .nil))) .nil)))
 (.cons (.raise "NoText" "no number")
 .nil)
 .nil)
 (.cons (.for_ "sign" (.var "word")
 (.cons (.ite (.cmp (.var "sign") (.cons .notin (.gconst "FIGURES" (.str (PySem.Str.ofString "0123456789"))) .nil))
 (.cons (.raise "NoText" "no number")
 .nil)
 .nil)
 .nil))
 (.cons (.ret (.bi "int" (.cons (.var "word") .nil)))
 .nil)))⟩
noncomputable def f_Train_mark:MFn:=⟨["self","told","ticket"],
 (.cons (.forT ["seat","begin","end"] (.var "told")
 (.cons (.for_ "leg" (.bi "range" (.cons (.var "begin") (.cons (.var "end") .nil)))
 (.cons (.setIdx (.sub (.attr (.var "self") "held") (.var "seat")) (.var "leg") (.var "ticket"))
 .nil))
 .nil))
 .nil)⟩
noncomputable def f_Train_found:MFn:=⟨["self","begin","end"],
 (.cons (.assign "told" (.list .nil))
 (.cons (.assign "at" (.var "begin"))
 (.cons (.whil (.cmp (.var "at") (.cons .lt (.var "end") .nil))
 (.cons (.assign "best" (.int 0))
 (.cons (.assign "to" (.bi "min" (.cons (.meth (.var "self") "leads" (.cons (.int 0) (.cons (.var "at") .nil))) (.cons (.var "end") .nil))))
 (.cons (.for_ "seat" (.bi "range" (.cons (.int 1) (.cons (.attr (.var "self") "seats") .nil)))
 (.cons (.assign "there" (.bi "min" (.cons (.meth (.var "self") "leads" (.cons (.var "seat") (.cons (.var "at") .nil))) (.cons (.var "end") .nil))))
 (.cons (.ite (.cmp (.var "there") (.cons .gt (.var "to") .nil))
 (.cons (.assign "best" (.var "seat"))
 (.cons (.assign "to" (.var "there"))
 .nil))
 .nil)
 .nil)))
 (.cons (.expr (.bm (.var "told") "append" (.cons (.tup (.cons (.var "best") (.cons (.var "at") (.cons (.var "to") .nil)))) .nil)))
 (.cons (.assign "at" (.var "to"))
 .nil))))))
 (.cons (.ret (.var "told"))
 .nil))))⟩
noncomputable def f_Train_row:MFn:=⟨["self","begin","end"],
 (.cons (.expr (.meth (.var "self") "need_stretch" (.cons (.var "begin") (.cons (.var "end") .nil))))
 (.cons (.ite (.cmp (.meth (.var "self") "blocking" (.cons (.var "begin") (.cons (.var "end") .nil))) (.cons .isnot .none .nil))
 (.cons (.raise "Full" "no seat is free on some leg")
 .nil)
 .nil)
 (.cons (.ret (.meth (.var "self") "found" (.cons (.var "begin") (.cons (.var "end") .nil))))
 .nil)))⟩
noncomputable def f_Train_leads:MFn:=⟨["self","seat","stop"],
 (.cons (.whil (.and (.cons (.cmp (.var "stop") (.cons .lt (.bin .sub (.attr (.var "self") "stops") (.int 1)) .nil)) (.cons (.cmp (.sub (.sub (.attr (.var "self") "held") (.var "seat")) (.var "stop")) (.cons .is_ .none .nil)) .nil)))
 (.cons (.assign "stop" (.bin .add (.var "stop") (.int 1)))
 .nil))
 (.cons (.ret (.var "stop"))
 .nil))⟩
noncomputable def f__law_offered:MFn:=⟨["_law_train","_law_begin","_law_end"],
 (.cons (.try_ (.cons (.ret (.list (.cons (.str "") (.cons (.meth (.var "_law_train") "row" (.cons (.var "_law_begin") (.cons (.var "_law_end") .nil))) .nil))))
 .nil) "_law_e"
 (.cons (.ret (.list (.cons (.call "_law_class" (.cons (.var "_law_e") .nil)) (.cons .none .nil))))
 .nil))
 .nil)⟩
noncomputable def f_Train_blocking:MFn:=⟨["self","begin","end"],
 (.cons (.for_ "leg" (.bi "range" (.cons (.var "begin") (.cons (.var "end") .nil)))
 (.cons (.ite (.bi "all" (.cons (.comp (.cmp (.sub (.sub (.attr (.var "self") "held") (.var "seat")) (.var "leg")) (.cons .isnot .none .nil)) "seat" (.bi "range" (.cons (.attr (.var "self") "seats") .nil)) (.bool true)) .nil))
 (.cons (.ret (.var "leg"))
 .nil)
 .nil)
 .nil))
 (.cons (.ret .none)
 .nil))⟩
noncomputable def f_Train_need_stretch:MFn:=⟨["self","begin","end"],
 (.cons (.ite (.not (.cmp (.int 0) (.cons .le (.var "begin") (.cons .lt (.var "end") (.cons .lt (.attr (.var "self") "stops") .nil)))))
 (.cons (.raise "NoStretch" "no stretch")
 .nil)
 .nil)
 .nil)⟩
noncomputable def theP:MProg:=[("_law_text_of",f__law_text_of),("written",f_written),("_law_word",f__law_word),("_law_like",f__law_like),("_law_done_by",f__law_done_by),("_law_cell_at",f__law_cell_at),("_law_packs",f__law_packs),("_law_tells",f__law_tells),("_law_deed_by",f__law_deed_by),("read",f_read),("_law_cells",f__law_cells),("_law_built",f__law_built),("tickets",f_Train_tickets),("line_of",f_line_of),("parts",f_Train_parts),("size",f_Train_size),("_law_told",f__law_told),("_law_class",f__law_class),("_law_whole",f__law_whole),("holder",f_Train_holder),("_law_rows",f__law_rows),("_law_numbers",f__law_numbers),("_law_mark",f__law_mark),("_law_found",f__law_found),("_law_left",f__law_left),("_law_sold_by",f__law_sold_by),("packed",f_packed),("_law_told_of",f__law_told_of),("_law_mixed",f__law_mixed),("_law_stretch_by",f__law_stretch_by),("start_at",f_Train_start_at),("seat_ticket",f_seat_ticket),("__init__",f_Train_init),("numbers_of",f_numbers_of),("_law_laid",f__law_laid),("_law_stops",f__law_stops),("_law_seats",f__law_seats),("_law_world",f__law_world),("need_ticket",f_Train_need_ticket),("reseat",f_Train_reseat),("leave",f_Train_leave),("back",f_Train_back),("sell",f_Train_sell),("need_leg",f_Train_need_leg),("need_seat",f_Train_need_seat),("_law_reach",f__law_reach),("_law_full",f__law_full),("seat_for",f_seat_for),("farthest",f_Train_farthest),("_law_offers",f__law_offers),("blocked",f_Train_blocked),("load",f_Train_load),("hold",f_Train_hold),("need_part",f_need_part),("number_of",f_number_of),("mark",f_Train_mark),("found",f_Train_found),("row",f_Train_row),("leads",f_Train_leads),("_law_offered",f__law_offered),("blocking",f_Train_blocking),("need_stretch",f_Train_need_stretch)]
noncomputable def theT:Tab where
 fns:=[("_law_text_of",553),("written",314),("_law_word",491),("_law_like",510),("_law_done_by",444),("_law_cell_at",368),("_law_packs",546),("_law_tells",541),("_law_deed_by",458),("read",347),("_law_cells",470),("_law_built",517),("line_of",307),("_law_told",484),("_law_class",477),("_law_whole",375),("_law_rows",496),("_law_numbers",503),("_law_mark",420),("_law_found",413),("_law_left",430),("_law_sold_by",437),("packed",361),("_law_told_of",536),("_law_mixed",382),("_law_stretch_by",451),("seat_ticket",340),("numbers_of",326),("_law_laid",465),("_law_stops",396),("_law_seats",389),("_law_world",425),("_law_reach",403),("_law_full",408),("seat_for",354),("_law_offers",531),("need_part",333),("number_of",321),("_law_offered",524)]
 meths:=[("tickets",262),("parts",255),("size",295),("holder",283),("start_at",215),("need_ticket",175),("reseat",248),("leave",241),("back",236),("sell",229),("need_leg",161),("need_seat",154),("farthest",276),("blocked",269),("load",288),("hold",208),("mark",201),("found",194),("row",222),("leads",182),("blocking",187),("need_stretch",168)]
 init:=147
 bis:=["range","len","str","list","max","all","sorted","min","int"]
 consts:=[("MOST",.int 60),("FIGURES",.str (PySem.Str.ofString "0123456789")),("MOST_FIGURES",.int 9)]
 attrs:=["coming","rides","stops","seats","held"]
 sets:=["coming","held","rides","stops","seats"]
 isis:=["str","tuple","list","ValueError","NoText","Shared","Full","NoTicket","NoLeg","NoStop","NoSeat","NoStretch","NoTrain","bool","int"]
 raises:=["NoTicket","NoText","NoTrain","NoStop","NoLeg","NoSeat","Shared","NoStretch","Full"]
 tries:=true
 mks:=true
noncomputable def theC:String→Addr
 |"Train"=>298
 |"SeatError"=>24
 |"NoTrain"=>37
 |"NoStretch"=>49
 |"NoSeat"=>61
 |"NoStop"=>73
 |"NoLeg"=>85
 |"NoTicket"=>97
 |"Full"=>109
 |"Shared"=>121
 |"NoText"=>133
 |_=>0
end Mine
end
section
open PySem PySem.W PyProof.Rows
namespace Mine
noncomputable def theAs:List Addr:=[2,3,15,22,23,24,25,28,35,36,37,40,47,48,49,52,59,60,61,64,71,72,73,76,83,84,85,88,95,96,97,100,107,108,109,112,119,120,121,124,131,132,133,143,146,147,148,150,151,153,154,155,157,158,160,161,162,164,165,167,168,169,171,172,174,175,176,178,179,181,182,183,186,187,188,190,191,193,194,195,197,198,200,201,202,204,205,207,208,209,211,212,214,215,216,218,219,221,222,223,225,226,228,229,230,232,233,235,236,237,240,241,242,244,245,247,248,249,251,252,254,255,256,258,259,261,262,263,265,266,268,269,270,272,273,275,276,277,279,280,282,283,284,287,288,289,291,292,294,295,296,297,298,299,300,303,306,307,308,310,311,313,314,315,317,318,320,321,322,325,326,327,329,330,332,333,334,336,337,339,340,341,343,344,346,347,348,350,351,353,354,355,357,358,360,361,362,364,365,367,368,369,371,372,374,375,376,378,379,381,382,383,385,386,388,389,390,392,393,395,396,397,399,400,402,403,404,407,408,409,412,413,414,416,417,419,420,421,424,425,426,429,430,431,433,434,436,437,438,440,441,443,444,445,447,448,450,451,452,454,455,457,458,459,461,462,464,465,466,469,470,471,473,474,476,477,478,480,481,483,484,485,487,488,490,491,492,495,496,497,499,500,502,503,504,506,507,509,510,511,513,514,516,517,518,520,521,523,524,525,527,528,530,531,532,535,536,537,540,541,542,545,546,547,549,550,552,553,554,556,557,559,560]
noncomputable def theH:Hook:=lawHook theAs theC theT theP
set_option maxRecDepth 1000000 in
theorem top_seen:∀ w:World,(fun os=>(goT (stepOk 11 (some (.ref 6))) (stepT (denote treeTable) PySem.Challenge.pw_uf040032_12 w) 8810 ⟨bootTree w.params,11,(boot_heap w.params).life,Array.mk [],boot_drawn,boot_toks,os⟩ (topStub PySem.Challenge.pw_uf040032_12)).map fun s₁=>theH.obs s₁.abs)=fun _=>some true:=by
 intro w
 rw [PySem.W.Fast.te6613529449190102663,PySem.W.Fast.te10156331382660048174,PySem.W.Fast.te11892475500146522536,PySem.W.Fast.te14364793385576792824]
 kernel_rfl
theorem top_tree:∀ w:World,absHeap (bootTree w.params) 11 (boot_heap w.params).life=boot_heap w.params:=by
 intro w;kernel_rfl
theorem top_size:∀ w:World,((boot_heap w.params).isNs mainGlobals&&(Array.mk ([]:List GenState)).size==0,(boot_heap w.params).objs.size,(boot_heap w.params).nsMap mainGlobals "__annotations__")=(true,11,some (.ref 6)):=by
 intro w;kernel_rfl
theorem top_open:∀ w:World,(fencedOpening treeTable PySem.Challenge.pw_uf040032_12 w 8810).map (fun s=>(s.heap,s.gens,s.drawn,s.toks))=some (boot_heap w.params,Array.mk [],boot_drawn,boot_toks):=
 boot_open (by kernel_rfl) rfl (fun s=>by kernel_rfl)
theorem top_left:LeftO PySem.Challenge.pw_uf040032_12 theQ [] (fun s=>xlAt theQ [] s&&recOk [] s) theH.obs theH.val 8810:=left_of_tree top_open top_size top_tree top_run top_seen
set_option maxRecDepth 1000000 in
set_option maxHeartbeats 0 in
theorem law_said:OpenLaw.wellSaid PySem.Challenge.rw_uf040032_12=true:=by
 delta OpenLaw.wellSaid OpenRow.wellSaid OpenRow.partSaid looksOpen
 (repeat' with_reducible apply look_both)<;>decide +kernel
end Mine
end
section
namespace Mine
theorem tnS {i:Int}(h:0≤i):(i+1).toNat=i.toNat+1:=Int.toNat_add h (by decide)
theorem tnP {s:Int}(h:1≤s):((s-1).toNat:Int)=s-1:=Int.toNat_of_nonneg (Int.sub_nonneg_of_le h)
theorem tnL {s i:Int}(h1:1≤i)(h:s<i):s≤((i-1).toNat:Int):=(tnP h1).symm▸Int.le_sub_one_of_lt h
theorem tnU {s i:Int}(h1:1≤i)(h:s≤((i-1).toNat:Int)):s<i:=Int.lt_of_le_sub_one (tnP h1▸h)
theorem tn_lt {a b c:Int}(h:b<c)(h2:b<a):(a-c).toNat<(a-b).toNat:=(Int.toNat_lt_toNat (Int.sub_pos_of_lt h2)).mpr (Int.sub_lt_sub_left h a)
theorem tnV {e a p:Int}{N:Nat}(h:(e-a).toNat≤N+1)(h1:a<p)(h2:a<e):(e-p).toNat≤N:=Nat.le_of_lt_succ (Nat.lt_of_lt_of_le (tn_lt h1 h2) h)
theorem tnZ {a b:Int}(h:(b-a).toNat=0):b≤a:=Int.le_of_sub_nonpos (Int.toNat_eq_zero.mp h)
theorem tnQ {b x:Int}{n:Nat}(h:(b-x).toNat=n+1):x<b:=Int.not_le.mp fun q=>by
 rw [Int.toNat_eq_zero.mpr (Int.sub_nonpos_of_le q)] at h;cases h
theorem tn {a b:Int}(h:b<a):(a-b).toNat=(a-(b+1)).toNat+1:=by
 rw [←tnS (Int.sub_nonneg_of_le h),←Int.sub_sub,Int.sub_add_cancel]
theorem tnR {b x:Int}{n:Nat}(h:(b-x).toNat=n+1):(b-(x+1)).toNat=n:=Nat.succ.inj ((tn (tnQ h)).symm.trans h)
theorem acc_le {n:Nat}{a b x:Int}(h:(n:Int)≤a-b)(k:a<x):((n+1:Nat):Int)≤x-b:=Int.lt_of_le_of_lt h (Int.sub_lt_sub_right k b)
theorem last_nn {n:Nat}(h:0<n):0≤ -1+(n:Int)∧(-1+(n:Int)).toNat=n-1:=by
 cases n with
 |zero=>cases h
 |succ n=>
  have e: -1+((n+1:Nat):Int)=n:=(Int.add_comm _ _).trans (Int.add_sub_cancel (n:Int) 1)
  rw [e];exact ⟨Int.natCast_nonneg n,rfl⟩
theorem tnK {a b:Int}(h0:0≤a)(h:a<b):a.toNat<b.toNat:=(Int.toNat_lt_toNat (Int.lt_of_le_of_lt h0 h)).mpr h
theorem tnT {s:Int}(h:1≤s):s.toNat=(s-1).toNat+1:=by
 rw [←tnS (Int.sub_nonneg_of_le h),Int.sub_add_cancel]
theorem minI_l (x y:Int):minI x y≤x:=by
 unfold minI;split
 ·exact Int.le_of_lt ‹_›
 ·exact Int.le_refl _
theorem minI_r (x y:Int):minI x y≤y:=by
 unfold minI;split
 ·exact Int.le_refl _
 ·exact Int.not_lt.mp ‹_›
theorem minI_ge {a x y:Int}(h:a≤x)(k:a≤y):a≤minI x y:=by
 unfold minI;split<;>assumption
theorem minI_gt {a x y:Int}(h:a<x)(k:a<y):a<minI x y:=by
 unfold minI;split<;>assumption
theorem minI_is {p x y:Int}(h:p=minI x y)(k:p<y):x=p:=by
 unfold minI at h;split at h
 ·exact absurd h (Int.ne_of_lt k)
 ·exact h.symm
abbrev Grid:=Int→Int→Option Int
abbrev Part:=Int×Int×Int
noncomputable def markP (g:Grid)(p:Part)(k:Option Int):Grid:=fun s l=>if s=p.1∧p.2.1≤l∧l<p.2.2 then k else g s l
noncomputable def marks (g:Grid)(ps:List Part)(k:Option Int):Grid:=ps.foldl (fun g p=>markP g p k) g
noncomputable def leadF (g:Grid)(seat:Int):Nat→Int→Int
 |0,stop=>stop
 |k+1,stop=>if (g seat stop).isNone then leadF g seat k (stop+1) else stop
noncomputable def lead (g:Grid)(stops seat stop:Int):Int:=leadF g seat (stops-1-stop).toNat stop
noncomputable def bestN (g:Grid)(stops e at_:Int):Nat→Int×Int
 |0=>(0,minI (lead g stops 0 at_) e)
 |k+1=>let p:=bestN g stops e at_ k;let th:=minI (lead g stops ((k:Int)+1) at_) e;if p.2<th then ((k:Int)+1,th) else p
noncomputable def foundF (g:Grid)(seats stops e:Int):Nat→Int→List Part
 |0,_=>[]
 |k+1,at_=>if at_<e then let p:=bestN g stops e at_ (seats-1).toNat;(p.1,at_,p.2)::foundF g seats stops e k p.2 else []
noncomputable def Cov (p:Part)(s l:Int):Prop:=s=p.1∧p.2.1≤l∧l<p.2.2
noncomputable def Covs (ps:List Part)(s l:Int):Prop:=∃ p∈ps,Cov p s l
theorem marks_in {k:Option Int}{s l:Int}:∀{ps:List Part} {g:Grid},Covs ps s l→marks g ps k s l=k
 |p::ps,g,⟨q,hq,hc⟩=>by
  show marks (markP g p k) ps k s l=k
  by_cases h:Covs ps s l
  ·exact marks_in h
  ·have hn:∀{ps:List Part} {g:Grid},¬ Covs ps s l→marks g ps k s l=g s l:=by
    intro ps;induction ps with
    |nil=>intro g _;rfl
    |cons p ps ih=>
     intro g hn
     show marks (markP g p k) ps k s l=g s l
     rw [ih fun ⟨q,hq,hc⟩=>hn ⟨q,.tail _ hq,hc⟩]
     exact if_neg fun z=>hn ⟨p,.head _,z⟩
   rw [hn h]
   rcases List.mem_cons.mp hq with rfl|hq
   ·exact if_pos hc
   ·exact absurd ⟨q,hq,hc⟩ h
theorem marks_out {k:Option Int}{s l:Int}:∀{ps:List Part} {g:Grid},¬ Covs ps s l→marks g ps k s l=g s l
 | [],_,_=>rfl
 |p::ps,g,hn=>by
  show marks (markP g p k) ps k s l=g s l
  rw [marks_out fun ⟨q,hq,hc⟩=>hn ⟨q,.tail _ hq,hc⟩]
  exact if_neg fun z=>hn ⟨p,.head _,z⟩
inductive Goes (seats:Int):Int→List Part→Int→Prop
 |one {s b e:Int}(h0:0≤s)(h1:s<seats)(h2:b<e):Goes seats b [(s,b,e)] e
 |cons {s b m e:Int}{p:Part}{ps:List Part}(h0:0≤s)(h1:s<seats)(h2:b<m)(hs:s≠p.1)(t:Goes seats m (p::ps) e):Goes seats b ((s,b,m)::p::ps) e
theorem Goes.lt {seats b e:Int}{ps:List Part}(h:Goes seats b ps e):b<e:=by
 induction h with
 |one _ _ h=>exact h
 |cons _ _ h _ _ ih=>lia
theorem Goes.ne {seats b e:Int}{ps:List Part}(h:Goes seats b ps e):ps≠ []:=by cases h<;>simp
theorem Goes.mem {seats b e:Int}{ps:List Part}(h:Goes seats b ps e):∀ p∈ps,0≤p.1∧p.1<seats∧b≤p.2.1∧p.2.1<p.2.2∧p.2.2≤e:=by
 induction h with
 |one h0 h1 h2=>intro p hp;simp at hp;subst hp;exact ⟨h0,h1,by dsimp only;lia,h2,by dsimp only;lia⟩
 |cons h0 h1 h2 _ t ih=>
  intro p hp
  have:=t.lt
  rcases List.mem_cons.mp hp with rfl|hp
  ·exact ⟨h0,h1,by dsimp only;lia,h2,by dsimp only;lia⟩
  ·obtain ⟨a,b,c,d,f⟩:=ih p hp
   exact ⟨a,b,by lia,d,f⟩
theorem Goes.cov {seats b e:Int}{ps:List Part}(h:Goes seats b ps e){s l:Int}(hc:Covs ps s l):0≤s∧s<seats∧b≤l∧l<e:=by
 obtain ⟨p,hp,rfl,h1,h2⟩:=hc
 obtain ⟨a,c,d,f,i⟩:=h.mem p hp
 exact ⟨a,c,Int.le_trans d h1,Int.lt_of_lt_of_le h2 i⟩
theorem leadF_ge {g:Grid}{seat:Int}:∀(k:Nat) (stop:Int),stop≤leadF g seat k stop∧leadF g seat k stop≤stop+k
 |0,stop=>⟨Int.le_refl _,Int.le_of_eq (Int.add_zero _).symm⟩
 |k+1,stop=>by
  have:=leadF_ge (g:=g) (seat:=seat) k (stop+1)
  unfold leadF;split
  ·exact ⟨Int.le_of_lt this.1,Int.le_trans this.2 (Int.le_of_eq ((Int.add_assoc _ _ _).trans (congrArg (stop+ ·) (Int.add_comm 1 k))))⟩
  ·exact ⟨Int.le_refl _,Int.le_add_of_nonneg_right (Int.natCast_nonneg _)⟩
theorem leadF_free {g:Grid}{seat:Int}:∀(k:Nat) (stop l:Int),stop≤l→l<leadF g seat k stop→g seat l=none
 |0,stop,l,h1,h2=>by simp only [leadF] at h2;lia
 |k+1,stop,l,h1,h2=>by
  unfold leadF at h2
  split at h2
  ·rename_i q
   by_cases z:l=stop
   ·subst z;simpa using q
   ·exact leadF_free k (stop+1) l (by lia) h2
  ·lia
theorem leadF_stop {g:Grid}{seat:Int}:∀(k:Nat) (stop:Int),leadF g seat k stop<stop+k→g seat (leadF g seat k stop)≠none
 |0,stop,h=>by simp only [leadF] at h;lia
 |k+1,stop,h=>by
  unfold leadF at h ⊢
  split at h<;>rename_i q
  ·rw [if_pos q];exact leadF_stop k (stop+1) (by lia)
  ·rw [if_neg q];intro z;rw [z] at q;simp at q
theorem lead_facts {g:Grid}{stops seat stop:Int}(h:stop≤stops-1):stop≤lead g stops seat stop∧lead g stops seat stop≤stops-1∧(∀ l,stop≤l→l<lead g stops seat stop→g seat l=none)∧(lead g stops seat stop<stops-1→g seat (lead g stops seat stop)≠none):=by
 have:=leadF_ge (g:=g) (seat:=seat) (stops-1-stop).toNat stop
 have e:stop+((stops-1-stop).toNat:Int)=stops-1:=by
  rw [Int.toNat_of_nonneg (Int.sub_nonneg_of_le h),Int.add_comm,Int.sub_add_cancel]
 exact ⟨this.1,e▸this.2,fun l=>leadF_free _ _ l,fun q=>leadF_stop _ _ (e.symm▸q)⟩
theorem bestN_facts {g:Grid}{stops e at_:Int}(h1:at_<e)(h2:e<stops):∀ k:Nat,(at_≤(bestN g stops e at_ k).2∧(bestN g stops e at_ k).2≤e∧0≤(bestN g stops e at_ k).1∧(bestN g stops e at_ k).1≤k∧(bestN g stops e at_ k).2=minI (lead g stops (bestN g stops e at_ k).1 at_) e)∧
  ∀ i:Nat,i≤k→minI (lead g stops i at_) e≤(bestN g stops e at_ k).2:=by
 have h3:at_≤stops-1:=Int.le_sub_one_of_lt (Int.lt_trans h1 h2)
 have h4:=Int.le_of_lt h1
 intro k
 induction k with
 |zero=>exact ⟨⟨minI_ge (lead_facts h3).1 h4,minI_r _ _,Int.le_refl _,Int.le_refl _,rfl⟩,fun i hi=>by cases hi;exact Int.le_refl _⟩
 |succ k ih0=>
  obtain ⟨⟨a,b,c,d,f⟩,ih⟩:=ih0
  unfold bestN
  dsimp only
  generalize bestN g stops e at_ k=p at*
  split<;>rename_i w
  ·refine ⟨⟨minI_ge (lead_facts h3).1 h4,minI_r _ _,Int.natCast_nonneg (k+1),Int.le_refl _,rfl⟩,fun i hi=>?_⟩
   rcases Nat.lt_or_ge k i with q|q
   ·exact Nat.le_antisymm hi q▸Int.le_refl _
   ·exact Int.le_of_lt (Int.lt_of_le_of_lt (ih i q) w)
  ·refine ⟨⟨a,b,c,Int.le_trans d (Int.ofNat_le.mpr (Nat.le_succ k)),f⟩,fun i hi=>?_⟩
   rcases Nat.lt_or_ge k i with q|q
   ·exact Nat.le_antisymm hi q▸Int.not_lt.mp w
   ·exact ih i q
theorem best_gt {g:Grid}{stops e at_ seat:Int}{k:Nat}(h1:at_<e)(h2:e<stops)(h3:0≤seat)(h4:seat≤k)(hg:g seat at_=none):at_<(bestN g stops e at_ k).2:=by
 have:=(bestN_facts (g:=g) h1 h2 k).2 seat.toNat (Int.toNat_le.mpr h4)
 rw [Int.toNat_of_nonneg h3] at this
 have h5:=Int.le_sub_one_of_lt h2
 obtain ⟨a,b,_,d⟩:=lead_facts (g:=g) (seat:=seat) (Int.le_trans (Int.le_of_lt h1) h5)
 have l:at_<lead g stops seat at_:=Int.lt_iff_le_and_ne.mpr ⟨a,fun z=>by
  rw [←z] at d;exact d (Int.lt_of_lt_of_le h1 h5) hg⟩
 exact Int.lt_of_lt_of_le (minI_gt l h1) this
theorem foundF_nil {g:Grid}{seats stops e:Int}{N:Nat}:foundF g seats stops e N e=[]:=by
 cases N with
 |zero=>rfl
 |succ N=>exact if_neg (Int.lt_irrefl e)
theorem Goes.hd {seats b e:Int}{p:Part}{ps:List Part}(h:Goes seats b (p::ps) e):p.2.1=b:=by cases h<;>rfl
theorem found_goes {g:Grid}{seats stops e:Int}(hs:1≤seats)(h2:e<stops):∀(N:Nat) (at_:Int),0≤at_→at_<e→(e-at_).toNat≤N→(∀ l,at_≤l→l<e→∃ s,0≤s∧s<seats∧g s l=none)→
  Goes seats at_ (foundF g seats stops e N at_) e∧∀ s l,Covs (foundF g seats stops e N at_) s l→g s l=none:=by
 intro N
 induction N with
 |zero=>intro at_ _ h1 hN _;exact absurd (tnZ (Nat.le_zero.mp hN)) (Int.not_le.mpr h1)
 |succ N ih=>
  intro at_ h0 h1 hN hf
  obtain ⟨s,s0,s1,sg⟩:=hf at_ (Int.le_refl _) h1
  have h5:=Int.le_sub_one_of_lt h2
  have bf:=(bestN_facts (g:=g) h1 h2 (seats-1).toNat).1
  have bg:=best_gt (k:=(seats-1).toNat) h1 h2 s0 (tnL hs s1) sg
  have lf:=lead_facts (g:=g) (seat:=(bestN g stops e at_ (seats-1).toNat).1) (Int.le_trans (Int.le_of_lt h1) h5)
  unfold foundF
  rw [if_pos h1]
  dsimp only
  generalize bestN g stops e at_ (seats-1).toNat=p at bf bg lf
  obtain ⟨ps,pt⟩:=p
  obtain ⟨b1,b2,b3,b4,b5⟩:=bf
  dsimp only at b1 b2 b3 b4 b5 bg lf ⊢
  replace b4:=tnU hs b4
  have free:∀ l,at_≤l→l<pt→g ps l=none:=fun l q1 q2=>lf.2.2.1 l q1 (Int.lt_of_lt_of_le q2 (b5▸minI_l _ _))
  by_cases q:pt<e
  ·obtain ⟨ih1,ih2⟩:=ih pt (Int.le_trans h0 b1) q (tnV hN bg h1) fun l q1 q2=>hf l (Int.le_trans b1 q1) q2
   refine ⟨?_,fun s l ⟨x,hx,hc⟩=>?_⟩
   ·generalize foundF g seats stops e N pt=r at ih1 ih2 ⊢
    cases r with
    |nil=>exact absurd rfl ih1.ne
    |cons y ys=>
     refine .cons b3 b4 bg (fun z=>?_) ih1
     have hpt:=minI_is b5 q
     have hne:=lf.2.2.2 (hpt▸Int.lt_of_lt_of_le q h5)
     rw [hpt] at hne
     have hy:=ih2 _ _ ⟨y,.head _,rfl,Int.le_refl _,(ih1.mem y (.head _)).2.2.2.1⟩
     rw [←z,ih1.hd] at hy
     exact hne hy
   ·rcases List.mem_cons.mp hx with rfl|hx
    ·obtain ⟨rfl,c1,c2⟩:=hc;exact free l c1 c2
    ·exact ih2 s l ⟨x,hx,hc⟩
  ·obtain rfl:=Int.le_antisymm b2 (Int.not_lt.mp q)
   rw [foundF_nil]
   exact ⟨.one b3 b4 bg,fun s l ⟨x,hx,hc⟩=>by obtain rfl:=List.mem_singleton.mp hx;obtain ⟨rfl,c1,c2⟩:=hc;exact free l c1 c2⟩
end Mine
end
section
namespace Mine
abbrev Rides:=List (Int×List Part)
noncomputable def rSet (R:Rides)(k:Int)(ps:List Part):Rides:=R.map fun x=>if x.1=k then (k,ps) else x
noncomputable def rDel (R:Rides)(k:Int):Rides:=R.filter fun x=>decide (x.1≠k)
structure Inv (seats stops coming:Int)(R:Rides)(g:Grid):Prop where
 asc:R.Pairwise fun x y=>x.1<y.1
 rng:∀ x∈R,0≤x.1∧x.1<coming
 goes:∀ x∈R,∃ b e,0≤b∧e≤stops-1∧Goes seats b x.2 e
 cov:∀ s l k,0≤s→s<seats→0≤l→l<stops-1→(g s l=some k↔∃ ps,(k,ps)∈R∧Covs ps s l)
section
variable {seats stops coming:Int}{R:Rides}{g:Grid}
theorem inv_init:Inv seats stops 0 [] fun _ _=>none:=
 ⟨.nil,fun _ h=>(by cases h),fun _ h=>(by cases h),fun s l k _ _ _ _=>⟨fun h=>(by cases h),fun ⟨_,h,_⟩=>(by cases h)⟩⟩
theorem asc_unique (h:R.Pairwise fun x y=>x.1<y.1){k:Int}{a b:List Part}(ha:(k,a)∈R)(hb:(k,b)∈R):a=b:=by
 induction h with
 |nil=>cases ha
 | @cons x r hx t ih=>
  rcases List.mem_cons.mp ha with e1|ha'<;>rcases List.mem_cons.mp hb with e2|hb'
  ·rw [←e1] at e2;cases e2;rfl
  ·have:=hx _ hb';rw [←e1] at this;exact absurd this (Int.lt_irrefl _)
  ·have:=hx _ ha';rw [←e2] at this;exact absurd this (Int.lt_irrefl _)
  ·exact ih ha' hb'
theorem mem_rSet {k:Int}{ps:List Part}{x:Int×List Part}:x∈rSet R k ps↔(x.1≠k∧x∈R)∨(x=(k,ps)∧∃ q,(k,q)∈R):=by
 unfold rSet
 rw [List.mem_map]
 constructor
 ·rintro ⟨y,hy,e⟩
  by_cases h:y.1=k
  ·rw [if_pos h] at e;exact .inr ⟨e.symm,y.2,by rw [←h];exact hy⟩
  ·rw [if_neg h] at e;exact .inl ⟨e▸h,e▸hy⟩
 ·rintro (⟨h,hx⟩|⟨rfl,q,hq⟩)
  ·exact ⟨x,hx,if_neg h⟩
  ·exact ⟨(k,q),hq,if_pos rfl⟩
theorem mem_rDel {k:Int}{x:Int×List Part}:x∈rDel R k↔x.1≠k∧x∈R:=by
 unfold rDel
 rw [List.mem_filter]
 exact ⟨fun h=>⟨of_decide_eq_true h.2,h.1⟩,fun h=>⟨h.2,decide_eq_true h.1⟩⟩
theorem asc_rSet {k:Int}{ps:List Part}(h:R.Pairwise fun x y=>x.1<y.1):(rSet R k ps).Pairwise fun x y=>x.1<y.1:=by
 have key:∀ x:Int×List Part,(if x.1=k then (k,ps) else x).1=x.1:=fun x=>by split<;>simp_all
 unfold rSet
 rw [List.pairwise_map]
 exact h.imp fun {a b} q=>by rw [key,key];exact q
theorem Inv.apart (I:Inv seats stops coming R g){k j:Int}{a b:List Part}(ha:(k,a)∈R)(hb:(j,b)∈R){s l:Int}(h1:Covs a s l)(h2:Covs b s l):k=j:=by
 obtain ⟨b0,e0,h0,he,G⟩:=I.goes _ ha
 obtain ⟨q1,q2,q3,q4⟩:=G.cov h1
 have x:=(I.cov s l k q1 q2 (by lia) (by lia)).mpr ⟨a,ha,h1⟩
 have y:=(I.cov s l j q1 q2 (by lia) (by lia)).mpr ⟨b,hb,h2⟩
 rw [x] at y;cases y;rfl
theorem inv_sell (I:Inv seats stops coming R g)(hc:0≤coming){b e:Int}{ps:List Part}(G:Goes seats b ps e)(h0:0≤b)(he:e≤stops-1)(hf:∀ s l,Covs ps s l→g s l=none):
  Inv seats stops (coming+1) (R++ [(coming,ps)]) (marks g ps (some coming)):=by
 refine ⟨?_,fun x hx=>?_,fun x hx=>?_,fun s l k s0 s1 l0 l1=>?_⟩
 ·rw [List.pairwise_append]
  exact ⟨I.asc,List.pairwise_singleton _ _,fun a ha b hb=>by rw [List.mem_singleton] at hb;subst hb;exact (I.rng a ha).2⟩
 ·rcases List.mem_append.mp hx with hx|hx
  ·have:=I.rng x hx;lia
  ·rw [List.mem_singleton] at hx;subst hx;dsimp only;lia
 ·rcases List.mem_append.mp hx with hx|hx
  ·exact I.goes x hx
  ·rw [List.mem_singleton] at hx;subst hx;exact ⟨b,e,h0,he,G⟩
 ·by_cases h:Covs ps s l
  ·rw [marks_in h]
   constructor
   ·intro q;cases q;exact ⟨ps,by simp,h⟩
   ·rintro ⟨qs,hm,hq⟩
    rcases List.mem_append.mp hm with hm|hm
    ·have:=(I.cov s l k s0 s1 l0 l1).mpr ⟨qs,hm,hq⟩
     rw [hf s l h] at this;cases this
    ·rw [List.mem_singleton] at hm;cases hm;rfl
  ·rw [marks_out h,I.cov s l k s0 s1 l0 l1]
   constructor
   ·rintro ⟨qs,hm,hq⟩;exact ⟨qs,List.mem_append_left _ hm,hq⟩
   ·rintro ⟨qs,hm,hq⟩
    rcases List.mem_append.mp hm with hm|hm
    ·exact ⟨qs,hm,hq⟩
    ·rw [List.mem_singleton] at hm;cases hm;exact absurd hq h
theorem inv_back (I:Inv seats stops coming R g){k:Int}{ps:List Part}(hk:(k,ps)∈R):Inv seats stops coming (rDel R k) (marks g ps none):=by
 refine ⟨I.asc.filter _,fun x hx=>I.rng x (mem_rDel.mp hx).2,fun x hx=>I.goes x (mem_rDel.mp hx).2,fun s l j s0 s1 l0 l1=>?_⟩
 by_cases h:Covs ps s l
 ·rw [marks_in h]
  refine ⟨fun q=>(by cases q),fun ⟨qs,hm,hq⟩=>?_⟩
  obtain ⟨h1,h2⟩:=mem_rDel.mp hm
  exact absurd (I.apart h2 hk hq h) h1
 ·rw [marks_out h,I.cov s l j s0 s1 l0 l1]
  constructor
  ·rintro ⟨qs,hm,hq⟩
   refine ⟨qs,mem_rDel.mpr ⟨fun z=>?_,hm⟩,hq⟩
   dsimp only at z
   subst z
   rw [asc_unique I.asc hm hk] at hq
   exact h hq
  ·rintro ⟨qs,hm,hq⟩;exact ⟨qs,(mem_rDel.mp hm).2,hq⟩
theorem inv_set (I:Inv seats stops coming R g){k b e:Int}{ps qs:List Part}{g':Grid}(hk:(k,ps)∈R)(G:Goes seats b qs e)(h0:0≤b)(he:e≤stops-1)
  (h1:∀ s l,Covs qs s l→g' s l=some k) (h2:∀ s l,Covs ps s l→¬ Covs qs s l→g' s l=none) (h3:∀ s l,¬ Covs ps s l→¬ Covs qs s l→g' s l=g s l) (h4:∀ s l,Covs qs s l→¬ Covs ps s l→g s l=none):Inv seats stops coming (rSet R k qs) g':=by
 refine ⟨asc_rSet I.asc,fun x hx=>?_,fun x hx=>?_,fun s l j s0 s1 l0 l1=>?_⟩
 ·rcases mem_rSet.mp hx with ⟨_,hx⟩|⟨rfl,q,hq⟩
  ·exact I.rng x hx
  ·exact I.rng (k,q) hq
 ·rcases mem_rSet.mp hx with ⟨_,hx⟩|⟨rfl,q,hq⟩
  ·exact I.goes x hx
  ·exact ⟨b,e,h0,he,G⟩
 ·constructor
  ·intro hg
   by_cases hq:Covs qs s l
   ·rw [h1 s l hq] at hg;cases hg
    exact ⟨qs,mem_rSet.mpr (.inr ⟨rfl,ps,hk⟩),hq⟩
   ·by_cases hp:Covs ps s l
    ·rw [h2 s l hp hq] at hg;cases hg
    ·rw [h3 s l hp hq] at hg
     obtain ⟨rs,hm,hr⟩:=(I.cov s l j s0 s1 l0 l1).mp hg
     refine ⟨rs,mem_rSet.mpr (.inl ⟨fun z=>?_,hm⟩),hr⟩
     dsimp only at z
     subst z
     rw [asc_unique I.asc hm hk] at hr
     exact hp hr
  ·rintro ⟨rs,hm,hr⟩
   rcases mem_rSet.mp hm with ⟨hj,hm⟩|⟨q,_⟩
   ·have hp:¬ Covs ps s l:=fun hp=>hj (I.apart hm hk hr hp)
    have hg:=(I.cov s l j s0 s1 l0 l1).mpr ⟨rs,hm,hr⟩
    have hq:¬ Covs qs s l:=fun hq=>by rw [h4 s l hq hp] at hg;cases hg
    rw [h3 s l hp hq];exact hg
   ·cases q;exact h1 s l hr
noncomputable def goneL (ps:List Part)(stop:Int):List Part:=(ps.filter fun p=>decide (stop<p.2.2)).map fun p=>(p.1,(if p.2.1<stop then stop else p.2.1),p.2.2)
noncomputable def keepL (ps:List Part)(stop:Int):List Part:=(ps.filter fun p=>decide (p.2.1<stop)).map fun p=>(p.1,p.2.1,(if stop<p.2.2 then stop else p.2.2))
theorem covs_gone {ps:List Part}{stop s l:Int}:Covs (goneL ps stop) s l↔Covs ps s l∧stop≤l:=by
 unfold goneL Covs Cov
 constructor
 ·rintro ⟨p,hp,h1,h2,h3⟩
  obtain ⟨q,hq,rfl⟩:=List.mem_map.mp hp
  obtain ⟨hq,_⟩:=List.mem_filter.mp hq
  dsimp only at h1 h2 h3
  split at h2
  ·exact ⟨⟨q,hq,h1,by lia,h3⟩,h2⟩
  ·exact ⟨⟨q,hq,h1,h2,h3⟩,by lia⟩
 ·rintro ⟨⟨q,hq,h1,h2,h3⟩,h4⟩
  refine ⟨_,List.mem_map.mpr ⟨q,List.mem_filter.mpr ⟨hq,decide_eq_true (by lia)⟩,rfl⟩,h1,?_,h3⟩
  dsimp only;split<;>lia
theorem covs_keep {ps:List Part}{stop s l:Int}:Covs (keepL ps stop) s l↔Covs ps s l∧l<stop:=by
 unfold keepL Covs Cov
 constructor
 ·rintro ⟨p,hp,h1,h2,h3⟩
  obtain ⟨q,hq,rfl⟩:=List.mem_map.mp hp
  obtain ⟨hq,_⟩:=List.mem_filter.mp hq
  dsimp only at h1 h2 h3
  split at h3
  ·exact ⟨⟨q,hq,h1,h2,by lia⟩,h3⟩
  ·exact ⟨⟨q,hq,h1,h2,h3⟩,by lia⟩
 ·rintro ⟨⟨q,hq,h1,h2,h3⟩,h4⟩
  refine ⟨_,List.mem_map.mpr ⟨q,List.mem_filter.mpr ⟨hq,decide_eq_true (by lia)⟩,rfl⟩,h1,h2,?_⟩
  dsimp only;split<;>lia
theorem keep_nil {b e stop:Int}{ps:List Part}(G:Goes seats b ps e)(h:stop≤b):keepL ps stop=[]:=by
 unfold keepL
 rw [List.filter_eq_nil_iff.mpr fun p hp=>by have:=(G.mem p hp).2.2.1;simp;lia]
 rfl
theorem goes_keep {b e stop:Int}{ps:List Part}(G:Goes seats b ps e)(h1:b<stop)(h2:stop≤e):Goes seats b (keepL ps stop) stop:=by
 induction G with
 | @one s b e q0 q1 q2=>
  have:keepL [(s,b,e)] stop=[(s,b,stop)]:=by
   unfold keepL
   rw [List.filter_cons_of_pos (by simpa using h1)]
   simp only [List.filter_nil,List.map_cons,List.map_nil]
   congr 3
   split<;>lia
  rw [this];exact .one q0 q1 h1
 | @cons s b m e p ps q0 q1 q2 hs t ih=>
  have e1:keepL ((s,b,m)::p::ps) stop=(s,b,if stop<m then stop else m)::keepL (p::ps) stop:=by
   unfold keepL
   rw [List.filter_cons_of_pos (by simpa using h1),List.map_cons]
  rw [e1]
  by_cases hm:m<stop
  ·rw [if_neg (by lia)]
   have ih:=ih hm h2
   have hp:p.2.1=m:=by cases t<;>rfl
   have e2:keepL (p::ps) stop=(p.1,p.2.1,if stop<p.2.2 then stop else p.2.2)::keepL ps stop:=by
    unfold keepL
    rw [List.filter_cons_of_pos (by simp;lia),List.map_cons]
   rw [e2] at ih ⊢
   exact .cons q0 q1 q2 hs ih
  ·rw [keep_nil t (by lia)]
   have:(if stop<m then stop else m)=stop:=by split<;>lia
   rw [this]
   exact .one q0 q1 h1
theorem inv_leave (I:Inv seats stops coming R g){k b e stop:Int}{ps:List Part}(hk:(k,ps)∈R)(G:Goes seats b ps e)(h1:b<stop)(h2:stop<e):
  Inv seats stops coming (rSet R k (keepL ps stop)) (marks g (goneL ps stop) none):=by
 obtain ⟨b',e',h0,he,G'⟩:=I.goes _ hk
 have hb:b=b':=by cases G<;>cases G'<;>rfl
 subst hb
 refine inv_set I hk (goes_keep G h1 (by lia)) h0 (?_:stop≤stops-1) (fun s l hq=>?_) (fun s l hp hq=>?_) (fun s l hp hq=>?_) fun s l hq hp=>?_
 ·
  have:∃ s,Covs ps s stop:=by
   clear hk G' h0
   induction G with
   | @one s b e _ _ _=>exact ⟨s,_,.head _,rfl,by dsimp only;lia,h2⟩
   | @cons s b m e p ps _ _ q2 _ t ih=>
    by_cases hm:stop<m
    ·exact ⟨s,_,.head _,rfl,by dsimp only;lia,hm⟩
    ·by_cases hm':m=stop
     ·subst hm'
      have hp:p.2.1=m:=by cases t<;>rfl
      exact ⟨p.1,p,.tail _ (.head _),rfl,by lia,by have:=(t.mem p (.head _)).2.2.2.1;lia⟩
     ·obtain ⟨x,y,hy,hc⟩:=ih (by lia) h2
      exact ⟨x,y,.tail _ hy,hc⟩
  obtain ⟨s,hs⟩:=this
  have:=(G'.cov hs).2.2.2
  lia
 ·obtain ⟨hp,hl⟩:=covs_keep.mp hq
  rw [marks_out fun z=>by have:=(covs_gone.mp z).2;lia]
  obtain ⟨q1,q2,q3,q4⟩:=G'.cov hp
  exact (I.cov s l k q1 q2 (by lia) (by lia)).mpr ⟨ps,hk,hp⟩
 ·exact marks_in (covs_gone.mpr ⟨hp,by have:¬ l<stop:=fun z=>hq (covs_keep.mpr ⟨hp,z⟩);lia⟩)
 ·exact marks_out fun z=>hp (covs_gone.mp z).1
 ·exact absurd (covs_keep.mp hq).1 hp
theorem inv_reseat (I:Inv seats stops coming R g)(hs:1≤seats){k b e:Int}{ps:List Part}(hk:(k,ps)∈R)(G:Goes seats b ps e)(h0:0≤b)(he:e≤stops-1){qs:List Part}(hq:qs=foundF (marks g ps none) seats stops e (e-b).toNat b):
  Goes seats b qs e∧Inv seats stops coming (rSet R k qs) (marks (marks g ps none) qs (some k)):=by
 have hfree:∀ l,b≤l→l<e→∃ s,0≤s∧s<seats∧marks g ps none s l=none:=by
  intro l q1 q2
  have:∃ s,Covs ps s l:=by
   clear hk hq I he h0
   induction G with
   | @one s b e _ _ _=>exact ⟨s,_,.head _,rfl,q1,q2⟩
   | @cons s b m e p ps _ _ _ _ t ih=>
    by_cases hm:l<m
    ·exact ⟨s,_,.head _,rfl,q1,hm⟩
    ·obtain ⟨x,y,hy,hc⟩:=ih (by lia) q2
     exact ⟨x,y,.tail _ hy,hc⟩
  obtain ⟨s,hc⟩:=this
  obtain ⟨c1,c2,_,_⟩:=G.cov hc
  exact ⟨s,c1,c2,marks_in hc⟩
 obtain ⟨G',hfr⟩:=found_goes (g:=marks g ps none) hs (show e<stops by lia) (e-b).toNat b h0 G.lt (Nat.le_refl _) hfree
 rw [←hq] at G' hfr
 refine ⟨G',inv_set I hk G' h0 he (fun s l h=>marks_in h) (fun s l hp hn=>?_) (fun s l hp hn=>?_) fun s l h hp=>?_⟩
 ·rw [marks_out hn];exact marks_in hp
 ·rw [marks_out hn];exact marks_out hp
 ·have:=hfr s l h
  rw [marks_out hp] at this;exact this
end
end Mine
end
section
namespace Mine
end Mine
end
section
namespace Mine
open PySem
theorem MH.set_selfE (H:MH)(a:Addr)(k:MObj):H.set a k a=some k:=if_pos rfl
theorem MH.set_neE (H:MH){a b:Addr}(k:MObj)(h:b≠a):H.set a k b=H b:=if_neg h
theorem Sto.gets (ρ:Sto)(x:String)(v:MV):Sto.set ρ x v x=some v:=if_pos rfl
theorem Sto.gn {ρ:Sto}{x:String}{v:MV}{y:String}{w:MV}(h:decide (y=x)=false)(k:ρ y=some w):Sto.set ρ x v y=some w:=(if_neg (of_decide_eq_false h)).trans k
theorem rangeL_nil {a b c:Int}(hc:0<c)(h:b≤a):rangeL a b c=[]:=by
 have h0:Builtin.Range.rangeSize a b c=0:=by
  simp only [Builtin.Range.rangeSize]
  rw [if_pos hc,if_neg (by lia)]
 simp [rangeL,h0]
theorem rangeL_cons {a b c:Int}(hc:0<c)(h:a<b):rangeL a b c=a::rangeL (a+c) b c:=by
 have h1:(Builtin.Range.rangeSize a b c).toNat=(Builtin.Range.rangeSize (a+c) b c).toNat+1:=by
  simp only [Builtin.Range.rangeSize]
  rw [if_pos hc,if_pos h,if_pos hc]
  split
  ·rename_i q
   have e:(b-a-1)=(b-(a+c)-1)+c*1:=by lia
   rw [e,Int.add_mul_ediv_left _ _ (by lia)]
   exact tnS (Int.le_add_one (Int.ediv_nonneg (Int.le_sub_one_of_lt (Int.sub_pos_of_lt q)) (Int.le_of_lt hc)))
  ·have:(b-a-1)/c=0:=Int.ediv_eq_zero_of_lt (by lia) (by lia)
   rw [this];rfl
 simp only [rangeL,h1,List.range_succ_eq_map,List.map_cons,List.map_map]
 congr 1
 ·simp
 ·apply List.map_congr_left
  intro k _
  simp only [Function.comp]
  rw [Int.natCast_succ,Int.mul_add,Int.mul_one]
  lia
theorem rangeL_mem {a b c x:Int}(hc:0<c)(h:x∈rangeL a b c):a≤x∧x<b:=by
 generalize hn:(b-a).toNat=n
 induction n using Nat.strongRecOn generalizing a with
 |ind n ih=>
  by_cases q:a<b
  ·rw [rangeL_cons hc q] at h
   cases h with
   |head=>exact ⟨Int.le_refl _,q⟩
   |tail _ h=>
    have:=ih (b-(a+c)).toNat (hn▸tn_lt (Int.lt_add_of_pos_right a hc) q) h rfl
    exact ⟨Int.le_trans (Int.le_of_lt (Int.lt_add_of_pos_right a hc)) this.1,this.2⟩
  ·rw [rangeL_nil hc (Int.not_lt.mp q)] at h;cases h
theorem rangeL_len1 {a b:Int}:(rangeL a b 1).length=(b-a).toNat:=by
 generalize hn:(b-a).toNat=n
 induction n generalizing a with
 |zero=>rw [rangeL_nil (by decide) (tnZ hn)];rfl
 |succ n ih=>rw [rangeL_cons (by decide) (tnQ hn),List.length_cons,ih (a:=a+1) (tnR hn)]
noncomputable def Ev (Δ:CallT)(hd:Bool)(e:ME)(ρ:Sto)(H:MH)(v:MV):Prop:=∀(Q:MV→MH→Prop) (X:String→MH→Prop),Q v H→wE Δ hd e ρ H Q X
noncomputable def Evs (Δ:CallT)(hd:Bool)(e:MEs)(ρ:Sto)(H:MH)(v:List MV):Prop:=∀(Q:List MV→MH→Prop) (X:String→MH→Prop),Q v H→wEs Δ hd e ρ H Q X
noncomputable def EvA (Δ:CallT)(hd:Bool)(e:MEs)(ρ:Sto)(H:MH)(b:Bool):Prop:=∀(Q:MV→MH→Prop) (X:String→MH→Prop),Q (.bool b) H→wAnd Δ hd e ρ H Q X
noncomputable def EvO (Δ:CallT)(hd:Bool)(e:MEs)(ρ:Sto)(H:MH)(b:Bool):Prop:=∀(Q:MV→MH→Prop) (X:String→MH→Prop),Q (.bool b) H→wOr Δ hd e ρ H Q X
noncomputable def EvC (Δ:CallT)(hd:Bool)(e:MCs)(a:MV)(ρ:Sto)(H:MH)(b:Bool):Prop:=∀(Q:MV→MH→Prop) (X:String→MH→Prop),Q (.bool b) H→wC Δ hd e a ρ H Q X
section
variable {Δ:CallT}{hd:Bool}{ρ:Sto}{H:MH}
theorem Ev.var {x:String}{v:MV}(h:ρ x=some v):Ev Δ hd (.var x) ρ H v:=fun Q X q=>⟨v,h,q⟩
theorem Ev.none:Ev Δ hd .none ρ H .none:=fun Q X q=>q
theorem Ev.int {i:Int}:Ev Δ hd (.int i) ρ H (.int i):=fun Q X q=>q
theorem Ev.bool {i:Bool}:Ev Δ hd (.bool i) ρ H (.bool i):=fun Q X q=>q
theorem Ev.str {i:String}:Ev Δ hd (.str i) ρ H (.str (Str.ofString i)):=fun Q X q=>q
theorem Ev.gconst {x:String}{v:MV}:Ev Δ hd (.gconst x v) ρ H v:=fun Q X q=>q
theorem Ev.add {l r:ME}{a b:Int}(hl:Ev Δ hd l ρ H (.int a))(hr:Ev Δ hd r ρ H (.int b)):Ev Δ hd (.bin .add l r) ρ H (.int (a+b)):=fun Q X q=>hl _ X (hr _ X (.add q))
theorem Ev.sub {l r:ME}{a b:Int}(hl:Ev Δ hd l ρ H (.int a))(hr:Ev Δ hd r ρ H (.int b)):Ev Δ hd (.bin .sub l r) ρ H (.int (a-b)):=fun Q X q=>hl _ X (hr _ X (.sub q))
theorem Ev.mul {l r:ME}{a b:Int}(hl:Ev Δ hd l ρ H (.int a))(hr:Ev Δ hd r ρ H (.int b))(h:mulOk a b):Ev Δ hd (.bin .mul l r) ρ H (.int (a*b)):=fun Q X q=>hl _ X (hr _ X (.mul h q))
theorem Ev.fdiv {l r:ME}{a b:Int}(hl:Ev Δ hd l ρ H (.int a))(hr:Ev Δ hd r ρ H (.int b))(h:b≠0)(h2:b.natAbs<1073741824):Ev Δ hd (.bin .fdiv l r) ρ H (.int (a.fdiv b)):=fun Q X q=>hl _ X (hr _ X (.fdiv h h2 q))
theorem Ev.mod {l r:ME}{a b:Int}(hl:Ev Δ hd l ρ H (.int a))(hr:Ev Δ hd r ρ H (.int b))(h:b≠0):Ev Δ hd (.bin .mod l r) ρ H (.int (a.fmod b)):=fun Q X q=>hl _ X (hr _ X (.mod h q))
theorem Ev.neg {e:ME}{a:Int}(he:Ev Δ hd e ρ H (.int a)):Ev Δ hd (.neg e) ρ H (.int (-a)):=fun Q X q=>he _ X ⟨a,rfl,q⟩
theorem Ev.not {e:ME}{b:Bool}(he:Ev Δ hd e ρ H (.bool b)):Ev Δ hd (.not e) ρ H (.bool (!b)):=fun Q X q=>he _ X q
theorem Ev.attr {e:ME}{f:String}{a:Addr}{fs:List (String×MV)}{x:MV}(he:Ev Δ hd e ρ H (.ref a))(ha:H a=some (.inst fs))(hf:fsGet fs f=some x):Ev Δ hd (.attr e f) ρ H x:=fun Q X q=>he _ X ⟨x,.mk ha hf,q⟩
theorem Ev.item {e i:ME}{a:Addr}{k:Int}{vs:List MV}{x:MV}(he:Ev Δ hd e ρ H (.ref a))(hi:Ev Δ hd i ρ H (.int k))(ha:H a=some (.lst vs))(hx:atIdx vs k=some x):Ev Δ hd (.sub e i) ρ H x:=fun Q X q=>he _ X (hi _ X ⟨x,.lst (.inl ha) hx,q⟩)
theorem Ev.itemR {e i:ME}{a:Addr}{k:Int}{vs:List MV}{x:MV}(he:Ev Δ hd e ρ H (.ref a))(hi:Ev Δ hd i ρ H (.int k))(ha:H a=some (.ro vs))(hx:atIdx vs k=some x):Ev Δ hd (.sub e i) ρ H x:=fun Q X q=>he _ X (hi _ X ⟨x,.lst (.inr ha) hx,q⟩)
theorem Ev.itemT {e i:ME}{k:Int}{vs:List MV}{x:MV}(he:Ev Δ hd e ρ H (.tup vs))(hi:Ev Δ hd i ρ H (.int k))(hx:atIdx vs k=some x):Ev Δ hd (.sub e i) ρ H x:=fun Q X q=>he _ X (hi _ X ⟨x,.tup hx,q⟩)
theorem Ev.itemD {e i:ME}{a:Addr}{k:Int}{es:List (Int×MV)}{x:MV}(he:Ev Δ hd e ρ H (.ref a))(hi:Ev Δ hd i ρ H (.int k))(ha:H a=some (.dct es))(hx:dGet es k=some x):Ev Δ hd (.sub e i) ρ H x:=fun Q X q=>he _ X (hi _ X ⟨x,.dct ha hx,q⟩)
theorem Ev.tup {es:MEs}{vs:List MV}(h:Evs Δ hd es ρ H vs):Ev Δ hd (.tup es) ρ H (.tup vs):=fun Q X q=>h _ X q
theorem Ev.isi {e:ME}{t:String}{v:MV}{b:Bool}(he:Ev Δ hd e ρ H v)(h:IsiR H v t b):Ev Δ hd (.isinst e t) ρ H (.bool b):=fun Q X q=>he _ X ⟨b,h,q⟩
theorem Ev.lenL {e:ME}{a:Addr}{vs:List MV}(he:Ev Δ hd e ρ H (.ref a))(ha:H a=some (.lst vs)):Ev Δ hd (.bi "len" (.cons e .nil)) ρ H (.int vs.length):=fun Q X q=>he _ X (.lenL (.inl ha) q)
theorem Ev.lenR {e:ME}{a:Addr}{vs:List MV}(he:Ev Δ hd e ρ H (.ref a))(ha:H a=some (.ro vs)):Ev Δ hd (.bi "len" (.cons e .nil)) ρ H (.int vs.length):=fun Q X q=>he _ X (.lenL (.inr ha) q)
theorem Ev.lenT {e:ME}{vs:List MV}(he:Ev Δ hd e ρ H (.tup vs)):Ev Δ hd (.bi "len" (.cons e .nil)) ρ H (.int vs.length):=fun Q X q=>he _ X (.lenT q)
theorem Ev.min {e f:ME}{a b:Int}(he:Ev Δ false e ρ H (.int a))(hf:Ev Δ false f ρ H (.int b)):Ev Δ false (.bi "min" (.cons e (.cons f .nil))) ρ H (.int (minI a b)):=fun Q X q=>he _ X (hf _ X (.min2 rfl q))
theorem Ev.max {e f:ME}{a b:Int}(he:Ev Δ false e ρ H (.int a))(hf:Ev Δ false f ρ H (.int b)):Ev Δ false (.bi "max" (.cons e (.cons f .nil))) ρ H (.int (maxI a b)):=fun Q X q=>he _ X (hf _ X (.max2 rfl q))
theorem Ev.range1 {e:ME}{b:Int}(he:Ev Δ hd e ρ H (.int b))(h:smallI b):Ev Δ hd (.bi "range" (.cons e .nil)) ρ H (.rng 0 b 1):=fun Q X q=>he _ X (.range1 h q)
theorem Ev.range2 {e f:ME}{a b:Int}(he:Ev Δ hd e ρ H (.int a))(hf:Ev Δ hd f ρ H (.int b))(h0:smallI a)(h:smallI b):Ev Δ hd (.bi "range" (.cons e (.cons f .nil))) ρ H (.rng a b 1):=fun Q X q=>he _ X (hf _ X (.range2 h0 h q))
theorem Evs.nil:Evs Δ hd .nil ρ H []:=fun Q X q=>q
theorem Evs.cons {e:ME}{es:MEs}{v:MV}{vs:List MV}(he:Ev Δ hd e ρ H v)(hes:Evs Δ hd es ρ H vs):Evs Δ hd (.cons e es) ρ H (v::vs):=fun Q X q=>he _ X (hes _ X q)
theorem Ev.and {es:MEs}{b:Bool}(h:EvA Δ hd es ρ H b):Ev Δ hd (.and es) ρ H (.bool b):=fun Q X q=>h _ X q
theorem Ev.or {es:MEs}{b:Bool}(h:EvO Δ hd es ρ H b):Ev Δ hd (.or es) ρ H (.bool b):=fun Q X q=>h _ X q
theorem EvA.one {e:ME}{b:Bool}(h:Ev Δ hd e ρ H (.bool b)):EvA Δ hd (.cons e .nil) ρ H b:=fun Q X q=>h _ X q
theorem EvO.one {e:ME}{b:Bool}(h:Ev Δ hd e ρ H (.bool b)):EvO Δ hd (.cons e .nil) ρ H b:=fun Q X q=>h _ X q
theorem EvA.f {e f:ME}{es:MEs}(h:Ev Δ hd e ρ H (.bool false)):EvA Δ hd (.cons e (.cons f es)) ρ H false:=fun Q X q=>h _ X q
theorem EvA.t {e f:ME}{es:MEs}{b:Bool}(h:Ev Δ hd e ρ H (.bool true))(hs:EvA Δ hd (.cons f es) ρ H b):EvA Δ hd (.cons e (.cons f es)) ρ H b:=fun Q X q=>h _ X (hs _ X q)
theorem EvO.t {e f:ME}{es:MEs}(h:Ev Δ hd e ρ H (.bool true)):EvO Δ hd (.cons e (.cons f es)) ρ H true:=fun Q X q=>h _ X q
theorem EvO.f {e f:ME}{es:MEs}{b:Bool}(h:Ev Δ hd e ρ H (.bool false))(hs:EvO Δ hd (.cons f es) ρ H b):EvO Δ hd (.cons e (.cons f es)) ρ H b:=fun Q X q=>h _ X (hs _ X q)
theorem EvA.any {e f:ME}{es:MEs}{a b:Bool}(h:Ev Δ hd e ρ H (.bool a))(hs:EvA Δ hd (.cons f es) ρ H b):EvA Δ hd (.cons e (.cons f es)) ρ H (a&&b):=by cases a with|true=>exact .t h hs|false=>exact .f h
theorem EvO.any {e f:ME}{es:MEs}{a b:Bool}(h:Ev Δ hd e ρ H (.bool a))(hs:EvO Δ hd (.cons f es) ρ H b):EvO Δ hd (.cons e (.cons f es)) ρ H (a||b):=by cases a with|false=>exact .f h hs|true=>exact .t h
theorem Ev.chain {l:ME}{c:MCs}{a:MV}{b:Bool}(hl:Ev Δ hd l ρ H a)(hc:EvC Δ hd c a ρ H b):Ev Δ hd (.cmp l c) ρ H (.bool b):=fun Q X q=>hl _ X (hc _ X q)
theorem EvC.one {e:ME}{op:COp}{a b:MV}{c:Bool}(he:Ev Δ hd e ρ H b)(h:CmpR H op a b c):EvC Δ hd (.cons op e .nil) a ρ H c:=fun Q X q=>he _ X ⟨c,h,q⟩
theorem EvC.t {e e':ME}{op op':COp}{a b:MV}{c:MCs}{r:Bool}(he:Ev Δ hd e ρ H b)(h:CmpR H op a b true)(hc:EvC Δ hd (.cons op' e' c) b ρ H r):EvC Δ hd (.cons op e (.cons op' e' c)) a ρ H r:=fun Q X q=>he _ X ⟨true,h,hc _ X q⟩
theorem EvC.f {e e':ME}{op op':COp}{a b:MV}{c:MCs}(he:Ev Δ hd e ρ H b)(h:CmpR H op a b false):EvC Δ hd (.cons op e (.cons op' e' c)) a ρ H false:=fun Q X q=>he _ X ⟨false,h,q⟩
theorem EvC.any {e e':ME}{op op':COp}{a b:MV}{c:MCs}{r r':Bool}(he:Ev Δ hd e ρ H b)(h:CmpR H op a b r')(hc:EvC Δ hd (.cons op' e' c) b ρ H r):EvC Δ hd (.cons op e (.cons op' e' c)) a ρ H (r'&&r):=by cases r' with|true=>exact .t he h hc|false=>exact .f he h
theorem Ev.cmp {l r:ME}{op:COp}{a b:MV}{c:Bool}(hl:Ev Δ hd l ρ H a)(hr:Ev Δ hd r ρ H b)(h:CmpR H op a b c):Ev Δ hd (.cmp l (.cons op r .nil)) ρ H (.bool c):=.chain hl (.one hr h)
variable {Q:MV→MH→Prop}{QL:List MV→MH→Prop}{Y:String→MH→Prop}
theorem w_ev {e:ME}{v:MV}(he:Ev Δ hd e ρ H v)(h:Q v H):wE Δ hd e ρ H Q Y:=he _ _ h
theorem w_call {f:String}{es:MEs}{vs:List MV}(he:Evs Δ hd es ρ H vs)(h:Δ hd f vs H Q Y):wE Δ hd (.call f es) ρ H Q Y:=he _ _ h
theorem w_meth {e:ME}{m:String}{es:MEs}{a:Addr}{fs:List (String×MV)}{vs:List MV}(he:Ev Δ hd e ρ H (.ref a))(ha:H a=some (.inst fs))(hm:fsGet fs m=none)(hes:Evs Δ hd es ρ H vs)(h:Δ hd m (.ref a::vs) H Q Y):wE Δ hd (.meth e m es) ρ H Q Y:=
 he _ _ ⟨a,fs,rfl,ha,hm,hes _ _ h⟩
theorem w_list {es:MEs}{vs:List MV}(he:Evs Δ hd es ρ H vs)(h:New H Q vs):wE Δ hd (.list es) ρ H Q Y:=he _ _ h
theorem w_append {e x:ME}{a:Addr}{l:List MV}{v:MV}(he:Ev Δ hd e ρ H (.ref a))(ha:H a=some (.lst l))(hx:Ev Δ hd x ρ H v)(hl:l.length<bigList)(h:Q .none (H.set a (.lst (l++ [v])))):wE Δ hd (.bm e "append" (.cons x .nil)) ρ H Q Y:=
 he _ _ ⟨1,.lst ha rfl,hx _ _ ⟨.lst ha rfl,.append ha hl h⟩⟩
theorem w_bi1 {b:String}{e:ME}(h:wE Δ hd e ρ H (fun v H₁=>BiR hd H₁ Q b [v]) Y):wE Δ hd (.bi b (.cons e .nil)) ρ H Q Y:=h
theorem w_sub {e i:ME}(h:wE Δ hd e ρ H (fun v H₁=>wE Δ hd i ρ H₁ (fun k H₂=>∃ x,SubR H₂ v k x∧Q x H₂) Y) Y):wE Δ hd (.sub e i) ρ H Q Y:=h
theorem w_tup {es:MEs}(h:wEs Δ hd es ρ H (fun vs H₁=>Q (.tup vs) H₁) Y):wE Δ hd (.tup es) ρ H Q Y:=h
theorem w_cons {e:ME}{es:MEs}(h:wE Δ hd e ρ H (fun v H₁=>wEs Δ hd es ρ H₁ (fun vs H₂=>QL (v::vs) H₂) Y) Y):wEs Δ hd (.cons e es) ρ H QL Y:=h
theorem w_evs {es:MEs}{vs:List MV}(he:Evs Δ hd es ρ H vs)(h:QL vs H):wEs Δ hd es ρ H QL Y:=he _ _ h
theorem w_bin {op:BOp}{l r:ME}(h:wE Δ hd l ρ H (fun a H₁=>wE Δ hd r ρ H₁ (fun b H₂=>BinR H₂ Q op a b) Y) Y):wE Δ hd (.bin op l r) ρ H Q Y:=h
theorem w_not {e:ME}(h:wE Δ hd e ρ H (asTruth fun b H₁=>Q (.bool (!b)) H₁) Y):wE Δ hd (.not e) ρ H Q Y:=h
theorem w_callw {f:String}{es:MEs}(h:wEs Δ hd es ρ H (fun vs H₁=>Δ hd f vs H₁ Q Y) Y):wE Δ hd (.call f es) ρ H Q Y:=h
theorem w_slice {e lo hi:ME}{a:Addr}{l h':MV}{ol oh:Option Int}{vs:List MV}(he:Ev Δ hd e ρ H (.ref a))(ha:LstAt H a vs)(h1:Ev Δ hd lo ρ H l)(h2:Ev Δ hd hi ρ H h')(o1:OptI l ol)(o2:OptI h' oh)(h:New H Q (cut vs ol oh)):wE Δ hd (.slice e lo hi) ρ H Q Y:=
 he _ _ (h1 _ _ (h2 _ _ (.lst ha o1 o2 h)))
theorem Ev.cat {l r:ME}{x y:Str}(hl:Ev Δ hd l ρ H (.str x))(hr:Ev Δ hd r ρ H (.str y))(h:x.length+y.length≤bigList):Ev Δ hd (.bin .add l r) ρ H (.str (x++y)):=fun Q X q=>hl _ X (hr _ X (.cat h q))
theorem Ev.sign {e i:ME}{x:Str}{k:Int}(he:Ev Δ hd e ρ H (.str x))(hi:Ev Δ hd i ρ H (.int k))(hs:smallI k)(hx:(Txt.charAt x k).isSome=true):Ev Δ hd (.sub e i) ρ H (.str (Txt.item x k)):=fun Q X q=>he _ X (hi _ X ⟨_,.str hs hx,q⟩)
theorem Ev.lenS {e:ME}{x:Str}(he:Ev Δ hd e ρ H (.str x))(hx:x.length≤bigList):Ev Δ hd (.bi "len" (.cons e .nil)) ρ H (.int x.length):=fun Q X q=>he _ X (.lenS hx q)
theorem Ev.strI {e:ME}{i:Int}(he:Ev Δ hd e ρ H (.int i))(h:i.natAbs<2^64):Ev Δ hd (.bi "str" (.cons e .nil)) ρ H (.str (Str.ofString (toString i))):=fun Q X q=>he _ X (.strI h q)
theorem Ev.intS {e:ME}{x:Str}{n:Int}(he:Ev Δ hd e ρ H (.str x))(hx:x.length≤640)(hn:intText? x=some n):Ev Δ hd (.bi "int" (.cons e .nil)) ρ H (.int n):=fun Q X q=>he _ X (.intS hx hn q)
theorem Ev.range3 {e f g:ME}{a b c:Int}(he:Ev Δ hd e ρ H (.int a))(hf:Ev Δ hd f ρ H (.int b))(hg:Ev Δ hd g ρ H (.int c))(h0:smallI a)(h1:smallI b)(h2:smallI c)(hc:0<c):Ev Δ hd (.bi "range" (.cons e (.cons f (.cons g .nil)))) ρ H (.rng a b c):=fun Q X q=>he _ X (hf _ X (hg _ X (.range3 h0 h1 h2 hc q)))
theorem w_split {e s:ME}{x y:Str}(he:Ev Δ hd e ρ H (.str x))(hs:Ev Δ hd s ρ H (.str y))(hy:(y.length==0)=false)(hx:x.length<bigList)(h:New H Q ((Txt.split x y).map .str)):wE Δ hd (.bm e "split" (.cons s .nil)) ρ H Q Y:=
 he _ _ ⟨2,.str rfl,hs _ _ ⟨.str rfl,.split hy hx h⟩⟩
theorem Ev.join {e s:ME}{x:Str}{a:Addr}{ts:List Str}(he:Ev Δ hd e ρ H (.str x))(hs:Ev Δ hd s ρ H (.ref a))(h:LstAt H a (ts.map .str))(hok:JoinOk x ts=true):Ev Δ hd (.bm e "join" (.cons s .nil)) ρ H (.str (Txt.join x ts)):=fun Q X q=>
 he _ X ⟨2,.str rfl,hs _ X ⟨.str rfl,.join h hok q⟩⟩
theorem w_bi2 {b:String}{e f:ME}(h:wE Δ hd e ρ H (fun v H₁=>wE Δ hd f ρ H₁ (fun u H₂=>BiR hd H₂ Q b [v,u]) Y) Y):wE Δ hd (.bi b (.cons e (.cons f .nil))) ρ H Q Y:=h
variable {N:Sto→MH→Prop}{R:MV→MH→Prop}{X:String→Sto→MH→Prop}{ss:MSs}
theorem s_done (h:N ρ H):wSs Δ hd .nil ρ H N R X:=h
theorem s_let {x:String}{e:ME}(h:wE Δ hd e ρ H (fun v H₁=>wSs Δ hd ss (ρ.set x v) H₁ N R X) (fun c H₁=>X c ρ H₁)):wSs Δ hd (.cons (.assign x e) ss) ρ H N R X:=h
theorem s_assign {x:String}{e:ME}{v:MV}(he:Ev Δ hd e ρ H v)(h:wSs Δ hd ss (ρ.set x v) H N R X):wSs Δ hd (.cons (.assign x e) ss) ρ H N R X:=he _ _ h
theorem s_expr {e:ME}(h:wE Δ hd e ρ H (fun _ H₁=>wSs Δ hd ss ρ H₁ N R X) (fun c H₁=>X c ρ H₁)):wSs Δ hd (.cons (.expr e) ss) ρ H N R X:=h
theorem s_retw {e:ME}(h:wE Δ hd e ρ H R (fun c H₁=>X c ρ H₁)):wSs Δ hd (.cons (.ret e) ss) ρ H N R X:=h
theorem s_ret {e:ME}{v:MV}(he:Ev Δ hd e ρ H v)(h:R v H):wSs Δ hd (.cons (.ret e) ss) ρ H N R X:=he _ _ h
theorem s_ite {t:ME}{a b:MSs}{c:Bool}(ht:Ev Δ hd t ρ H (.bool c))(h1:c=true→wSs Δ hd a ρ H (fun ρ' H'=>wSs Δ hd ss ρ' H' N R X) R X)(h2:c=false→wSs Δ hd b ρ H (fun ρ' H'=>wSs Δ hd ss ρ' H' N R X) R X):wSs Δ hd (.cons (.ite t a b) ss) ρ H N R X:=
 ht _ _ (by cases c with|true=>exact h1 rfl|false=>exact h2 rfl)
theorem s_iteT {t:ME}{a b:MSs}(ht:Ev Δ hd t ρ H (.bool true))(h1:wSs Δ hd a ρ H (fun ρ' H'=>wSs Δ hd ss ρ' H' N R X) R X):wSs Δ hd (.cons (.ite t a b) ss) ρ H N R X:=ht _ _ h1
theorem s_skip {t:ME}{a:MSs}(ht:Ev Δ hd t ρ H (.bool false))(h1:wSs Δ hd ss ρ H N R X):wSs Δ hd (.cons (.ite t a .nil) ss) ρ H N R X:=ht _ _ h1
theorem s_itew {t:ME}{a b:MSs}(h:wE Δ hd t ρ H (asTruth fun c H₁=>if c=true then wSs Δ hd a ρ H₁ (fun ρ' H'=>wSs Δ hd ss ρ' H' N R X) R X else wSs Δ hd b ρ H₁ (fun ρ' H'=>wSs Δ hd ss ρ' H' N R X) R X) (fun c H₁=>X c ρ H₁)):wSs Δ hd (.cons (.ite t a b) ss) ρ H N R X:=h
theorem it_t {A B:MH→Prop}{b:Bool}(h:b=true)(z:A H):asTruth (fun c H₁=>if c=true then A H₁ else B H₁) (.bool b) H:=by subst h;exact z
theorem it_f {A B:MH→Prop}{b:Bool}(h:b=false)(z:B H):asTruth (fun c H₁=>if c=true then A H₁ else B H₁) (.bool b) H:=by subst h;exact z
theorem s_raise {c m:String}(h:X c ρ H):wSs Δ false (.cons (.raise c m) ss) ρ H N R X:=⟨rfl,h⟩
theorem s_setIdx {e i v:ME}{a:Addr}{l:List MV}{k:Int}{x:MV}(hv:Ev Δ hd v ρ H x)(he:Ev Δ hd e ρ H (.ref a))(hi:Ev Δ hd i ρ H (.int k))(ha:H a=some (.lst l))(h0:0≤k)(h1:k<l.length)(h:wSs Δ hd ss ρ (H.set a (.lst (l.set k.toNat x))) N R X):wSs Δ hd (.cons (.setIdx e i v) ss) ρ H N R X:=
 hv _ _ (he _ _ (hi _ _ (.lst ha h0 h1 h)))
theorem s_setIdxD {e i v:ME}{a:Addr}{l:List (Int×MV)}{k:Int}{x:MV}(hv:Ev Δ hd v ρ H x)(he:Ev Δ hd e ρ H (.ref a))(hi:Ev Δ hd i ρ H (.int k))(ha:H a=some (.dct l))(h1:l.length<bigList)(h:wSs Δ hd ss ρ (H.set a (.dct (dSet l k x))) N R X):wSs Δ hd (.cons (.setIdx e i v) ss) ρ H N R X:=
 hv _ _ (he _ _ (hi _ _ (.dct ha h1 h)))
theorem s_setIdxw {e i v:ME}(h:wE Δ hd v ρ H (fun x H₁=>wE Δ hd e ρ H₁ (fun o H₂=>wE Δ hd i ρ H₂ (fun k H₃=>SetIdxR H₃ (fun H'=>wSs Δ hd ss ρ H' N R X) o k x) (fun c H₁=>X c ρ H₁)) (fun c H₁=>X c ρ H₁)) (fun c H₁=>X c ρ H₁)):wSs Δ hd (.cons (.setIdx e i v) ss) ρ H N R X:=h
theorem s_setAttrw {e v:ME}{f:String}(h:wE Δ hd v ρ H (fun x H₁=>wE Δ hd e ρ H₁ (fun o H₂=>SetAttrR H₂ (fun H'=>wSs Δ hd ss ρ H' N R X) o f x) (fun c H₁=>X c ρ H₁)) (fun c H₁=>X c ρ H₁)):wSs Δ hd (.cons (.setAttr e f v) ss) ρ H N R X:=h
theorem s_setAttr {e v:ME}{f:String}{a:Addr}{fs:List (String×MV)}{x:MV}(hv:Ev Δ hd v ρ H x)(he:Ev Δ hd e ρ H (.ref a))(ha:H a=some (.inst fs))(hl:fs.length<100)(h:wSs Δ hd ss ρ (H.set a (.inst (fsSet fs f x))) N R X):wSs Δ hd (.cons (.setAttr e f v) ss) ρ H N R X:=
 hv _ _ (he _ _ (.mk ha hl h))
theorem s_try {b h:MSs}{x:String}(hb:wSs Δ false b ρ H (fun ρ' H'=>wSs Δ false ss ρ' H' N R X) R (fun c ρ' H'=>wSs Δ true h (ρ'.set x (.exc c)) H' (fun ρ'' H''=>wSs Δ false ss (ρ''.del x) H'' N R X) R (fun _ _ _=>False))):wSs Δ false (.cons (.try_ b x h) ss) ρ H N R X:=⟨rfl,hb⟩
end
section
variable {Δ:CallT}{hd:Bool}{N:Sto→MH→Prop}{R:MV→MH→Prop}{X:String→Sto→MH→Prop}{ss:MSs}
theorem while_step {test:Sto→MH→(Bool→MH→Prop)→Prop}{body:Sto→MH→(Sto→MH→Prop)→Prop}{Q:Sto→MH→Prop}(I:Nat→Sto→MH→Prop)
  (step:∀ n ρ H,I n ρ H→∃ b,(∀ k,k b H→test ρ H k)∧(b=true→∀ k,(∀ m ρ' H',m<n→I m ρ' H'→k ρ' H')→body ρ H k)∧(b=false→Q ρ H)):∀ n N ρ H,n<N→I n ρ H→whileW test body Q N ρ H:=by
 intro n
 induction n using Nat.strongRecOn with
 |ind n ih=>
  intro N ρ H hN i
  cases N with
  |zero=>exact absurd hN (Nat.not_lt_zero _)
  |succ N=>
   obtain ⟨b,ht,h1,h2⟩:=step n ρ H i
   refine ht _ ?_
   cases b with
   |false=>exact h2 rfl
   |true=>exact h1 rfl _ fun m ρ' H' hm i'=>ih m hm N ρ' H' (Nat.lt_of_lt_of_le hm (Nat.le_of_lt_succ hN)) i'
theorem s_while {t:ME}{b:MSs}(I:Nat→Sto→MH→Prop)
  (step:∀ n ρ H,I n ρ H→∃ c,Ev Δ hd t ρ H (.bool c)∧(c=true→∀ k,(∀ m ρ' H',m<n→I m ρ' H'→k ρ' H')→wSs Δ hd b ρ H k R X)∧(c=false→wSs Δ hd ss ρ H N R X)) {n:Nat} {ρ:Sto} {H:MH} (h:I n ρ H):
  wSs Δ hd (.cons (.whil t b) ss) ρ H N R X:=
 ⟨n+1,while_step I (fun n ρ H i=>(step n ρ H i).imp fun c z=>⟨fun k hk=>z.1 _ _ hk,z.2⟩) n _ _ _ (Nat.lt_succ_self n) h⟩
theorem for_inv {src:MV}{vs₀:List MV}{body:MV→Sto→MH→(Sto→MH→Prop)→Prop}{Q:Sto→MH→Prop}{vs:List MV}{ρ:Sto}{H:MH}(I:List MV→Sto→MH→Prop)
  (hel:∀ vs ρ H,I vs ρ H→Elems H src vs₀) (step:∀ v vs ρ H k,I (v::vs) ρ H→(∀ ρ' H',I vs ρ' H'→k ρ' H')→body v ρ H k) (fin:∀ ρ H,I [] ρ H→Q ρ H) (h:I vs ρ H):forW src vs₀ body Q vs ρ H:=by
 induction vs generalizing ρ H with
 |nil=>exact fin _ _ h
 |cons v vs ih=>exact step v vs ρ H _ h fun ρ' H' i=>⟨hel _ _ _ i,ih i⟩
theorem s_for {x:String}{it:ME}{b:MSs}{a:Addr}{vs:List MV}{ρ:Sto}{H:MH}(I:List MV→Sto→MH→Prop)(hit:Ev Δ false it ρ H (.ref a))(hel:∀ vs' ρ H,I vs' ρ H→H a=some (.lst vs))(h:I vs ρ H)
  (step:∀ v vs ρ H k,I (v::vs) ρ H→(∀ ρ' H',I vs ρ' H'→k ρ' H')→wSs Δ false b (ρ.set x v) H k R X) (fin:∀ ρ H,I [] ρ H→wSs Δ false ss ρ H N R X):wSs Δ false (.cons (.for_ x it b) ss) ρ H N R X:=
 ⟨rfl,hit _ _ ⟨vs,.lst (.inl (hel _ _ _ h)),for_inv I (fun vs ρ H i=> .lst (.inl (hel _ _ _ i))) step fin h⟩⟩
theorem s_forT {xs:List String}{it:ME}{b:MSs}{a:Addr}{vs:List MV}{ρ:Sto}{H:MH}(I:List MV→Sto→MH→Prop)(hit:Ev Δ false it ρ H (.ref a))(hel:∀ vs' ρ H,I vs' ρ H→H a=some (.lst vs))(h:I vs ρ H)
  (step:∀ v vs ρ H k,I (v::vs) ρ H→(∀ ρ' H',I vs ρ' H'→k ρ' H')→∃ us ρ',v=.tup us∧BindR xs us ρ ρ'∧wSs Δ false b ρ' H k R X) (fin:∀ ρ H,I [] ρ H→wSs Δ false ss ρ H N R X):wSs Δ false (.cons (.forT xs it b) ss) ρ H N R X:=
 ⟨rfl,hit _ _ ⟨vs,.lst (.inl (hel _ _ _ h)),for_inv I (fun vs ρ H i=> .lst (.inl (hel _ _ _ i))) step fin h⟩⟩
theorem range_go {a b:Int}{body:MV→Sto→MH→(Sto→MH→Prop)→Prop}{Q:Sto→MH→Prop}{vs₀:List MV}{src:MV}(hel:∀ H,Elems H src vs₀)(I:Int→Sto→MH→Prop)
  (step:∀ i ρ H k,a≤i→i<b→I i ρ H→(∀ ρ' H',I (i+1) ρ' H'→k ρ' H')→body (.int i) ρ H k) (fin:∀ i ρ H,b≤i→I i ρ H→Q ρ H):∀(n:Nat) (x:Int) (ρ:Sto) (H:MH),(b-x).toNat=n→a≤x→I x ρ H→forW src vs₀ body Q ((rangeL x b 1).map .int) ρ H:=by
 intro n
 induction n with
 |zero=>intro x ρ H hn hx i;rw [rangeL_nil (by decide) (tnZ hn)];exact fin _ _ _ (tnZ hn) i
 |succ n ih=>intro x ρ H hn hx i;rw [rangeL_cons (by decide) (tnQ hn)];exact step x ρ H _ hx (tnQ hn) i fun ρ' H' i'=>⟨hel _,ih _ _ _ (tnR hn) (Int.le_add_one hx) i'⟩
theorem s_range {x:String}{it:ME}{bd:MSs}{a b:Int}{ρ:Sto}{H:MH}(I:Int→Sto→MH→Prop)(hit:Ev Δ false it ρ H (.rng a b 1))(h:I a ρ H)
  (step:∀ i ρ H k,a≤i→i<b→I i ρ H→(∀ ρ' H',I (i+1) ρ' H'→k ρ' H')→wSs Δ false bd (ρ.set x (.int i)) H k R X) (fin:∀ i ρ H,b≤i→I i ρ H→wSs Δ false ss ρ H N R X):wSs Δ false (.cons (.for_ x it bd) ss) ρ H N R X:=
 ⟨rfl,hit _ _ ⟨_,.rng,range_go (fun _=> .rng) I step fin _ _ _ _ rfl (Int.le_refl _) h⟩⟩
theorem comp_pure {src:MV}{vs₀:List MV}{cond:MV→MH→(Bool→MH→Prop)→Prop}{elt:MV→MH→(MV→MH→Prop)→Prop}{Q:MV→MH→Prop}{H:MH}(p:MV→Bool)(f:MV→MV)(he:Elems H src vs₀)
  :∀(vs acc:List MV),(∀ v∈vs,∀ k,k (p v) H→cond v H k)→(∀ v∈vs,p v=true→∀ k,k (f v) H→elt v H k)→acc.length+vs.length≤bigList→New H Q (acc++(vs.filter p).map f)→compW src vs₀ cond elt Q vs acc H:=by
 intro vs
 induction vs with
 |nil=>intro acc _ _ _ q c hc;have:=q c hc;rwa [List.filter_nil,List.map_nil,List.append_nil] at this
 |cons v vs ih=>
  intro acc hc hf hl q
  rw [List.length_cons] at hl
  refine ⟨Nat.lt_of_lt_of_le (Nat.lt_add_of_pos_right (Nat.succ_pos _)) hl,hc v (.head _) _ ?_⟩
  cases hp:p v with
  |true=>
   rw [List.filter_cons_of_pos hp,List.map_cons] at q
   exact hf v (.head _) hp _ ⟨he,ih _ (fun w hw=>hc w (.tail _ hw)) (fun w hw=>hf w (.tail _ hw)) (by rw [List.length_append];simp only [List.length_cons,List.length_nil];lia) (by rw [List.append_assoc];exact q)⟩
  |false=>
   rw [List.filter_cons_of_neg (by rw [hp];exact Bool.noConfusion)] at q
   exact ⟨he,ih _ (fun w hw=>hc w (.tail _ hw)) (fun w hw=>hf w (.tail _ hw)) (by lia) q⟩
theorem comp_inv {src:MV}{vs₀:List MV}{cond:MV→MH→(Bool→MH→Prop)→Prop}{elt:MV→MH→(MV→MH→Prop)→Prop}{Q:MV→MH→Prop}(I:List MV→List MV→MH→Prop)
  (he:∀ vs acc H,I vs acc H→Elems H src vs₀) (hc:∀ v H k,k true H→cond v H k) (step:∀ v vs acc H k,I (v::vs) acc H→(∀ r H',I vs (acc++ [r]) H'→k r H')→elt v H k) (fin:∀ acc H c,I [] acc H→H c=none→Q (.ref c) (H.set c (.lst acc)))
  :∀(vs acc:List MV) (H:MH),acc.length+vs.length≤bigList→I vs acc H→compW src vs₀ cond elt Q vs acc H:=by
 intro vs
 induction vs with
 |nil=>intro acc H _ h c hc;exact fin _ _ _ h hc
 |cons v vs ih=>
  intro acc H hl h
  rw [List.length_cons] at hl
  exact ⟨Nat.lt_of_lt_of_le (Nat.lt_add_of_pos_right (Nat.succ_pos _)) hl,hc v _ _ (step v vs acc H _ h fun r H' i=>⟨he _ _ _ i,ih _ _ (by rw [List.length_append];simp only [List.length_cons,List.length_nil];lia) i⟩)⟩
theorem w_compR {elt it cond:ME}{x:String}{b:Int}{ρ:Sto}{H:MH}{Q:MV→MH→Prop}{Y:String→MH→Prop}(p:Int→Bool)(f:Int→MV)(hit:Ev Δ false it ρ H (.rng 0 b 1))(hb:b≤100000)(hc:∀ i,0≤i→i<b→Ev Δ false cond (ρ.set x (.int i)) H (.bool (p i)))
  (hf:∀ i,0≤i→i<b→p i=true→Ev Δ false elt (ρ.set x (.int i)) H (f i)) (q:New H Q (((rangeL 0 b 1).filter p).map f)):wE Δ false (.comp elt x it cond) ρ H Q Y:=by
 refine ⟨rfl,hit _ _ ⟨_,.rng,comp_pure (fun v=>match v with| .int i=>p i|_=>false) (fun v=>match v with| .int i=>f i|_=> .none) .rng _ _ (fun v hv k hk=>?_) (fun v hv hp k hk=>?_) ?_ ?_⟩⟩
 ·obtain ⟨i,hi,rfl⟩:=List.mem_map.mp hv
  have:=rangeL_mem (by decide) hi
  exact hc i this.1 this.2 _ _ hk
 ·obtain ⟨i,hi,rfl⟩:=List.mem_map.mp hv
  have:=rangeL_mem (by decide) hi
  exact hf i this.1 this.2 hp _ _ hk
 ·rw [List.length_nil,List.length_map,rangeL_len1,Nat.zero_add];unfold bigList;lia
 ·rw [List.nil_append,List.filter_map,List.map_map];exact q
theorem w_compL {elt it cond:ME}{x:String}{a:Addr}{vs:List MV}{ρ:Sto}{H:MH}{Q:MV→MH→Prop}{Y:String→MH→Prop}(p:MV→Bool)(f:MV→MV)(hit:Ev Δ false it ρ H (.ref a))(ha:H a=some (.lst vs))(hl:vs.length≤bigList)(hc:∀ v∈vs,Ev Δ false cond (ρ.set x v) H (.bool (p v)))
  (hf:∀ v∈vs,p v=true→Ev Δ false elt (ρ.set x v) H (f v)) (q:New H Q ((vs.filter p).map f)):wE Δ false (.comp elt x it cond) ρ H Q Y:=
 ⟨rfl,hit _ _ ⟨_,.lst (.inl ha),comp_pure p f (.lst (.inl ha)) _ _ (fun v hv k hk=>hc v hv _ _ hk) (fun v hv hp k hk=>hf v hv hp _ _ hk) (by rw [List.length_nil,Nat.zero_add];exact hl) q⟩⟩
theorem call_of {P:MProg}{n:Nat}{f:String}{d:MFn}{vs:List MV}{H:MH}{Q:MV→MH→Prop}{Y:String→MH→Prop}(h:P.fn f=some d)(hl:d.params.length=vs.length)
  (hw:wSs (callW P n) hd d.body (Sto.ofArgs d.params vs) H (fun _ H'=>Q .none H') Q (fun c _ H'=>Y c H')):callW P (n+1) hd f vs H Q Y:=⟨d,h,hl,hw⟩
theorem atIdx_nn {vs:List MV}{i:Int}{x:MV}(h:0≤i)(e:vs[i.toNat]? =some x):atIdx vs i=some x:=(if_pos h).trans e
theorem smallOf {i:Int}(h:0≤i)(h2:i≤1000000):smallI i:=⟨Int.le_trans (by decide) h,Int.le_trans h2 (by decide)⟩
end
end Mine
end
set_option hygiene false
local macro_rules | `(tactic| sizeOf_list_dec) => `(tactic| first | assumption | rfl | exact Mine.Sto.gets _ _ _ | (apply Mine.Sto.gn; rfl; sizeOf_list_dec))
local macro_rules | `(tactic| array_get_dec) => `(tactic| first
 |exact Mine.Ev.int|exact Mine.Ev.str|exact Mine.Ev.none|exact Mine.Ev.bool|exact Mine.Ev.gconst
 |(apply Mine.Ev.var;sizeOf_list_dec)
 |(apply Mine.Ev.add<;>array_get_dec)
 |(apply Mine.Ev.sub<;>array_get_dec)
 |(apply Mine.Ev.attr;array_get_dec;assumption;rfl)
 |(apply Mine.Ev.item;array_get_dec;array_get_dec;assumption;assumption)
 |(apply Mine.Ev.itemT;array_get_dec;array_get_dec;rfl)
 |(apply Mine.Ev.not;array_get_dec)
 |exact Mine.Evs.nil
 |(apply Mine.Evs.cons<;>array_get_dec)
 |(apply Mine.Ev.tup;array_get_dec)
 |(apply Mine.Ev.neg;array_get_dec)
 |(apply Mine.Ev.cmp;array_get_dec;array_get_dec;constructor))
set_option hygiene true
section
namespace Mine
open PySem
noncomputable def Ext (H H':MH):Prop:=∀ a o,H a=some o→H' a=some o
theorem Ext.refl (H:MH):Ext H H:=fun _ _ h=>h
theorem Ext.trans {H H' H'':MH}(x:Ext H H')(y:Ext H' H''):Ext H H'':=fun a o h=>y a o (x a o h)
theorem mne {H:MH}{a c:Addr}{o:MObj}(h:H c=none)(e:H a=some o):a≠c:=fun q=>by rw [q,h] at e;cases e
theorem Ext.newer {H H':MH}{c:Addr}(o:MObj)(x:Ext H H')(h:H c=none):Ext H (H'.set c o):=fun a y e=>(MH.set_neE _ _ (mne h e)).trans (x a y e)
theorem Ext.new {H:MH}{c:Addr}(o:MObj)(h:H c=none):Ext H (H.set c o):=Ext.newer o (.refl H) h
noncomputable def mvo:Option Int→MV
 |none=> .none
 |some i=> .int i
noncomputable def rowOf (g:Grid)(i:Int)(m:Nat):List MV:=(List.range m).map fun (j:Nat)=>mvo (g i (j:Int))
noncomputable def refsOf (ra:Int→Addr)(n:Nat):List MV:=(List.range n).map fun (i:Nat)=> .ref (ra (i:Int))
noncomputable def upd (g:Grid)(s l:Int)(v:Option Int):Grid:=fun s' l'=>if s'=s∧l'=l then v else g s' l'
theorem tab_at {f:Int→MV}{j:Int}{m:Int}(h0:0≤j)(h1:j<m):((List.range m.toNat).map fun (i:Nat)=>f (i:Int))[j.toNat]? =some (f j):=by
 have h2:j.toNat<m.toNat:=(Int.toNat_lt_toNat (Int.lt_of_le_of_lt h0 h1)).mpr h1
 rw [List.getElem?_map,List.getElem?_range h2]
 exact congrArg some (congrArg f (Int.toNat_of_nonneg h0))
theorem rowOf_at {g:Grid}{i j m:Int}(h0:0≤j)(h1:j<m):atIdx (rowOf g i m.toNat) j=some (mvo (g i j)):=atIdx_nn h0 (tab_at (f:=fun j=>mvo (g i j)) h0 h1)
theorem refsOf_at {ra:Int→Addr}{i n:Int}(h0:0≤i)(h1:i<n):atIdx (refsOf ra n.toNat) i=some (.ref (ra i)):=atIdx_nn h0 (tab_at (f:=fun i=> .ref (ra i)) h0 h1)
theorem rowOf_length {g:Grid}{i:Int}{m:Nat}:(rowOf g i m).length=m:=by rw [rowOf,List.length_map,List.length_range]
theorem row_lt {g:Grid}{i k m:Int}(h:k<m)(h0:0≤k):k<((rowOf g i m.toNat).length:Int):=by rw [rowOf_length,Int.toNat_of_nonneg (Int.le_of_lt (Int.lt_of_le_of_lt h0 h))];exact h
theorem rowOf_set {g:Grid}{i j:Int}{m:Nat}{v:Option Int}(h0:0≤j):(rowOf g i m).set j.toNat (mvo v)=rowOf (upd g i j v) i m:=by
 apply List.ext_getElem?
 intro k
 rw [List.getElem?_set,rowOf_length]
 unfold rowOf upd
 rw [List.getElem?_map,List.getElem?_map]
 by_cases q:j.toNat=k
 ·subst q
  rw [if_pos rfl]
  by_cases h:j.toNat<m
  ·rw [if_pos h,List.getElem?_range h,Option.map_some,Int.toNat_of_nonneg h0,if_pos ⟨rfl,rfl⟩]
  ·rw [if_neg h,List.getElem?_eq_none (by rw [List.length_range];exact Nat.le_of_not_lt h)];rfl
 ·rw [if_neg q]
  refine Option.map_congr fun x hx=>?_
  have:x=k:=by
   rw [List.getElem?_eq_some_iff] at hx;obtain ⟨_,hx⟩:=hx;rw [List.getElem_range] at hx;exact hx.symm
  subst this
  rw [if_neg fun z=>q (by rw [←z.2];rfl)]
theorem rowOf_upd_ne {g:Grid}{i i' j:Int}{m:Nat}{v:Option Int}(h:i'≠i):rowOf (upd g i j v) i' m=rowOf g i' m:=List.map_congr_left fun k _=>congrArg mvo (if_neg fun z=>h z.1)
noncomputable def trFs (seats stops coming:Int)(rd hl:Addr):List (String×MV):=[("seats",.int seats),("stops",.int stops),("coming",.int coming),("rides",.ref rd),("held",.ref hl)]
structure Gd (H:MH)(hl:Addr)(ra:Int→Addr)(seats stops:Int)(g:Grid):Prop where
 hseats:1≤seats∧seats≤60
 hstops:2≤stops∧stops≤60
 hl_:H hl=some (.lst (refsOf ra seats.toNat))
 row:∀ i,0≤i→i<seats→H (ra i)=some (.lst (rowOf g i (stops-1).toNat))
 inj:∀ i j,0≤i→i<seats→0≤j→j<seats→ra i=ra j→i=j
 nhl:∀ i,0≤i→i<seats→ra i≠hl
noncomputable def Cel (ra:Int→Addr)(seats:Int)(a:Addr):Prop:=∃ i,0≤i∧i<seats∧a=ra i
structure Tr (H:MH)(t rd hl:Addr)(ra:Int→Addr)(seats stops coming:Int)(rides:List (Int×MV))(g:Grid):Prop where
 gd:Gd H hl ra seats stops g
 at_:H t=some (.inst (trFs seats stops coming rd hl))
 rd_:H rd=some (.dct rides)
noncomputable def Own (t rd hl:Addr)(ra:Int→Addr)(seats:Int)(a:Addr):Prop:=a=t∨a=rd∨a=hl∨Cel ra seats a
noncomputable def Frm (own:Addr→Prop)(H H':MH):Prop:=∀ a o,¬ own a→H a=some o→H' a=some o
theorem Ext.frm {H H':MH}{own:Addr→Prop}(e:Ext H H'):Frm own H H':=fun a o _ h=>e a o h
theorem Frm.trans {H H':MH}{own:Addr→Prop}{H'':MH}(x:Frm own H H')(y:Frm own H' H''):Frm own H H'':=fun a o n h=>y a o n (x a o n h)
section
variable {n:Nat}{hd:Bool}{H H':MH}{Q:MV→MH→Prop}{X:String→MH→Prop}{t rd hl:Addr}{ra:Int→Addr}{seats stops coming:Int}{rides:List (Int×MV)}{g:Grid}
theorem Tr.hseats (T:Tr H t rd hl ra seats stops coming rides g):1≤seats∧seats≤60:=T.gd.hseats
theorem Tr.hstops (T:Tr H t rd hl ra seats stops coming rides g):2≤stops∧stops≤60:=T.gd.hstops
theorem Tr.hl_ (T:Tr H t rd hl ra seats stops coming rides g):H hl=some (.lst (refsOf ra seats.toNat)):=T.gd.hl_
theorem Tr.row (T:Tr H t rd hl ra seats stops coming rides g):∀ i,0≤i→i<seats→H (ra i)=some (.lst (rowOf g i (stops-1).toNat)):=T.gd.row
theorem Gd.keep (G:Gd H hl ra seats stops g)(k:∀ a o,(a=hl∨Cel ra seats a)→H a=some o→H' a=some o):Gd H' hl ra seats stops g:=
 ⟨G.hseats,G.hstops,k _ _ (.inl rfl) G.hl_,fun i h0 h1=>k _ _ (.inr ⟨i,h0,h1,rfl⟩) (G.row i h0 h1),G.inj,G.nhl⟩
theorem Tr.keep (T:Tr H t rd hl ra seats stops coming rides g)(k:∀ a o,Own t rd hl ra seats a→H a=some o→H' a=some o):Tr H' t rd hl ra seats stops coming rides g:=
 ⟨T.gd.keep fun a o z=>k a o (.inr (.inr z)),k _ _ (.inl rfl) T.at_,k _ _ (.inr (.inl rfl)) T.rd_⟩
theorem Tr.ext (T:Tr H t rd hl ra seats stops coming rides g)(e:Ext H H'):Tr H' t rd hl ra seats stops coming rides g:=T.keep fun a o _=>e a o
theorem Gd.setCell (G:Gd H hl ra seats stops g){s l:Int}{v:Option Int}(h0:0≤s)(h1:s<seats)(h2:0≤l):Gd (H.set (ra s) (.lst ((rowOf g s (stops-1).toNat).set l.toNat (mvo v)))) hl ra seats stops (upd g s l v):=by
 refine ⟨G.hseats,G.hstops,(MH.set_neE _ _ (G.nhl s h0 h1).symm).trans G.hl_,fun i hi0 hi1=>?_,G.inj,G.nhl⟩
 by_cases q:i=s
 ·subst q;rw [MH.set_selfE,rowOf_set h2]
 ·rw [MH.set_neE _ _ fun z=>q (G.inj i s hi0 hi1 h0 h1 z),rowOf_upd_ne q];exact G.row i hi0 hi1
theorem s_need_stretch (T:Tr H t rd hl ra seats stops coming rides g){b e:Int}(hok:0≤b→b<e→e<stops→Q .none H)(hbad:¬(0≤b∧b<e∧e<stops)→X "NoStretch" H):callW theP (n+1) false "need_stretch" [.ref t,.int b,.int e] H Q X:=by
 refine call_of (d:=f_Train_need_stretch) rfl rfl ?_
 have a1:=T.at_
 refine s_ite (Ev.not (Ev.chain Ev.int (EvC.any (by array_get_dec) .le (EvC.any (by array_get_dec) .lt (EvC.one (by array_get_dec) .lt))))) (fun c=>s_raise (hbad fun z=>?_)) (fun c=>s_done (s_done ?_))
 ·rw [decide_eq_true z.1,decide_eq_true z.2.1,decide_eq_true z.2.2] at c;exact Bool.noConfusion c
 ·obtain ⟨c1,c⟩:=Bool.and_eq_true_iff.mp ((Bool.not_eq_false' _)▸c)
  obtain ⟨c2,c3⟩:=Bool.and_eq_true_iff.mp c
  exact hok (of_decide_eq_true c1) (of_decide_eq_true c2) (of_decide_eq_true c3)
theorem isNil_mvo {o:Option Int}:isNil (mvo o)=o.isNone:=by cases o<;>rfl
theorem lead_go {g:Grid}{stops seat stop:Int}(h:stop<stops-1):lead g stops seat stop=if (g seat stop).isNone then lead g stops seat (stop+1) else stop:=by
 unfold lead
 rw [tn h]
 rfl
theorem lead_end {g:Grid}{stops seat stop:Int}(h:¬ stop<stops-1):lead g stops seat stop=stop:=by
 unfold lead
 rw [Int.toNat_eq_zero.mpr (Int.sub_nonpos_of_le (Int.not_lt.mp h))]
 rfl
theorem s_leads (T:Tr H t rd hl ra seats stops coming rides g){seat stop:Int}(h0:0≤seat)(h1:seat<seats)(h2:0≤stop)(h3:stop<stops)(h:Q (.int (lead g stops seat stop)) H):callW theP (n+1) hd "leads" [.ref t,.int seat,.int stop] H Q X:=by
 refine call_of (d:=f_Train_leads) rfl rfl ?_
 have a1:=T.at_
 have a2:=T.hl_
 have a3:=T.row _ h0 h1
 have a4:=refsOf_at (ra:=ra) h0 h1
 refine s_while (fun k ρ H'=>∃ stop,H'=H∧ρ "self"=some (.ref t)∧ρ "seat"=some (.int seat)∧ρ "stop"=some (.int stop)∧0≤stop∧k=(stops-1-stop).toNat∧Q (.int (lead g stops seat stop)) H) ?_ (n:=(stops-1-stop).toNat) ⟨stop,rfl,rfl,rfl,rfl,h2,rfl,h⟩
 rintro k ρ H' ⟨stop,rfl,g1,g2,g3,h2,rfl,h⟩
 by_cases q:stop<stops-1
 ·have a5:=rowOf_at (g:=g) (i:=seat) h2 q
  rw [lead_go q] at h
  refine ⟨(g seat stop).isNone,Ev.and (EvA.t (by rw [←decide_eq_true q];array_get_dec) (EvA.one (by rw [←isNil_mvo];array_get_dec))),fun c kk hkk=>?_,fun c=>?_⟩
  ·rw [if_pos c] at h
   exact s_assign (by array_get_dec) (s_done (hkk _ _ _ (tn_lt (Int.lt_succ stop) q) ⟨stop+1,rfl,Sto.gn rfl g1,Sto.gn rfl g2,Sto.gets _ _ _,Int.le_add_one h2,rfl,h⟩))
  ·rw [if_neg (by rw [c];exact Bool.noConfusion)] at h
   exact s_ret (by array_get_dec) h
 ·rw [lead_end q] at h
  exact ⟨false,Ev.and (EvA.f (by rw [←decide_eq_false q];array_get_dec)),fun c=>Bool.noConfusion c,fun c=>s_ret (by array_get_dec) h⟩
end
end Mine
end
section
namespace Mine
open PySem
section
variable {n:Nat}{hd:Bool}{H H':MH}{Q:MV→MH→Prop}{X:String→MH→Prop}{t rd hl:Addr}{ra:Int→Addr}{seats stops coming:Int}{rides:List (Int×MV)}{g:Grid}
noncomputable def full (g:Grid)(seats leg:Int):Bool:=(rangeL 0 seats 1).all fun i=>(g i leg).isSome
noncomputable def blockF (g:Grid)(seats:Int):Nat→Int→Option Int
 |0,_=>none
 |k+1,leg=>if full g seats leg then some leg else blockF g seats k (leg+1)
theorem not_nil_mvo {o:Option Int}:(!isNil (mvo o))=o.isSome:=by cases o<;>rfl
theorem filter_true {α:Type}(l:List α):l.filter (fun _=>true)=l:=List.filter_eq_self.mpr fun _ _=>rfl
theorem b_all {l:List Int}{f:Int→Bool}{c:Addr}(q:Q (.bool (l.all f)) (H.set c (.lst (l.map fun i=> .bool (f i))))):BiR false (H.set c (.lst (l.map fun i=>MV.bool (f i)))) Q "all" [.ref c]:=
 .allL (bs:=l.map f) rfl (.inl ((MH.set_selfE _ _ _).trans (by rw [List.map_map];rfl))) (by rw [List.all_map];exact q)
theorem block_end {b e:Int}(h:e≤b):blockF g seats (e-b).toNat b=none:=by rw [Int.toNat_eq_zero.mpr (Int.sub_nonpos_of_le h)];rfl
theorem block_go {b e:Int}(h:b<e):blockF g seats (e-b).toNat b=if full g seats b then some b else blockF g seats (e-(b+1)).toNat (b+1):=by rw [tn h];rfl
theorem s_blocking (T:Tr H t rd hl ra seats stops coming rides g){b e:Int}(h0:0≤b)(h1:b<e)(h2:e<stops)(h:∀ H',Ext H H'→Q (mvo (blockF g seats (e-b).toNat b)) H'):callW theP (n+1) false "blocking" [.ref t,.int b,.int e] H Q X:=by
 refine call_of (d:=f_Train_blocking) rfl rfl ?_
 have p2:=T.hstops
 have p1:=T.hseats
 have ub:e≤60:=Int.le_of_lt (Int.lt_of_lt_of_le h2 p2.2)
 refine s_range (fun i ρ H'=>ρ "self"=some (.ref t)∧Ext H H'∧blockF g seats (e-b).toNat b=blockF g seats (e-i).toNat i) (Ev.range2 (by array_get_dec) (by array_get_dec) (smallOf h0 (by lia)) (smallOf (by lia) (by lia))) ⟨rfl,.refl _,rfl⟩ ?_ ?_
 ·rintro i ρ H' k hi1 hi2 ⟨g1,E,hb⟩ hk
  have T:=T.ext E
  have a1:=T.at_
  have a2:=T.hl_
  have h2':0≤i:=Int.le_trans h0 hi1
  refine s_itew (w_bi1 (w_compR (fun _=>true) (fun j=> .bool (g j i).isSome) (Ev.range1 (by array_get_dec) (smallOf (by lia) (by lia))) (by lia) (fun _ _ _=>Ev.bool) (fun j hj0 hj1 _=>?_) fun x hx=>?_))
  ·have a3:=T.row _ hj0 hj1
   have a4:=refsOf_at (ra:=ra) hj0 hj1
   have a5:=rowOf_at (g:=g) (i:=j) (m:=stops-1) h2' (by lia)
   rw [←not_nil_mvo]
   array_get_dec
  ·rw [filter_true]
   refine b_all ?_
   rw [block_go hi2] at hb
   show if full g seats i=true then _ else _
   have E2:=E.trans (Ext.new (.lst ((rangeL 0 seats 1).map fun j=>MV.bool (g j i).isSome)) hx)
   by_cases c:full g seats i=true
   ·rw [if_pos c] at hb ⊢
    have:=h _ E2
    rw [hb] at this
    exact s_ret (by array_get_dec) this
   ·rw [if_neg c] at hb ⊢
    exact s_done (s_done (hk _ _ ⟨Sto.gn rfl g1,E2,hb⟩))
 ·rintro i ρ H' hi ⟨_,E,hb⟩
  have:=h _ E
  rw [hb,block_end hi] at this
  exact s_ret Ev.none this
noncomputable def partMV (p:Int×Int×Int):MV:=.tup [.int p.1,.int p.2.1,.int p.2.2]
theorem found_go {e at_:Int}{N:Nat}(h:at_<e):foundF g seats stops e (N+1) at_=((bestN g stops e at_ (seats-1).toNat).1,at_,(bestN g stops e at_ (seats-1).toNat).2)::foundF g seats stops e N (bestN g stops e at_ (seats-1).toNat).2:=if_pos h
theorem found_end {e:Int}{N:Nat}:foundF g seats stops e N e=[]:=by
 cases N with
 |zero=>rfl
 |succ N=>exact if_neg (Int.lt_irrefl e)
theorem best_go {e at_ i:Int}(h:1≤i):bestN g stops e at_ (i+1-1).toNat=if (bestN g stops e at_ (i-1).toNat).2<minI (lead g stops i at_) e then (i,minI (lead g stops i at_) e) else bestN g stops e at_ (i-1).toNat:=by
 have e1:(i+1-1).toNat=(i-1).toNat+1:=(Int.add_sub_cancel i 1).symm▸tnT h
 have e2:(((i-1).toNat:Nat):Int)+1=i:=(tnP h).symm▸Int.sub_add_cancel i 1
 have e3:∀ k:Nat,bestN g stops e at_ (k+1)=if (bestN g stops e at_ k).2<minI (lead g stops ((k:Int)+1) at_) e then ((k:Int)+1,minI (lead g stops ((k:Int)+1) at_) e) else bestN g stops e at_ k:=fun _=>rfl
 rw [e1,e3,e2]
inductive FoundI (n1 n2 n3 n4:String)(v1:MV)(c:Addr)(g:Grid)(seats stops b e:Int)(H:MH)(k:Nat)(ρ:Sto)(H':MH):Prop
 |mk (at_:Int)(acc:List Part)(N:Nat)(r1:ρ n1=some v1)(r2:ρ n2=some (.int e))(r3:ρ n3=some (.ref c))(r4:ρ n4=some (.int at_))(h1:b≤at_)(h2:at_≤e)(hk:k=(e-at_).toNat)(E:Ext H H')(hc:H' c=some (.lst (acc.map partMV)))(hl:(acc.length:Int)≤at_-b)(hN:(e-at_).toNat≤N)(ef:foundF g seats stops e (e-b).toNat b=acc++foundF g seats stops e N at_)
inductive BestI (t c:Addr)(g:Grid)(seats stops e at_:Int)(H':MH)(i:Int)(ρ:Sto)(H2:MH):Prop
 |mk (h:H2=H')(f1:ρ "self"=some (.ref t))(f2:ρ "end"=some (.int e))(f3:ρ "told"=some (.ref c))(f4:ρ "at"=some (.int at_))(h1:1≤i)(f5:ρ "best"=some (.int (bestN g stops e at_ (i-1).toNat).1))(f6:ρ "to"=some (.int (bestN g stops e at_ (i-1).toNat).2))(hi:i≤seats)
theorem s_found (T:Tr H t rd hl ra seats stops coming rides g){b e:Int}(h0:0≤b)(h1:b<e)(h2:e<stops)(hfree:∀ leg,b≤leg→leg<e→∃ seat,0≤seat∧seat<seats∧g seat leg=none)
  (h:∀ c H',H c=none→Ext H H'→H' c=some (.lst ((foundF g seats stops e (e-b).toNat b).map partMV))→Q (.ref c) H'):callW theP (n+2) false "found" [.ref t,.int b,.int e] H Q X:=by
 refine call_of (d:=f_Train_found) rfl rfl ?_
 have p2:=T.hstops
 have p1:=T.hseats
 refine s_let (w_list Evs.nil fun c hc=>s_assign (by array_get_dec) ?_)
 refine s_while (FoundI "self" "end" "told" "at" (.ref t) c g seats stops b e H)
  ?_ (n:=(e-b).toNat) ⟨b,[],_,rfl,rfl,rfl,rfl,Int.le_refl _,Int.le_of_lt h1,rfl,Ext.new _ hc,MH.set_selfE _ _ _,Int.le_of_eq (Int.sub_self b).symm,Nat.le_refl _,rfl⟩
 rintro k ρ H' ⟨at_,acc,N,g1,g2,g3,g4,i1,i2,rfl,E,hcc,i4,i5,i6⟩
 refine ⟨decide (at_<e),by array_get_dec,fun hlt k hk=>?_,fun hge=>?_⟩
 ·replace hlt:=of_decide_eq_true hlt
  have T:=T.ext E
  have a1:=T.at_
  obtain ⟨seat,hs0,hs1,hsg⟩:=hfree at_ i1 hlt
  have q0:0≤at_:=Int.le_trans h0 i1
  have q1:at_<stops:=Int.lt_trans hlt h2
  refine s_assign (by array_get_dec) (s_let (w_bi2 (w_meth (by array_get_dec) a1 rfl (by array_get_dec) (s_leads T (Int.le_refl _) (by lia) q0 q1 (w_ev (by array_get_dec) (.min2 rfl ?_))))))
  refine s_range (BestI t c g seats stops e at_ H')
   (Ev.range2 (by array_get_dec) (by array_get_dec) (smallOf (by decide) (by decide)) (smallOf (by lia) (by lia))) ⟨rfl,by sizeOf_list_dec,by sizeOf_list_dec,by sizeOf_list_dec,by sizeOf_list_dec,Int.le_refl _,by sizeOf_list_dec,by sizeOf_list_dec,p1.1⟩ ?_ ?_
  ·rintro i ρ H2 k hi1 hi2 ⟨rfl,f1,f2,f3,f4,_,f5,f6,_⟩ hk
   refine s_let (w_bi2 (w_meth (by array_get_dec) a1 rfl (by array_get_dec) (s_leads T (by lia) hi2 q0 q1 (w_ev (by array_get_dec) (.min2 rfl ?_)))))
   refine s_ite (by array_get_dec) (fun q=>?_) (fun q=>?_)
   ·have bg:=best_go (g:=g) (stops:=stops) (e:=e) (at_:=at_) hi1
    rw [if_pos (of_decide_eq_true q)] at bg
    refine s_assign (by array_get_dec) (s_assign (by array_get_dec) (s_done (s_done (hk _ _ ⟨rfl,by sizeOf_list_dec,by sizeOf_list_dec,by sizeOf_list_dec,by sizeOf_list_dec,Int.le_add_one hi1,?_,?_,hi2⟩))))
    ·rw [bg];sizeOf_list_dec
    ·rw [bg];sizeOf_list_dec
   ·have bg:=best_go (g:=g) (stops:=stops) (e:=e) (at_:=at_) hi1
    rw [if_neg (of_decide_eq_false q)] at bg
    refine s_done (s_done (hk _ _ ⟨rfl,by sizeOf_list_dec,by sizeOf_list_dec,by sizeOf_list_dec,by sizeOf_list_dec,Int.le_add_one hi1,?_,?_,hi2⟩))
    ·rw [bg];sizeOf_list_dec
    ·rw [bg];sizeOf_list_dec
  ·rintro i ρ H2 hi ⟨rfl,f1,f2,f3,f4,_,f5,f6,fi⟩
   obtain rfl:i=seats:=Int.le_antisymm fi hi
   have bf:=(bestN_facts (g:=g) hlt h2 (i-1).toNat).1
   have bg:=best_gt (k:=(i-1).toNat) hlt h2 hs0 (tnL p1.1 hs1) hsg
   cases N with
   |zero=>exact absurd (tnZ (Nat.le_zero.mp i5)) (Int.not_le.mpr hlt)
   |succ N=>
    rw [found_go hlt] at i6
    refine s_expr (w_append (by array_get_dec) hcc (by array_get_dec) (by rw [List.length_map];unfold bigList;lia) (s_assign (by array_get_dec) (s_done (hk _ _ _ (tn_lt bg hlt) ⟨_,acc++ [((bestN g stops e at_ (i-1).toNat).1,at_,(bestN g stops e at_ (i-1).toNat).2)],N,by sizeOf_list_dec,by sizeOf_list_dec,by sizeOf_list_dec,Sto.gets _ _ _,Int.le_trans i1 bf.1,bf.2.1,rfl,E.newer _ hc,?_,?_,tnV i5 bg hlt,?_⟩))))
    ·rw [MH.set_selfE,List.map_append];rfl
    ·rw [List.length_append];exact acc_le i4 bg
    ·rw [i6,List.append_assoc];rfl
 ·obtain rfl:at_=e:=Int.le_antisymm i2 (Int.not_lt.mp (of_decide_eq_false hge))
  refine s_ret (by array_get_dec) (h c _ hc E ?_)
  rw [hcc,i6,found_end,List.append_nil]
end
end Mine
end
section
namespace Mine
open PySem
section
variable {n:Nat}{hd:Bool}{H H':MH}{Q:MV→MH→Prop}{X:String→MH→Prop}{t rd hl:Addr}{ra:Int→Addr}{seats stops coming:Int}{rides:List (Int×MV)}{g:Grid}
theorem s_blocked (T:Tr H t rd hl ra seats stops coming rides g){b e:Int}(hok:0≤b→b<e→e<stops→∀ H',Ext H H'→Q (mvo (blockF g seats (e-b).toNat b)) H')(hbad:¬(0≤b∧b<e∧e<stops)→X "NoStretch" H):callW theP (n+2) false "blocked" [.ref t,.int b,.int e] H Q X:=by
 refine call_of (d:=f_Train_blocked) rfl rfl ?_
 have a1:=T.at_
 refine s_expr (w_meth (by array_get_dec) a1 rfl (by array_get_dec) (s_need_stretch T (fun h0 h1 h2=>?_) hbad))
 exact s_retw (w_meth (by array_get_dec) a1 rfl (by array_get_dec) (s_blocking T h0 h1 h2 (hok h0 h1 h2)))
end
end Mine
end
section
namespace Mine
open PySem
theorem markP_step {g:Grid}{s b i:Int}{k:Option Int}(h:b≤i):upd (markP g (s,b,i) k) s i k=markP g (s,b,i+1) k:=by
 funext s' l'
 unfold upd markP
 by_cases q:s'=s∧l'=i
 ·rw [if_pos q,if_pos ⟨q.1,q.2▸h,q.2▸Int.lt_succ i⟩]
 ·rw [if_neg q]
  by_cases q2:s'=s∧b≤l'∧l'<i
  ·rw [if_pos q2,if_pos ⟨q2.1,q2.2.1,Int.lt_trans q2.2.2 (Int.lt_succ i)⟩]
  ·rw [if_neg q2,if_neg]
   rintro ⟨h1,h2,h3⟩
   rcases Int.lt_or_eq_of_le (Int.le_of_lt_add_one h3) with z|z
   ·exact q2 ⟨h1,h2,z⟩
   ·exact q ⟨h1,z⟩
theorem markP_nil {g:Grid}{s b:Int}{k:Option Int}:markP g (s,b,b) k=g:=by
 funext s' l'
 exact if_neg fun z=>Int.lt_irrefl _ (Int.lt_of_le_of_lt z.2.1 z.2.2)
theorem marks_snoc {g:Grid}{ps:List Part}{p:Part}{k:Option Int}:marks g (ps++ [p]) k=markP (marks g ps k) p k:=List.foldl_append
noncomputable def PartsIn (seats stops:Int)(ps:List (Int×Int×Int)):Prop:=∀ p∈ps,0≤p.1∧p.1<seats∧0≤p.2.1∧p.2.1≤p.2.2∧p.2.2≤stops-1
section
variable {n:Nat}{hd:Bool}{H H':MH}{Q:MV→MH→Prop}{X:String→MH→Prop}{t rd hl:Addr}{ra:Int→Addr}{seats stops coming:Int}{rides:List (Int×MV)}{g:Grid}
theorem Cel.frm {s:Int}{o:MObj}(h0:0≤s)(h1:s<seats):Frm (Cel ra seats) H (H.set (ra s) o):=fun a x hn h=>(MH.set_neE _ _ fun q=>hn ⟨s,h0,h1,q⟩).trans h
theorem inst_ne {a b:Addr}{fs:List (String×MV)}{o:MObj}(h:H a=some (.inst fs))(e:H b=some o)(n:∀ fs,o≠ .inst fs):a≠b:=fun q=>n fs (Option.some.inj (e.symm.trans (q▸h)))
theorem dct_ne {a b:Addr}{es:List (Int×MV)}{l:List MV}(h:H a=some (.dct es))(e:H b=some (.lst l)):a≠b:=fun q=>MObj.noConfusion (Option.some.inj (e.symm.trans (q▸h)))
theorem Tr.notCel (T:Tr H t rd hl ra seats stops coming rides g):¬ Cel ra seats t∧¬ Cel ra seats rd:=
 ⟨fun ⟨i,h0,h1,q⟩=>inst_ne T.at_ (T.row i h0 h1) (fun _=>MObj.noConfusion) q,fun ⟨i,h0,h1,q⟩=>dct_ne T.rd_ (T.row i h0 h1) q⟩
theorem Tr.regrid (T:Tr H t rd hl ra seats stops coming rides g){g':Grid}(G:Gd H' hl ra seats stops g')(f:Frm (Cel ra seats) H H'):Tr H' t rd hl ra seats stops coming rides g':=⟨G,f _ _ T.notCel.1 T.at_,f _ _ T.notCel.2 T.rd_⟩
theorem s_cells_set {Δ:CallT}{ρ:Sto}{N:Sto→MH→Prop}{R:MV→MH→Prop}{Y:String→Sto→MH→Prop}{ss:MSs}{x:String}{it v e i:ME}{s b e':Int}{kv:Option Int}(K:Sto→Prop)(G:Gd H hl ra seats stops g)(h0:0≤s)(h1:s<seats)(h2:0≤b)(h3:b≤e')(h4:e'≤stops-1)(hK:K ρ)
  (hit:Ev Δ false it ρ H (.rng b e' 1)) (hKs:∀ ρ j,K ρ→K (ρ.set x (.int j))) (hv:∀ ρ H',K ρ→Ev Δ false v ρ H' (mvo kv)) (hi:∀ ρ H' j,K ρ→Ev Δ false i (ρ.set x (.int j)) H' (.int j))
  (he:∀ ρ H' g',K ρ→Gd H' hl ra seats stops g'→Frm (Cel ra seats) H H'→Ev Δ false e ρ H' (.ref (ra s)))
  (fin:∀ ρ H',K ρ→Gd H' hl ra seats stops (markP g (s,b,e') kv)→Frm (Cel ra seats) H H'→wSs Δ false ss ρ H' N R Y):wSs Δ false (.cons (.for_ x it (.cons (.setIdx e i v) .nil)) ss) ρ H N R Y:=by
 refine s_range (fun j ρ H'=>K ρ∧j≤e'∧Gd H' hl ra seats stops (markP g (s,b,j) kv)∧Frm (Cel ra seats) H H') hit ⟨hK,h3,markP_nil▸G,fun _ _ _ q=>q⟩ ?_ ?_
 ·rintro j ρ H' k hj1 hj2 ⟨k1,_,G',f⟩ hk
  have j0:0≤j:=Int.le_trans h2 hj1
  exact s_setIdx (hv _ _ (hKs _ _ k1)) (he _ _ _ (hKs _ _ k1) G' f) (hi _ _ _ k1) (G'.row s h0 h1) j0 (row_lt (Int.lt_of_lt_of_le hj2 h4) j0) (s_done (hk _ _ ⟨hKs _ _ k1,hj2,markP_step hj1▸G'.setCell h0 h1 j0,f.trans (Cel.frm h0 h1)⟩))
 ·rintro j ρ H' hj ⟨k1,hj2,G',f⟩
  obtain rfl:=Int.le_antisymm hj2 hj
  exact fin _ _ k1 G' f
theorem s_mark (T:Tr H t rd hl ra seats stops coming rides g){c:Addr}{ps:List (Int×Int×Int)}{kv:Option Int}(hc:H c=some (.lst (ps.map partMV)))(hn:¬ Own t rd hl ra seats c)(hp:PartsIn seats stops ps)
  (h:∀ H',Tr H' t rd hl ra seats stops coming rides (marks g ps kv)→Frm (Cel ra seats) H H'→Q .none H'):callW theP (n+1) false "mark" [.ref t,.ref c,mvo kv] H Q X:=by
 refine call_of (d:=f_Train_mark) rfl rfl ?_
 have nc:¬ Cel ra seats c:=fun z=>hn (.inr (.inr (.inr z)))
 refine s_forT (fun vs ρ H'=>ρ "self"=some (.ref t)∧ρ "ticket"=some (mvo kv)∧Frm (Cel ra seats) H H'∧∃ done rest,ps=done++rest∧vs=rest.map partMV∧Gd H' hl ra seats stops (marks g done kv)) (by array_get_dec) (fun vs ρ H' z=>z.2.2.1 _ _ nc hc) ⟨rfl,rfl,fun _ _ _ q=>q,[],ps,rfl,rfl,T.gd⟩ ?_ ?_
 ·rintro v vs ρ H' k ⟨g1,g2,f,done,rest,e1,e2,G⟩ hk
  cases rest with
  |nil=>cases e2
  |cons p rest=>
   obtain ⟨rfl,rfl⟩:=List.cons.inj e2
   obtain ⟨q0,q1,q2,q3,q4⟩:=hp p (e1▸List.mem_append_right _ (.head _))
   refine ⟨_,_,rfl,.cons (.cons (.cons .nil)),?_⟩
   have p2:=G.hstops
   refine s_cells_set (fun ρ=>ρ "self"=some (.ref t)∧ρ "ticket"=some (mvo kv)∧ρ "seat"=some (.int p.1)) G q0 q1 q2 q3 q4 ⟨by sizeOf_list_dec,by sizeOf_list_dec,by sizeOf_list_dec⟩ (Ev.range2 (by array_get_dec) (by array_get_dec) (smallOf q2 (by lia)) (smallOf (by lia) (by lia)))
    (fun ρ j z=>⟨Sto.gn rfl z.1,Sto.gn rfl z.2.1,Sto.gn rfl z.2.2⟩) (fun ρ H' z=>Ev.var z.2.1) (fun ρ H' j z=>Ev.var (Sto.gets _ _ _)) (fun ρ H'' g' z G' f'=>?_) (fun ρ H'' z G' f'=>s_done (hk _ _ ⟨z.1,z.2.1,f.trans f',done++ [p],rest,by rw [e1,List.append_assoc];rfl,rfl,marks_snoc▸G'⟩))
   exact Ev.item (Ev.attr (Ev.var z.1) ((f.trans f') _ _ T.notCel.1 T.at_) rfl) (Ev.var z.2.2) G'.hl_ (refsOf_at q0 q1)
 ·rintro ρ H' ⟨_,_,f,done,rest,e1,e2,G⟩
  cases rest with
  |nil=>rw [List.append_nil] at e1;subst e1;exact s_done (h _ (T.regrid G f) f)
  |cons p rest=>cases e2
theorem foundF_in {g:Grid}{seats stops e:Int}(hs:1≤seats)(h2:e<stops):∀(N:Nat) (at_:Int),0≤at_→PartsIn seats stops (foundF g seats stops e N at_):=by
 intro N
 induction N with
 |zero=>intro at_ _ p hp;cases hp
 |succ N ih=>
  intro at_ h0 p hp
  by_cases q:at_<e
  ·rw [found_go q] at hp
   have bf:=(bestN_facts (g:=g) q h2 (seats-1).toNat).1
   rcases List.mem_cons.mp hp with rfl|hp
   ·exact ⟨bf.2.2.1,tnU hs bf.2.2.2.1,h0,bf.1,Int.le_trans bf.2.1 (Int.le_sub_one_of_lt h2)⟩
   ·exact ih _ (Int.le_trans h0 bf.1) p hp
  ·rw [foundF,if_neg q] at hp;cases hp
theorem foundF_len {g:Grid}{seats stops e:Int}:∀(N:Nat) (at_:Int),(foundF g seats stops e N at_).length≤N:=by
 intro N
 induction N with
 |zero=>intro at_;exact Nat.le_refl _
 |succ N ih=>
  intro at_
  by_cases q:at_<e
  ·rw [found_go q];exact Nat.succ_le_succ (ih _)
  ·rw [foundF,if_neg q];exact Nat.zero_le _
theorem full_free {g:Grid}{seats leg:Int}(h:full g seats leg=false):∃ seat,0≤seat∧seat<seats∧g seat leg=none:=by
 obtain ⟨i,hi,hg⟩:=List.all_eq_false.mp h
 have:=rangeL_mem (by decide) hi
 exact ⟨i,this.1,this.2,Option.not_isSome_iff_eq_none.mp hg⟩
theorem block_none {g:Grid}{seats e:Int}:∀(k:Nat) (leg:Int),(e-leg).toNat=k→blockF g seats (e-leg).toNat leg=none→∀ l,leg≤l→l<e→full g seats l=false:=by
 intro k
 induction k with
 |zero=>intro leg hk _ l h1 h2;lia
 |succ k ih=>
  intro leg hk h l h1 h2
  have hlt:leg<e:=by lia
  rw [block_go hlt] at h
  by_cases c:full g seats leg=true
  ·rw [if_pos c] at h;cases h
  ·rw [if_neg c] at h
   rcases Int.lt_or_eq_of_le h1 with z|z
   ·exact ih (leg+1) (by rw [tn hlt] at hk;exact Nat.succ.inj hk) h l z h2
   ·rw [←z];exact Bool.not_eq_true _▸c
theorem none_of_ext (E:Ext H H'){c:Addr}(h:H' c=none):H c=none:=by
 cases q:H c with
 |none=>rfl
 |some o=>exact absurd (E _ _ q) (by rw [h];exact fun z=>by cases z)
noncomputable def offer (g:Grid)(seats stops b e:Int):List Part:=foundF g seats stops e (e-b).toNat b
theorem s_row (T:Tr H t rd hl ra seats stops coming rides g){b e:Int}(hok:0≤b→b<e→e<stops→blockF g seats (e-b).toNat b=none→∀ c H',H c=none→Ext H H'→H' c=some (.lst ((offer g seats stops b e).map partMV))→Q (.ref c) H')
  (hfull:∀ x H',0≤b→b<e→e<stops→blockF g seats (e-b).toNat b=some x→Ext H H'→X "Full" H') (hbad:¬(0≤b∧b<e∧e<stops)→X "NoStretch" H):callW theP (n+3) false "row" [.ref t,.int b,.int e] H Q X:=by
 refine call_of (d:=f_Train_row) rfl rfl ?_
 have a1:=T.at_
 refine s_expr (w_meth (by array_get_dec) a1 rfl (by array_get_dec) (s_need_stretch T (fun h0 h1 h2=>?_) hbad))
 refine s_itew (w_meth (by array_get_dec) a1 rfl (by array_get_dec) (s_blocking T h0 h1 h2 fun H1 E1=>?_))
 refine ⟨_,.isnotN,?_⟩
 cases hb:blockF g seats (e-b).toNat b with
 |some x=>exact it_t rfl (s_raise (hfull x _ h0 h1 h2 hb E1))
 |none=>
  have T1:=T.ext E1
  exact it_f rfl (s_done (s_retw (w_meth (by array_get_dec) T1.at_ rfl (by array_get_dec) (s_found T1 h0 h1 h2 (fun leg q1 q2=>full_free (block_none _ _ rfl hb leg q1 q2)) fun c H2 c1 E2 hc=>hok h0 h1 h2 hb c H2 (none_of_ext E1 c1) (E1.trans E2) hc))))
theorem Tr.setT (T:Tr H t rd hl ra seats stops coming rides g)(k:Int):Tr (H.set t (.inst (trFs seats stops k rd hl))) t rd hl ra seats stops k rides g:=by
 have ne:∀ a,(a=hl∨Cel ra seats a)→a≠t:=fun a z q=>z.elim (fun z=>inst_ne T.at_ T.hl_ (fun _=>MObj.noConfusion) (q▸z)) (fun z=>T.notCel.1 (q▸z))
 exact ⟨T.gd.keep fun a o z h=>(MH.set_neE _ _ (ne a z)).trans h,MH.set_selfE _ _ _,(MH.set_neE _ _ (inst_ne T.at_ T.rd_ fun _=>MObj.noConfusion).symm).trans T.rd_⟩
theorem Tr.setRides (T:Tr H t rd hl ra seats stops coming rides g)(rides':List (Int×MV)):Tr (H.set rd (.dct rides')) t rd hl ra seats stops coming rides' g:=by
 have ne:∀ a,(a=hl∨Cel ra seats a)→a≠rd:=fun a z q=>z.elim (fun z=>dct_ne T.rd_ T.hl_ (q▸z)) (fun z=>T.notCel.2 (q▸z))
 exact ⟨T.gd.keep fun a o z h=>(MH.set_neE _ _ (ne a z)).trans h,(MH.set_neE _ _ (inst_ne T.at_ T.rd_ fun _=>MObj.noConfusion)).trans T.at_,MH.set_selfE _ _ _⟩
theorem frm_set {own:Addr→Prop}{c:Addr}{o:MObj}(h:own c):Frm own H (H.set c o):=fun a x hn e=>(MH.set_neE _ _ fun (q:a=c)=>hn (q.symm▸h)).trans e
theorem Frm.cel (f:Frm (Cel ra seats) H H'):Frm (Own t rd hl ra seats) H H':=fun a o n=>f a o fun z=>n (.inr (.inr (.inr z)))
theorem Tr.not_own (T:Tr H t rd hl ra seats stops coming rides g){c:Addr}(h:H c=none):¬ Own t rd hl ra seats c:=by
 rintro (rfl|rfl|rfl|⟨i,h0,h1,rfl⟩)
 ·exact mne h T.at_ rfl
 ·exact mne h T.rd_ rfl
 ·exact mne h T.hl_ rfl
 ·exact mne h (T.row i h0 h1) rfl
theorem s_sell (T:Tr H t rd hl ra seats stops coming rides g) (hr:rides.length<100000) {b e:Int} (hok:0≤b→b<e→e<stops→blockF g seats (e-b).toNat b=none→∀ c H',H c=none→Frm (Own t rd hl ra seats) H H'→H' c=some (.lst ((offer g seats stops b e).map partMV))→
   Tr H' t rd hl ra seats stops (coming+1) (dSet rides coming (.ref c)) (marks g (offer g seats stops b e) (some coming))→Q (.int coming) H')
  (hfull:∀ x H',0≤b→b<e→e<stops→blockF g seats (e-b).toNat b=some x→Ext H H'→X "Full" H') (hbad:¬(0≤b∧b<e∧e<stops)→X "NoStretch" H):callW theP (n+4) false "sell" [.ref t,.int b,.int e] H Q X:=by
 refine call_of (d:=f_Train_sell) rfl rfl ?_
 have a1:=T.at_
 refine s_let (w_meth (by array_get_dec) a1 rfl (by array_get_dec) (s_row T (fun h0 h1 h2 hb c H1 hc E1 h1c=>?_) hfull hbad))
 have T1:=T.ext E1
 have hno:=T.not_own hc
 have a2:=T1.at_
 have T2:=T1.setT (coming+1)
 have a3:=T2.at_
 have T3:=T2.setRides (dSet rides coming (.ref c))
 have cf:Frm (Own t rd hl ra seats) H1 ((H1.set t (.inst (trFs seats stops (coming+1) rd hl))).set rd (.dct (dSet rides coming (.ref c)))):=(frm_set (.inl rfl)).trans (frm_set (.inr (.inl rfl)))
 refine s_assign (by array_get_dec) (s_setAttr (by array_get_dec) (by array_get_dec) a2 (by show 5<100;decide) (s_setIdxD (by array_get_dec) (Ev.attr (by array_get_dec) a3 rfl) (by array_get_dec) T2.rd_ (by unfold bigList;lia) ?_))
 refine s_expr (w_meth (by array_get_dec) T3.at_ rfl (vs:=[.ref c,mvo (some coming)]) (Evs.cons (by array_get_dec) (Evs.cons (Ev.var (by sizeOf_list_dec)) Evs.nil)) (s_mark T3 (cf _ _ hno h1c) hno (foundF_in T.hseats.1 h2 _ _ h0) fun H4 T4 f4=>?_))
 exact s_ret (by array_get_dec) (hok h0 h1 h2 hb c H4 hc ((E1.frm.trans cf).trans f4.cel) (f4.cel _ _ hno (cf _ _ hno h1c)) T4)
end
end Mine
end
section
namespace Mine
open PySem
inductive RidesAt (H:MH)(own:Addr→Prop):List (Int×MV)→Rides→Prop
 |nil:RidesAt H own [] []
 |cons {k:Int}{c:Addr}{ps:List Part}{rs:List (Int×MV)}{R:Rides}(h:H c=some (.lst (ps.map partMV)))(n:¬ own c)(t:RidesAt H own rs R):RidesAt H own ((k,.ref c)::rs) ((k,ps)::R)
section
variable {H H':MH}{own own':Addr→Prop}{rs:List (Int×MV)}{R:Rides}
theorem RidesAt.keep (x:RidesAt H own rs R)(f:∀ a o,¬ own a→H a=some o→H' a=some o):RidesAt H' own rs R:=by
 induction x with
 |nil=>exact .nil
 |cons h n _ ih=>exact .cons (f _ _ n h) n ih
theorem RidesAt.len (x:RidesAt H own rs R):rs.length=R.length:=by
 induction x with
 |nil=>rfl
 |cons _ _ _ ih=>exact congrArg Nat.succ ih
theorem RidesAt.get (x:RidesAt H own rs R)(a:R.Pairwise fun x y=>x.1<y.1){k:Int}{ps:List Part}(h:(k,ps)∈R):∃ c,dGet rs k=some (.ref c)∧H c=some (.lst (ps.map partMV))∧¬ own c:=by
 induction x with
 |nil=>cases h
 | @cons k' c ps' rs R hc n t ih=>
  obtain ⟨a1,a2⟩:=List.pairwise_cons.mp a
  rcases List.mem_cons.mp h with e|h'
  ·obtain ⟨rfl,rfl⟩:=Prod.mk.inj e;exact ⟨c,if_pos rfl,hc,n⟩
  ·have e:dGet ((k',.ref c)::rs) k=dGet rs k:=if_neg (Int.ne_of_gt (a1 _ h'))
   rw [e];exact ih a2 h'
theorem RidesAt.miss (x:RidesAt H own rs R){k:Int}(h:∀ ps,(k,ps)∉ R):dGet rs k=none:=by
 induction x with
 |nil=>rfl
 | @cons k' c ps' rs R hc n t ih=>exact (if_neg fun (z:k=k')=>h ps' (z▸ .head _)).trans (ih fun ps hp=>h ps (.tail _ hp))
theorem RidesAt.key (x:RidesAt H own rs R){e:Int×MV}(h:e∈rs):∃ ps,(e.1,ps)∈R:=by
 induction x with
 |nil=>cases h
 | @cons k' c ps' rs R hc n t ih=>
  rcases List.mem_cons.mp h with rfl|h
  ·exact ⟨ps',.head _⟩
  ·exact (ih h).imp fun ps z=> .tail _ z
theorem RidesAt.app (x:RidesAt H own rs R){k:Int}{c:Addr}{ps:List Part}(hc:H c=some (.lst (ps.map partMV)))(n:¬ own c):RidesAt H own (rs++ [(k,.ref c)]) (R++ [(k,ps)]):=by
 induction x with
 |nil=>exact .cons hc n .nil
 |cons h n' _ ih=>exact .cons h n' ih
theorem RidesAt.new (x:RidesAt H own rs R){k:Int}{ps:List Part}{c:Addr}(h:∀ x∈R,x.1<k)(hc:H c=some (.lst (ps.map partMV)))(n:¬ own c):RidesAt H own (dSet rs k (.ref c)) (R++ [(k,ps)]):=by
 unfold dSet
 rw [if_neg fun z=>?_]
 ·exact x.app hc n
 ·obtain ⟨e,he,hk⟩:=List.any_eq_true.mp z
  obtain ⟨ps',hp⟩:=x.key he
  exact Int.ne_of_lt (h _ hp) (of_decide_eq_true hk)
theorem RidesAt.set (x:RidesAt H own rs R){k:Int}{ps qs:List Part}{c:Addr}(h:(k,ps)∈R)(hc:H c=some (.lst (qs.map partMV)))(n:¬ own c):RidesAt H own (dSet rs k (.ref c)) (rSet R k qs):=by
 have hany:rs.any (fun e=>decide (e.1=k))=true:=by
  induction x with
  |nil=>cases h
  | @cons k' c ps' rs R hc n t ih=>
   rw [List.any_cons]
   rcases List.mem_cons.mp h with e|h
   ·obtain ⟨rfl,rfl⟩:=Prod.mk.inj e;rw [decide_eq_true (rfl:k=k)];rfl
   ·rw [ih h,Bool.or_true]
 unfold dSet
 rw [if_pos hany]
 clear hany h
 induction x with
 |nil=>exact .nil
 | @cons k' c' ps' rs R hc' n' t ih=>
  unfold rSet
  rw [List.map_cons,List.map_cons]
  by_cases q:k'=k
  ·rw [if_pos q,if_pos q];subst q;exact .cons hc n ih
  ·rw [if_neg q,if_neg q];exact .cons hc' n' ih
theorem RidesAt.del (x:RidesAt H own rs R)(k:Int):RidesAt H own (dDel rs k) (rDel R k):=by
 induction x with
 |nil=>exact .nil
 | @cons k' c' ps' rs R hc' n' t ih=>
  unfold dDel rDel
  rw [List.filter_cons,List.filter_cons]
  by_cases q:k'≠k
  ·rw [if_pos (decide_eq_true q),if_pos (decide_eq_true q)];exact .cons hc' n' ih
  ·rw [if_neg (by rw [decide_eq_false q];exact Bool.noConfusion),if_neg (by rw [decide_eq_false q];exact Bool.noConfusion)];exact ih
end
structure Trn (H:MH)(Z:Addr→Prop)(t rd hl:Addr)(ra:Int→Addr)(seats stops coming:Int)(R:Rides)(g:Grid):Prop where
 tr:∃ rides,Tr H t rd hl ra seats stops coming rides g∧RidesAt H (fun a=>Own t rd hl ra seats a∨Z a) rides R
 inv:Inv seats stops coming R g
 co:0≤coming
 len:R.length≤5000
 apart:∀ a,Z a→¬ Own t rd hl ra seats a
 there:∀ a,Z a→H a≠none
section
variable {n:Nat}{hd:Bool}{H H':MH}{Z:Addr→Prop}{Q:MV→MH→Prop}{X:String→MH→Prop}{t rd hl:Addr}{ra:Int→Addr}{seats stops coming:Int}{R:Rides}{g:Grid}
theorem some_kept {a:Addr}(h:H a≠none)(k:∀ o,H a=some o→H' a=some o):H' a≠none:=by
 cases q:H a with
 |none=>exact absurd q h
 |some o=>rw [k o q];exact fun z=>by cases z
theorem Trn.ext (T:Trn H Z t rd hl ra seats stops coming R g)(e:Ext H H'):Trn H' Z t rd hl ra seats stops coming R g:=
 ⟨T.tr.imp fun rides z=>⟨z.1.ext e,z.2.keep fun a o _=>e a o⟩,T.inv,T.co,T.len,T.apart,fun a z=>some_kept (T.there a z) (e a)⟩
theorem Trn.turn (T:Trn H Z t rd hl ra seats stops coming R g)(f:Frm Z H H')(th:∀ a,Z a→H' a≠none):Trn H' Z t rd hl ra seats stops coming R g:=
 ⟨T.tr.imp fun rides z=>⟨z.1.keep fun a o h=>f a o fun q=>T.apart a q h,z.2.keep fun a o h=>f a o fun q=>h (.inr q)⟩,T.inv,T.co,T.len,T.apart,th⟩
theorem Trn.hseats (T:Trn H Z t rd hl ra seats stops coming R g):1≤seats∧seats≤60:=T.tr.elim fun _ z=>z.1.hseats
theorem Trn.hstops (T:Trn H Z t rd hl ra seats stops coming R g):2≤stops∧stops≤60:=T.tr.elim fun _ z=>z.1.hstops
theorem Trn.at_ (T:Trn H Z t rd hl ra seats stops coming R g):H t=some (.inst (trFs seats stops coming rd hl)):=T.tr.elim fun _ z=>z.1.at_
theorem Trn.not_own (T:Trn H Z t rd hl ra seats stops coming R g){c:Addr}(h:H c=none):¬ Own t rd hl ra seats c:=T.tr.elim fun _ z=>z.1.not_own h
theorem Trn.not_z (T:Trn H Z t rd hl ra seats stops coming R g){c:Addr}(h:H c=none):¬(Own t rd hl ra seats c∨Z c):=fun q=>q.elim (T.not_own h) fun z=>T.there c z h
theorem fresh_frm {rides:List (Int×MV)}(T:Tr H' t rd hl ra seats stops coming rides g)(f:Frm (Own t rd hl ra seats) H H'){c:Addr}(h:H' c=none):H c=none:=by
 cases q:H c with
 |none=>rfl
 |some o=>exact absurd (f c o (T.not_own h) q) (by rw [h];exact fun z=>by cases z)
theorem Trn.kept (T:Trn H Z t rd hl ra seats stops coming R g)(f:Frm (Own t rd hl ra seats) H H'):∀ a,Z a→H' a≠none:=fun a z=>some_kept (T.there a z) fun o=>f a o (T.apart a z)
theorem rides_frm {rs:List (Int×MV)}(x:RidesAt H (fun a=>Own t rd hl ra seats a∨Z a) rs R)(f:Frm (Own t rd hl ra seats) H H'):RidesAt H' (fun a=>Own t rd hl ra seats a∨Z a) rs R:=x.keep fun a o n=>f a o fun q=>n (.inl q)
theorem RidesAt.mono' {own own':Addr→Prop}{rs:List (Int×MV)}(x:RidesAt H own rs R)(h:∀ a o,H a=some o→¬ own a→¬ own' a):RidesAt H own' rs R:=by
 induction x with
 |nil=>exact .nil
 |cons e n _ ih=>exact .cons e (h _ _ e n) ih
theorem rides_more {rs:List (Int×MV)}{c:Addr}(x:RidesAt H (fun a=>Own t rd hl ra seats a∨Z a) rs R)(hc:H c=none):RidesAt H (fun a=>Own t rd hl ra seats a∨(Z a∨a=c)) rs R:=
 x.mono' fun a o e n z=>z.elim (fun z=>n (.inl z)) fun z=>z.elim (fun z=>n (.inr z)) fun q=>mne hc e q
theorem Trn.adds (T:Trn H Z t rd hl ra seats stops coming R g){c:Addr}{o:MObj}(hc:H c=none):Trn (H.set c o) (fun a=>Z a∨a=c) t rd hl ra seats stops coming R g:=
 ⟨T.tr.imp fun rides z=>⟨z.1.ext (Ext.new o hc),(rides_more z.2 hc).keep fun a x _=>Ext.new o hc a x⟩,T.inv,T.co,T.len,fun a z=>z.elim (T.apart a) fun z=>z▸T.not_own hc,fun a z=>z.elim (fun z=>some_kept (T.there a z) (Ext.new o hc a)) fun z=>by rw [z,MH.set_selfE];exact fun z=>(by cases z)⟩
theorem Trn.less {Z':Addr→Prop}(T:Trn H Z' t rd hl ra seats stops coming R g)(h:∀ a,Z a→Z' a):Trn H Z t rd hl ra seats stops coming R g:=
 ⟨T.tr.imp fun _ z=>⟨z.1,z.2.mono' fun a _ _ n q=>n (q.imp id (h a))⟩,T.inv,T.co,T.len,fun a z=>T.apart a (h a z),fun a z=>T.there a (h a z)⟩
theorem s_need_ticket (T:Trn H Z t rd hl ra seats stops coming R g){k:Int}(hok:∀ ps,(k,ps)∈R→Q .none H)(hbad:(∀ ps,(k,ps)∉ R)→X "NoTicket" H):callW theP (n+1) false "need_ticket" [.ref t,.int k] H Q X:=by
 refine call_of (d:=f_Train_need_ticket) rfl rfl ?_
 obtain ⟨rides,T1,T2⟩:=T.tr
 have a1:=T1.at_
 by_cases h:∃ ps,(k,ps)∈R
 ·obtain ⟨ps,h⟩:=h
  obtain ⟨c,h1,_⟩:=T2.get T.inv.asc h
  refine s_skip (Ev.cmp (by array_get_dec) (Ev.attr (by array_get_dec) a1 rfl) ?_) (s_done (hok ps h))
  have:=CmpR.notind (x:=k) T1.rd_
  rw [h1] at this;exact this
 ·have h':∀ ps,(k,ps)∉ R:=fun ps q=>h ⟨ps,q⟩
  refine s_iteT (Ev.cmp (by array_get_dec) (Ev.attr (by array_get_dec) a1 rfl) ?_) (s_raise (hbad h'))
  have:=CmpR.notind (x:=k) T1.rd_
  rw [T2.miss h'] at this;exact this
theorem Inv.partsIn (I:Inv seats stops coming R g){k:Int}{ps:List Part}(h:(k,ps)∈R):PartsIn seats stops ps:=by
 obtain ⟨b,e,h0,he,G⟩:=I.goes _ h
 intro p hp
 obtain ⟨a1,a2,a3,a4,a5⟩:=G.mem p hp
 exact ⟨a1,a2,Int.le_trans h0 a3,Int.le_of_lt a4,Int.le_trans a5 he⟩
theorem goes_len {b e:Int}{ps:List Part}(G:Goes seats b ps e):(ps.length:Int)≤e-b:=by
 induction G with
 |one _ _ h=>simp;lia
 |cons _ _ h _ _ ih=>simp at ih ⊢;lia
theorem w_copy {Δ:CallT}{ρ:Sto}{e:ME}{a:Addr}{l:List MV}{Y:String→MH→Prop}(he:Ev Δ false e ρ H (.ref a))(ha:H a=some (.lst l))(h:New H Q l):wE Δ false (.bi "list" (.cons e .nil)) ρ H Q Y:=he _ _ (.listL rfl (.inl ha) h)
theorem w_dpop {Δ:CallT}{ρ:Sto}{e x:ME}{a:Addr}{es:List (Int×MV)}{k:Int}{v:MV}{Y:String→MH→Prop}(he:Ev Δ hd e ρ H (.ref a))(hx:Ev Δ hd x ρ H (.int k))(ha:H a=some (.dct es))(hl:es.length≤bigList)(hv:dGet es k=some v)(h:Q v (H.set a (.dct (dDel es k)))):wE Δ hd (.bm e "pop" (.cons x .nil)) ρ H Q Y:=
 he _ _ ⟨0,.dct ha rfl,hx _ _ ⟨.dct ha rfl,.dpop ha hl hv h⟩⟩
theorem s_back (T:Trn H Z t rd hl ra seats stops coming R g){k:Int}(hok:∀ ps c H',(k,ps)∈R→Trn H' (fun a=>Z a∨a=c) t rd hl ra seats stops coming (rDel R k) (marks g ps none)→Frm (Own t rd hl ra seats) H H'→H c=none→H' c=some (.lst (ps.map partMV))→Q (.ref c) H')
  (hbad:(∀ ps,(k,ps)∉ R)→X "NoTicket" H):callW theP (n+2) false "back" [.ref t,.int k] H Q X:=by
 refine call_of (d:=f_Train_back) rfl rfl ?_
 have a1:=T.at_
 refine s_expr (w_meth (by array_get_dec) a1 rfl (by array_get_dec) (s_need_ticket T (fun ps hk=>?_) hbad))
 obtain ⟨rides,T1,T2⟩:=T.tr
 obtain ⟨c,h1,h2,hn⟩:=T2.get T.inv.asc hk
 have hn':¬ Own t rd hl ra seats c:=fun q=>hn (.inl q)
 have T3:=T1.setRides (dDel rides k)
 have fr:Frm (Own t rd hl ra seats) H (H.set rd (.dct (dDel rides k))):=frm_set (.inr (.inl rfl))
 have hb:=T.len
 refine s_let (w_dpop (Ev.attr (by array_get_dec) a1 rfl) (by array_get_dec) T1.rd_ (by rw [T2.len];exact Nat.le_trans hb (by decide)) h1 ?_)
 refine s_expr (w_meth (by array_get_dec) T3.at_ rfl (vs:=[.ref c,mvo none]) (Evs.cons (by array_get_dec) (Evs.cons Ev.none Evs.nil)) (s_mark T3 (fr _ _ hn' h2) hn' (T.inv.partsIn hk) fun H4 T4 f4=>?_))
 have fr4:=fr.trans f4.cel
 refine s_retw (w_copy (by array_get_dec) (fr4 _ _ hn' h2) fun c5 hc5=>?_)
 have E5:=Ext.new (.lst (ps.map partMV)) hc5
 exact hok ps c5 _ hk (Trn.adds ⟨⟨_,T4,(rides_frm T2 fr4).del k⟩,inv_back T.inv hk,T.co,Nat.le_trans (List.length_filter_le _ _) T.len,T.apart,T.kept fr4⟩ hc5) (fr4.trans E5.frm) (fresh_frm T4 fr4 hc5) (MH.set_selfE _ _ _)
end
end Mine
end
section
namespace Mine
open PySem
section
variable {n:Nat}{hd:Bool}{H H':MH}{Z:Addr→Prop}{Q:MV→MH→Prop}{X:String→MH→Prop}{t rd hl:Addr}{ra:Int→Addr}{seats stops coming:Int}{R:Rides}{g:Grid}
theorem s_parts (T:Trn H Z t rd hl ra seats stops coming R g){k:Int}{ps:List Part}(hk:(k,ps)∈R)(h:∀ c' H',H c'=none→Ext H H'→H' c'=some (.lst (ps.map partMV))→Q (.ref c') H'):callW theP (n+2) false "parts" [.ref t,.int k] H Q X:=by
 refine call_of (d:=f_Train_parts) rfl rfl ?_
 have a1:=T.at_
 refine s_expr (w_meth (by array_get_dec) a1 rfl (by array_get_dec) (s_need_ticket T (fun _ _=>?_) fun q=>absurd hk (q ps)))
 obtain ⟨rides,T1,T2⟩:=T.tr
 obtain ⟨c,h1,h2,_⟩:=T2.get T.inv.asc hk
 exact s_retw (w_copy (Ev.itemD (Ev.attr (by array_get_dec) a1 rfl) (by array_get_dec) T1.rd_ h1) h2 fun c1 hc1=>h _ _ hc1 (Ext.new _ hc1) (MH.set_selfE _ _ _))
end
end Mine
end
section
namespace Mine
open PySem
section
variable {n:Nat}{hd:Bool}{H H':MH}{Z:Addr→Prop}{Q:MV→MH→Prop}{X:String→MH→Prop}{t rd hl:Addr}{ra:Int→Addr}{seats stops coming:Int}{R:Rides}{g:Grid}
theorem goes_first {b e:Int}{ps:List Part}(G:Goes seats b ps e):∃ p,ps[0]? =some p∧p.2.1=b:=by cases G<;>exact ⟨_,rfl,rfl⟩
theorem goes_last {b e:Int}{ps:List Part}(G:Goes seats b ps e):∃ p,ps[ps.length-1]? =some p∧p.2.2=e:=by
 induction G with
 |one _ _ _=>exact ⟨_,rfl,rfl⟩
 | @cons s b m e p ps _ _ _ _ t ih=>exact ih
theorem ev_first {Δ:CallT}{ρ:Sto}{x:ME}{c:Addr}{ps:List Part}{b e:Int}(G:Goes seats b ps e)(hx:Ev Δ hd x ρ H (.ref c))(hc:H c=some (.lst (ps.map partMV))):Ev Δ hd (.sub (.sub x (.int 0)) (.int 1)) ρ H (.int b):=by
 obtain ⟨p,h1,h2⟩:=goes_first G
 exact Ev.itemT (vs:=[.int p.1,.int p.2.1,.int p.2.2]) (Ev.item hx Ev.int hc (atIdx_nn (by decide) (by rw [List.getElem?_map];exact congrArg _ h1))) Ev.int (h2▸rfl)
theorem ev_last {Δ:CallT}{ρ:Sto}{x:ME}{c:Addr}{ps:List Part}{b e:Int}(G:Goes seats b ps e)(hx:Ev Δ hd x ρ H (.ref c))(hc:H c=some (.lst (ps.map partMV))):Ev Δ hd (.sub (.sub x (.neg (.int 1))) (.int 2)) ρ H (.int e):=by
 obtain ⟨p,h1,h2⟩:=goes_last G
 have hne:0<ps.length:=List.length_pos_iff.mpr G.ne
 have e2:atIdx (ps.map partMV) (-1)=some (partMV p):=by
  unfold atIdx
  rw [if_neg (by decide),List.length_map,if_pos (last_nn hne).1,(last_nn hne).2,List.getElem?_map,h1];rfl
 exact Ev.itemT (vs:=[.int p.1,.int p.2.1,.int p.2.2]) (Ev.item hx (Ev.neg Ev.int) hc e2) Ev.int (h2▸rfl)
theorem goes_leg {b e l:Int}{ps:List Part}(G:Goes seats b ps e)(q1:b≤l)(q2:l<e):∃ s,Covs ps s l:=by
 induction G with
 | @one s b e _ _ _=>exact ⟨s,_,.head _,rfl,q1,q2⟩
 | @cons s b m e p ps _ _ _ _ t ih=>
  by_cases hm:l<m
  ·exact ⟨s,_,.head _,rfl,q1,hm⟩
  ·obtain ⟨x,y,hy,hc⟩:=ih (Int.not_lt.mp hm) q2
   exact ⟨x,y,.tail _ hy,hc⟩
noncomputable def anew (g:Grid)(seats stops:Int)(ps:List Part)(b e:Int):List Part:=offer (marks g ps none) seats stops b e
theorem s_reseat (T:Trn H Z t rd hl ra seats stops coming R g) {k:Int} (hok:∀ ps b e c H',(k,ps)∈R→Goes seats b ps e→0≤b→e≤stops-1→Trn H' (fun a=>Z a∨a=c) t rd hl ra seats stops coming (rSet R k (anew g seats stops ps b e)) (marks (marks g ps none) (anew g seats stops ps b e) (some k))→
   Frm (Own t rd hl ra seats) H H'→H c=none→H' c=some (.lst ((anew g seats stops ps b e).map partMV))→Q (.ref c) H')
  (hbad:(∀ ps,(k,ps)∉ R)→X "NoTicket" H):callW theP (n+3) false "reseat" [.ref t,.int k] H Q X:=by
 refine call_of (d:=f_Train_reseat) rfl rfl ?_
 have a1:=T.at_
 refine s_expr (w_meth (by array_get_dec) a1 rfl (by array_get_dec) (s_need_ticket T (fun ps hk=>?_) hbad))
 obtain ⟨rides,T1,T2⟩:=T.tr
 obtain ⟨c,h1,h2,hn⟩:=T2.get T.inv.asc hk
 have hn':¬ Own t rd hl ra seats c:=fun q=>hn (.inl q)
 obtain ⟨b,e,h0,he,G⟩:=T.inv.goes _ hk
 have p1:=T1.hseats
 have p2:=T1.hstops
 have es:e<stops:=Int.lt_of_le_of_lt he (Int.sub_lt_self _ (by decide))
 refine s_assign (Ev.itemD (Ev.attr (by array_get_dec) a1 rfl) (by array_get_dec) T1.rd_ h1) ?_
 refine s_expr (w_meth (by array_get_dec) a1 rfl (vs:=[.ref c,mvo none]) (Evs.cons (by array_get_dec) (Evs.cons Ev.none Evs.nil)) (s_mark T1 h2 hn' (T.inv.partsIn hk) fun H2 T3 f2=>?_))
 have h2':=f2.cel _ _ hn' h2
 have hfree:∀ leg,b≤leg→leg<e→∃ seat,0≤seat∧seat<seats∧marks g ps none seat leg=none:=fun l q1 q2=>by
  obtain ⟨s,hc⟩:=goes_leg G q1 q2
  obtain ⟨c1,c2,_,_⟩:=G.cov hc
  exact ⟨s,c1,c2,marks_in hc⟩
 refine s_let (w_meth (by array_get_dec) T3.at_ rfl (Evs.cons (ev_first G (by array_get_dec) h2') (Evs.cons (ev_last G (by array_get_dec) h2') Evs.nil)) (s_found T3 h0 G.lt es hfree fun c2 H3 hc2 E3 h3=>?_))
 have T4:=T3.ext E3
 have hno2:=T3.not_own hc2
 have T5:=T4.setRides (dSet rides k (.ref c2))
 have fr3:Frm (Own t rd hl ra seats) H H3:=f2.cel.trans E3.frm
 have fr5:Frm (Own t rd hl ra seats) H3 (H3.set rd (.dct (dSet rides k (.ref c2)))):=frm_set (.inr (.inl rfl))
 have hb:=T.len
 refine s_setIdxD (by array_get_dec) (Ev.attr (by array_get_dec) T4.at_ rfl) (by array_get_dec) T4.rd_ (by rw [T2.len];exact Nat.lt_of_le_of_lt hb (by decide)) ?_
 refine s_expr (w_meth (by array_get_dec) T5.at_ rfl (vs:=[.ref c2,mvo (some k)]) (Evs.cons (by array_get_dec) (Evs.cons (Ev.var (by sizeOf_list_dec)) Evs.nil)) (s_mark T5 (fr5 _ _ hno2 h3) hno2 (foundF_in p1.1 es _ _ h0) fun H6 T6 f6=>?_))
 have h6:=f6.cel _ _ hno2 (fr5 _ _ hno2 h3)
 refine s_retw (w_copy (by array_get_dec) h6 fun c7 hc7=>?_)
 have fr:Frm (Own t rd hl ra seats) H H6:=(fr3.trans fr5).trans f6.cel
 have E7:=Ext.new (.lst ((anew g seats stops ps b e).map partMV)) hc7
 have nz:¬(Own t rd hl ra seats c2∨Z c2):=fun q=>q.elim hno2 fun z=>T.kept f2.cel c2 z hc2
 exact hok ps b e c7 _ hk G h0 he (Trn.adds ⟨⟨_,T6,(rides_frm T2 fr).set hk h6 nz⟩,(inv_reseat T.inv p1.1 hk G h0 he rfl).2,T.co,by unfold rSet;rw [List.length_map];exact hb,T.apart,T.kept fr⟩ hc7) (fr.trans E7.frm) (fresh_frm T6 fr hc7) (MH.set_selfE _ _ _)
theorem gone_eq {ps:List Part}{stop:Int}(f:MV→MV)(p:MV→Bool)(hf:∀ x,f (partMV x)=partMV (x.1,maxI x.2.1 stop,x.2.2))(hp:∀ x,p (partMV x)=decide (stop<x.2.2)):((ps.map partMV).filter p).map f=(goneL ps stop).map partMV:=by
 unfold goneL
 rw [List.filter_map,List.map_map,List.map_map]
 rw [show (p∘partMV)=fun x=>decide (stop<x.2.2) from funext hp,show (f∘partMV)=_ from funext hf]
 rfl
theorem keep_eq {ps:List Part}{stop:Int}(f:MV→MV)(p:MV→Bool)(hf:∀ x,f (partMV x)=partMV (x.1,x.2.1,minI x.2.2 stop))(hp:∀ x,p (partMV x)=decide (x.2.1<stop)):((ps.map partMV).filter p).map f=(keepL ps stop).map partMV:=by
 unfold keepL
 rw [List.filter_map,List.map_map,List.map_map]
 rw [show (p∘partMV)=fun x=>decide (x.2.1<stop) from funext hp,show (f∘partMV)=_ from funext hf]
 rfl
noncomputable def pt1:MV→Int| .tup [.int a,_,_]=>a|_=>0
noncomputable def pt2:MV→Int| .tup [_,.int a,_]=>a|_=>0
noncomputable def pt3:MV→Int| .tup [_,_,.int a]=>a|_=>0
theorem gone_in {ps:List Part}{stop:Int}(h:PartsIn seats stops ps)(h0:0≤stop):PartsIn seats stops (goneL ps stop):=fun x hx=>by
 obtain ⟨p,hp,rfl⟩:=List.mem_map.mp hx
 obtain ⟨hp,hs⟩:=List.mem_filter.mp hp
 have hs:=of_decide_eq_true hs
 obtain ⟨a1,a2,a3,a4,a5⟩:=h p hp
 refine ⟨a1,a2,?_,?_,a5⟩<;>(dsimp only;split<;>omega)
theorem s_leave (T:Trn H Z t rd hl ra seats stops coming R g){k stop:Int}(hok:∀ ps b e c H',(k,ps)∈R→Goes seats b ps e→b<stop→stop<e→Trn H' (fun a=>Z a∨a=c) t rd hl ra seats stops coming (rSet R k (keepL ps stop)) (marks g (goneL ps stop) none)→Frm (Own t rd hl ra seats) H H'→H c=none→H' c=some (.lst ((goneL ps stop).map partMV))→Q (.ref c) H')
  (hstop:∀ ps b e,(k,ps)∈R→Goes seats b ps e→¬(b<stop∧stop<e)→X "NoStop" H) (hbad:(∀ ps,(k,ps)∉ R)→X "NoTicket" H):callW theP (n+2) false "leave" [.ref t,.int k,.int stop] H Q X:=by
 refine call_of (d:=f_Train_leave) rfl rfl ?_
 have a1:=T.at_
 refine s_expr (w_meth (by array_get_dec) a1 rfl (by array_get_dec) (s_need_ticket T (fun ps hk=>?_) hbad))
 obtain ⟨rides,T1,T2⟩:=T.tr
 obtain ⟨c,h1,h2,hn⟩:=T2.get T.inv.asc hk
 have hn':¬ Own t rd hl ra seats c:=fun q=>hn (.inl q)
 obtain ⟨b,e,h0,he,G⟩:=T.inv.goes _ hk
 have p2:=T1.hstops
 have hb:=T.len
 have hgl:=goes_len G
 have plen:(ps.map partMV).length≤bigList:=by rw [List.length_map];unfold bigList;dsimp only at hgl;lia
 refine s_assign (Ev.itemD (Ev.attr (by array_get_dec) a1 rfl) (by array_get_dec) T1.rd_ h1) ?_
 refine s_ite (Ev.not (Ev.chain (ev_first G (by array_get_dec) h2) (EvC.any (by array_get_dec) .lt (EvC.one (ev_last G (by array_get_dec) h2) .lt)))) (fun z=>s_raise (hstop ps b e hk G fun w=>?_)) (fun z=>s_done ?_)
 ·rw [decide_eq_true w.1,decide_eq_true w.2] at z;exact Bool.noConfusion z
 obtain ⟨z1,z2⟩:=Bool.and_eq_true_iff.mp ((Bool.not_eq_false' _)▸z)
 have q1:=of_decide_eq_true z1
 have q2:=of_decide_eq_true z2
 refine s_let (w_compL (fun v=>decide (stop<pt3 v)) (fun v=> .tup [.int (pt1 v),.int (maxI (pt2 v) stop),.int (pt3 v)]) (by array_get_dec) h2 plen (fun v hv=>?_) (fun v hv _=>?_) ?_)
 ·obtain ⟨p,hp,rfl⟩:=List.mem_map.mp hv;array_get_dec
 ·obtain ⟨p,hp,rfl⟩:=List.mem_map.mp hv
  exact Ev.tup (Evs.cons (by array_get_dec) (Evs.cons (Ev.max (by array_get_dec) (by array_get_dec)) (Evs.cons (by array_get_dec) Evs.nil)))
 rw [gone_eq (stop:=stop) _ _ (fun _=>rfl) (fun _=>rfl)]
 intro c2 hc2
 have E1:=Ext.new (.lst ((goneL ps stop).map partMV)) hc2
 have T3:=T1.ext E1
 have hno2:=T1.not_own hc2
 refine s_expr (w_meth (by array_get_dec) T3.at_ rfl (vs:=[.ref c2,mvo none]) (Evs.cons (by array_get_dec) (Evs.cons Ev.none Evs.nil)) (s_mark T3 (MH.set_selfE _ _ _) hno2 (gone_in (T.inv.partsIn hk) (by lia)) fun H4 T4 f4=>?_))
 have h4:H4 c=some (.lst (ps.map partMV)):=f4.cel _ _ hn' (E1 _ _ h2)
 have h42:H4 c2=some (.lst ((goneL ps stop).map partMV)):=f4.cel _ _ hno2 (MH.set_selfE _ _ _)
 refine s_setIdxw (w_compL (fun v=>decide (pt2 v<stop)) (fun v=> .tup [.int (pt1 v),.int (pt2 v),.int (minI (pt3 v) stop)]) (by array_get_dec) h4 plen (fun v hv=>?_) (fun v hv _=>?_) ?_)
 ·obtain ⟨p,hp,rfl⟩:=List.mem_map.mp hv;array_get_dec
 ·obtain ⟨p,hp,rfl⟩:=List.mem_map.mp hv
  exact Ev.tup (Evs.cons (by array_get_dec) (Evs.cons (by array_get_dec) (Evs.cons (Ev.min (by array_get_dec) (by array_get_dec)) Evs.nil)))
 rw [keep_eq (stop:=stop) _ _ (fun _=>rfl) (fun _=>rfl)]
 intro c5 hc5
 have E5:=Ext.new (.lst ((keepL ps stop).map partMV)) hc5
 have T5:=T4.ext E5
 have hno5:=T4.not_own hc5
 have T6:=T5.setRides (dSet rides k (.ref c5))
 have fr4:Frm (Own t rd hl ra seats) H H4:=E1.frm.trans f4.cel
 have fr6:Frm (Own t rd hl ra seats) (H4.set c5 (.lst ((keepL ps stop).map partMV))) ((H4.set c5 (.lst ((keepL ps stop).map partMV))).set rd (.dct (dSet rides k (.ref c5)))):=frm_set (.inr (.inl rfl))
 have fr:=(fr4.trans E5.frm).trans fr6
 have nz:¬(Own t rd hl ra seats c5∨(Z c5∨c5=c2)):=fun q=>q.elim hno5 fun z=>z.elim (fun z=>T.kept fr4 c5 z hc5) fun q=>mne hc5 h42 q.symm
 refine Ev.attr (x:=.ref rd) (by array_get_dec) T5.at_ rfl _ _ (Ev.var (v:=.int k) (by sizeOf_list_dec) _ _ (SetIdxR.dct T5.rd_ (by rw [T2.len];exact Nat.lt_of_le_of_lt hb (by decide)) ?_))
 have hfin:=fr6 _ _ hno2 (E5 _ _ h42)
 exact s_ret (by array_get_dec) (hok ps b e c2 _ hk G q1 q2 ⟨⟨_,T6,(rides_frm (rides_more T2 hc2) fr).set hk (fr6 _ _ hno5 (MH.set_selfE _ _ _)) nz⟩,inv_leave T.inv hk G q1 q2,T.co,by unfold rSet;rw [List.length_map];exact hb,fun a z=>z.elim (T.apart a) fun z=>z▸hno2,fun a z=>z.elim (T.kept fr a) fun z=>by rw [z,hfin];exact fun z=>(by cases z)⟩ fr hc2 hfin)
theorem offer_goes {b e:Int}(p1:1≤seats)(h0:0≤b)(h1:b<e)(h2:e<stops)(hb:blockF g seats (e-b).toNat b=none):Goes seats b (offer g seats stops b e) e∧∀ s l,Covs (offer g seats stops b e) s l→g s l=none:=
 found_goes p1 h2 _ b h0 h1 (Nat.le_refl _) fun l q1 q2=>full_free (block_none _ _ rfl hb l q1 q2)
theorem t_sell (T:Trn H Z t rd hl ra seats stops coming R g) (hl5:R.length<5000) {b e:Int} (hok:0≤b→b<e→e<stops→blockF g seats (e-b).toNat b=none→∀ H',Frm (Own t rd hl ra seats) H H'→
   Trn H' Z t rd hl ra seats stops (coming+1) (R++ [(coming,offer g seats stops b e)]) (marks g (offer g seats stops b e) (some coming))→Q (.int coming) H')
  (hfull:∀ x H',0≤b→b<e→e<stops→blockF g seats (e-b).toNat b=some x→Ext H H'→X "Full" H') (hbad:¬(0≤b∧b<e∧e<stops)→X "NoStretch" H):callW theP (n+4) false "sell" [.ref t,.int b,.int e] H Q X:=by
 obtain ⟨rides,T1,T2⟩:=T.tr
 refine s_sell T1 (by rw [T2.len];omega) (fun h0 h1 h2 hb c H' hc f h' T'=>?_) hfull hbad
 obtain ⟨G,hf⟩:=offer_goes (stops:=stops) T1.hseats.1 h0 h1 h2 hb
 exact hok h0 h1 h2 hb H' f ⟨⟨_,T',(rides_frm T2 f).new (fun x hx=>(T.inv.rng x hx).2) h' (T.not_z hc)⟩,inv_sell T.inv T.co G h0 (Int.le_sub_one_of_lt h2) hf,Int.le_add_one T.co,by rw [List.length_append];exact hl5,T.apart,T.kept f⟩
end
end Mine
end
section
namespace Mine
open PySem
section
variable {n:Nat}{hd:Bool}{H H':MH}{Z:Addr→Prop}{Q:MV→MH→Prop}{X:String→MH→Prop}{t rd hl:Addr}{ra:Int→Addr}{seats stops coming:Int}{R:Rides}{g:Grid}
theorem ext_ne {c1:Addr}{o1 o:MObj}{a c:Addr}(h1:H c1=none)(hc:H.set c1 o1 c=none)(h:H a=some o):a≠c:=mne hc (Ext.new o1 h1 _ _ h)
theorem rows_at {rows:List Addr}{i:Int}(h0:0≤i)(h1:i<rows.length):∃ h:i.toNat<rows.length,rows.getD i.toNat 0=rows[i.toNat]:=by
 have hh:i.toNat<rows.length:=(Int.toNat_lt h0).mpr h1
 exact ⟨hh,by rw [List.getD_eq_getElem?_getD,List.getElem?_eq_getElem hh];rfl⟩
theorem rows_refs {rows:List Addr}{m:Nat}(h:rows.length=m):rows.map MV.ref=refsOf (fun i=>rows.getD i.toNat 0) m:=by
 apply List.ext_getElem?
 intro k
 unfold refsOf
 rw [List.getElem?_map,List.getElem?_map]
 by_cases hk:k<m
 ·rw [List.getElem?_range hk,List.getElem?_eq_getElem (h▸hk),Option.map_some,Option.map_some];show _=some (MV.ref (rows.getD k 0));rw [List.getD_eq_getElem?_getD,List.getElem?_eq_getElem (h▸hk)];rfl
 ·rw [List.getElem?_eq_none (Nat.le_of_not_lt (h▸hk)),List.getElem?_eq_none (by rw [List.length_range];exact Nat.le_of_not_lt hk)];rfl
theorem row_none {i:Int}{m:Nat}:List.replicate m MV.none=rowOf (fun _ _=>none) i m:=by
 unfold rowOf;rw [List.map_const',List.length_range];rfl
theorem w_grid {Δ:CallT}{ρ:Sto}{x:String}{it m:ME}{Y:String→MH→Prop}(hit:Ev Δ false it ρ H (.rng 0 seats 1))(p1:1≤seats∧seats≤60)(p2:2≤stops∧stops≤60)(hm:∀ v H',Ev Δ false m (ρ.set x v) H' (.int (stops-1)))
  (h:∀ c rb H',Ext H H'→Gd H' c rb seats stops (fun _ _=>none)→H c=none→(∀ i,0≤i→i<seats→H (rb i)=none)→Q (.ref c) H'):wE Δ false (.comp (.bin .mul (.list (.cons .none .nil)) m) x it (.bool true)) ρ H Q Y:=by
 refine ⟨rfl,hit _ _ ⟨_,.rng,comp_inv (fun vs acc H'=>∃ rows:List Addr,acc=rows.map .ref∧rows.length+vs.length=seats.toNat∧rows.Nodup∧(∀ x∈rows,H x=none∧H' x=some (.lst (List.replicate (stops-1).toNat .none)))∧Ext H H') (fun _ _ _ _=> .rng) (fun _ _ _ h=>h) ?_ ?_ _ _ _ ?_ ⟨[],rfl,?_,.nil,⟨fun _ h=>(by cases h),Ext.refl _⟩⟩⟩⟩
 ·rintro v vs acc H' k ⟨rows,e1,e2,e0,e3,E⟩ hk c1 hc1
  refine hm _ _ _ _ (BinR.rep (MH.set_selfE _ _ _) (by lia) (by unfold bigList;lia) fun c2 hc2=>?_)
  have hE:Ext H' ((H'.set c1 (.lst [MV.none])).set c2 (.lst (List.replicate (stops-1).toNat .none))):=(Ext.new _ hc1).trans (Ext.new _ hc2)
  have c0:H c2=none:=none_of_ext (E.trans (Ext.new _ hc1)) hc2
  refine hk _ _ ⟨rows++ [c2],by rw [e1,List.map_append];rfl,by rw [List.length_cons] at e2;rw [List.length_append,List.length_singleton];lia,?_,fun y hy=>?_,E.trans hE⟩
  ·rw [List.nodup_append]
   exact ⟨e0,List.pairwise_singleton _ _,fun y hy z hz=>List.mem_singleton.mp hz▸ext_ne hc1 hc2 (e3 y hy).2⟩
  ·rcases List.mem_append.mp hy with hy|hy
   ·exact ⟨(e3 y hy).1,hE _ _ (e3 y hy).2⟩
   ·obtain rfl:=List.mem_singleton.mp hy;exact ⟨c0,MH.set_selfE _ _ _⟩
 ·rintro acc H' c ⟨rows,e1,e2,e0,e3,E⟩ hc
  have e2:rows.length=seats.toNat:=e2
  have el:(rows.length:Int)=seats:=by rw [e2];exact Int.toNat_of_nonneg (by lia)
  have E2:=Ext.new (.lst acc) hc
  have mem:∀ i,0≤i→i<seats→rows.getD i.toNat 0∈rows:=fun i h0 h1=>by obtain ⟨q,e⟩:=rows_at (rows:=rows) h0 (el▸h1);rw [e];exact List.getElem_mem q
  refine h c (fun i=>rows.getD i.toNat 0) _ (E.trans E2) ⟨p1,p2,(MH.set_selfE _ _ _).trans (by rw [e1,rows_refs e2]),fun i h0 h1=>(E2 _ _ (e3 _ (mem i h0 h1)).2).trans (by rw [row_none]),fun i j h0 h1 h2 h3 q=>?_,fun i h0 h1=>mne hc (e3 _ (mem i h0 h1)).2⟩ (none_of_ext E hc) fun i h0 h1=>(e3 _ (mem i h0 h1)).1
  obtain ⟨i2,i3⟩:=rows_at (rows:=rows) h0 (el▸h1)
  obtain ⟨j2,j3⟩:=rows_at (rows:=rows) h2 (el▸h3)
  have q':rows[i.toNat]=rows[j.toNat]:=i3.symm.trans (q.trans j3)
  have:=(List.getElem_inj e0).mp q'
  lia
 ·rw [List.length_map,rangeL_len1,List.length_nil,Nat.zero_add];unfold bigList;lia
 ·rw [List.length_map,rangeL_len1,List.length_nil,Nat.zero_add,Int.sub_zero]
theorem t_init {a:Addr}{seats stops:Int}(ha:H a=some (.inst []))(p1:1≤seats∧seats≤60)(p2:2≤stops∧stops≤60)
  (hok:∀ H' rd hl ra,Trn H' (fun _=>False) a rd hl ra seats stops 0 [] (fun _ _=>none)→(∀ b,Own a rd hl ra seats b→b=a∨H b=none)→(∀ b o,b≠a→H b=some o→H' b=some o)→Q .none H'):callW theP (n+1) false "__init__" [.ref a,.int seats,.int stops] H Q X:=by
 refine call_of (d:=f_Train_init) rfl rfl ?_
 have o1:∀{lo v:Int} {e:ME} {ρ:Sto},lo≤v→v≤60→Ev (callW theP n) false e ρ H (.int v)→Ev (callW theP n) false (.not (.cmp (.int lo) (.cons .le e (.cons .le (.gconst "MOST" (.int 60)) .nil)))) ρ H (.bool false):=fun h1 h2 he=>
  Ev.not (b:=true) (Ev.chain Ev.int (EvC.t he (decide_eq_true h1▸ .le) (EvC.one Ev.gconst (decide_eq_true h2▸ .le))))
 refine s_skip (Ev.or (EvO.f (o1 p1.1 p1.2 (by array_get_dec)) (EvO.one (o1 p2.1 p2.2 (by array_get_dec))))) ?_
 have sa:∀{H1:MH} {fs:List (String×MV)} {e:ME} {f:String} {v:MV} {ρ:Sto} {ss:MSs} {N:Sto→MH→Prop} {R:MV→MH→Prop} {Y:String→Sto→MH→Prop},ρ "self"=some (.ref a)→fs.length<100→Ev (callW theP n) false e ρ (H1.set a (.inst fs)) v→wSs (callW theP n) false ss ρ ((H1.set a (.inst fs)).set a (.inst (fsSet fs f v))) N R Y→wSs (callW theP n) false (.cons (.setAttr (.var "self") f e) ss) ρ (H1.set a (.inst fs)) N R Y:=
  fun hs hl he h=>s_setAttr he (Ev.var hs) (MH.set_selfE _ _ _) hl h
 refine s_setAttr (by array_get_dec) (by array_get_dec) ha (by decide) (sa rfl (by show 1<100;decide) (by array_get_dec) (sa rfl (by show 2<100;decide) (by array_get_dec) ?_))
 refine s_setAttrw fun r hr=>?_
 have nr:∀{b:Addr} {o:MObj},H b=some o→b≠a→b≠r:=fun h n=>mne hr ((MH.set_neE _ _ n).trans ((MH.set_neE _ _ n).trans ((MH.set_neE _ _ n).trans h)))
 have ra:a≠r:=mne hr (MH.set_selfE _ _ _)
 have r0:H r=none:=by
  cases q:H r with
  |none=>rfl
  |some o=>exact absurd rfl (nr q ra.symm)
 refine Ev.var (v:=.ref a) rfl _ _ (SetAttrR.mk ((MH.set_neE _ _ ra).trans (MH.set_selfE _ _ _)) (by show 3<100;decide) ?_)
 refine s_setAttrw (w_grid (seats:=seats) (stops:=stops) (Ev.range1 (by array_get_dec) (smallOf (by lia) (by lia))) p1 p2 (fun v H'=>by array_get_dec) fun c rb H4 E4 G hc hrb=>?_)
 have a4:=E4 _ _ (MH.set_selfE _ _ _)
 have r4:H4 r=some (.dct []):=E4 _ _ ((MH.set_neE _ _ ra.symm).trans (MH.set_selfE _ _ _))
 have keep:∀{b:Addr} {o:MObj},b≠a→H b=some o→H4 b=some o:=fun n h=>E4 _ _ ((MH.set_neE _ _ n).trans ((MH.set_neE _ _ (nr h n)).trans ((MH.set_neE _ _ n).trans ((MH.set_neE _ _ n).trans ((MH.set_neE _ _ n).trans h)))))
 refine Ev.var (v:=.ref a) rfl _ _ (SetAttrR.mk a4 (by show 4<100;decide) ?_)
 have ca:c≠a:=fun q=>mne hc (MH.set_selfE _ _ _) q.symm
 have cela:∀ i,0≤i→i<seats→rb i≠a:=fun i h0 h1 q=>mne (hrb i h0 h1) (MH.set_selfE _ _ _) q.symm
 have old:∀{b:Addr} {o1 o2 o3 o4:MObj},b≠a→(((((H.set a o1).set a o2).set a o3).set r (.dct [])).set a o4) b=none→H b=none:=fun {b o1 o2 o3 o4} n h=>by
  cases q:H b with
  |none=>rfl
  |some o=>exact absurd ((MH.set_neE _ _ n).trans ((MH.set_neE _ _ (nr q n)).trans ((MH.set_neE _ _ n).trans ((MH.set_neE _ _ n).trans ((MH.set_neE _ _ n).trans q))))) (by rw [h];exact fun z=>by cases z)
 have G':Gd (H4.set a (.inst (trFs seats stops 0 r c))) c rb seats stops (fun _ _=>none):=G.keep fun b o z h=>(MH.set_neE _ _ (z.elim (fun z=>z▸ca) fun ⟨i,h0,h1,e⟩=>e▸cela i h0 h1)).trans h
 exact hok _ r c rb ⟨⟨[],⟨G',MH.set_selfE _ _ _,(MH.set_neE _ _ ra.symm).trans r4⟩,.nil⟩,inv_init,Int.le_refl _,Nat.zero_le _,fun _ z=>z.elim,fun _ z=>z.elim⟩
  (fun b z=>by
   rcases z with z|z|z|⟨i,h0,h1,z⟩
   ·exact .inl z
   ·exact .inr (z▸r0)
   ·exact .inr (z▸old ca hc)
   ·exact .inr (z▸old (cela i h0 h1) (hrb i h0 h1))) (fun b o n h=>(MH.set_neE _ _ n).trans (keep n h))
end
end Mine
end
section
namespace Mine
open PySem
section
variable {n:Nat}{hd:Bool}{H H':MH}{Z:Addr→Prop}{Q:MV→MH→Prop}{X:String→MH→Prop}{t rd hl:Addr}{ra:Int→Addr}{seats stops coming:Int}{R:Rides}{g:Grid}
theorem fm_pos (a:Int){m:Int}(h:0<m):0≤a.fmod m∧a.fmod m<m:=⟨Int.fmod_nonneg_of_pos _ h,Int.fmod_lt_of_pos _ h⟩
theorem at_pick {ls:List MV}{i:Int}(h0:0≤i)(h1:i<ls.length):∃ v,v∈ls∧atIdx ls i=some v:=by
 have hh:i.toNat<ls.length:=(Int.toNat_lt h0).mpr h1
 exact ⟨ls[i.toNat],List.getElem_mem hh,atIdx_nn h0 (List.getElem?_eq_getElem hh)⟩
theorem ev_dm {Δ:CallT}{ρ:Sto}{e:ME}{a:Int}(d m:Int)(he:Ev Δ hd e ρ H (.int a))(h:d≠0)(h2:d.natAbs<1073741824)(h3:m≠0):Ev Δ hd (.bin .mod (.bin .fdiv e (.int d)) (.int m)) ρ H (.int ((a.fdiv d).fmod m)):=Ev.mod (Ev.fdiv he Ev.int h h2) Ev.int h3
theorem s_cell_at {script:Addr}{is:List Int}{k:Int}(hH:H script=some (.ro (is.map .int)))(hk:0≤k)(h:∀ v,Q (.int v) H):callW theP (n+1) hd "_law_cell_at" [.ref script,.int k] H Q X:=by
 refine call_of (d:=f__law_cell_at) rfl rfl ?_
 refine s_ite (Ev.cmp (by array_get_dec) (Ev.lenR (by array_get_dec) hH) .lt) (fun q=>?_) (fun _=>s_done (s_ret Ev.int (h _)))
 obtain ⟨v,hv,e⟩:=at_pick hk (of_decide_eq_true q)
 obtain ⟨i,_,rfl⟩:=List.mem_map.mp hv
 exact s_ret (Ev.itemR (by array_get_dec) (by array_get_dec) hH e) (h _)
theorem s_seats {c:Int}(h:∀ v,1≤v→v≤60→Q (.int v) H):callW theP (n+1) hd "_law_seats" [.int c] H Q X:=by
 refine call_of (d:=f__law_seats) rfl rfl ?_
 have e1:=fm_pos (c.fdiv 40) (m:=11) (by decide)
 have e2:=fm_pos (c.fdiv 40) (m:=44) (by decide)
 have e3:=fm_pos c (m:=5) (by decide)
 refine s_ite (Ev.cmp (ev_dm 5 8 (by array_get_dec) (by decide) (by decide) (by decide)) Ev.int .eqi) (fun _=>s_ret (Ev.add Ev.int (ev_dm 40 11 (by array_get_dec) (by decide) (by decide) (by decide))) (h _ (by omega) (by omega))) (fun _=>s_done ?_)
 refine s_ite (Ev.cmp (ev_dm 5 8 (by array_get_dec) (by decide) (by decide) (by decide)) Ev.int .eqi) (fun _=>s_ret (Ev.add Ev.int (ev_dm 40 44 (by array_get_dec) (by decide) (by decide) (by decide))) (h _ (by omega) (by omega))) (fun _=>s_done ?_)
 exact s_ret (Ev.add Ev.int (Ev.mod (by array_get_dec) Ev.int (by decide))) (h _ (by omega) (by omega))
theorem s_stops {c:Int}(h:∀ v,2≤v→v≤60→Q (.int v) H):callW theP (n+1) hd "_law_stops" [.int c] H Q X:=by
 refine call_of (d:=f__law_stops) rfl rfl ?_
 have e1:=fm_pos (c.fdiv 64) (m:=11) (by decide)
 have e2:=fm_pos (c.fdiv 64) (m:=40) (by decide)
 have e3:=fm_pos c (m:=8) (by decide)
 refine s_ite (Ev.cmp (ev_dm 8 8 (by array_get_dec) (by decide) (by decide) (by decide)) Ev.int .eqi) (fun _=>s_ret (Ev.add Ev.int (ev_dm 64 11 (by array_get_dec) (by decide) (by decide) (by decide))) (h _ (by omega) (by omega))) (fun _=>s_done ?_)
 refine s_ite (Ev.cmp (ev_dm 8 8 (by array_get_dec) (by decide) (by decide) (by decide)) Ev.int .eqi) (fun _=>s_ret (Ev.add Ev.int (ev_dm 64 40 (by array_get_dec) (by decide) (by decide) (by decide))) (h _ (by omega) (by omega))) (fun _=>s_done ?_)
 exact s_ret (Ev.add Ev.int (Ev.mod (by array_get_dec) Ev.int (by decide))) (h _ (by omega) (by omega))
noncomputable def someL:List Int:=[99991,99989,99971,99961,99929,99923,99907,99901,99881,99877,99871]
theorem some_ok:∀ d∈someL,0<d∧d≤100000:=by decide
theorem s_mixed {c k m:Int}(hk:0≤k)(hm:0<m)(h:∀ v H',0≤v→v<m→Ext H H'→Q (.int v) H'):callW theP (n+1) hd "_law_mixed" [.int c,.int k,.int m] H Q X:=by
 refine call_of (d:=f__law_mixed) rfl rfl ?_
 refine s_let (w_list (vs:=someL.map .int) (by array_get_dec) fun a ha=>?_)
 have e:=fm_pos k (m:=11) (by decide)
 obtain ⟨v,hv,ev⟩:=at_pick (ls:=someL.map .int) e.1 e.2
 obtain ⟨d,hd',rfl⟩:=List.mem_map.mp hv
 obtain ⟨d0,d1⟩:=some_ok d hd'
 have md:=fm_pos ((c+7*k)*48271) d0
 have mk:mulOk (((c+7*k)*48271).fmod d) (((c+7*k)*48271).fmod d):=.inl (by omega)
 refine s_assign (Ev.mod (Ev.mul (Ev.add (by array_get_dec) (Ev.mul Ev.int (by array_get_dec) (.inl (by decide)))) Ev.int (.inr (by decide))) (Ev.item (by array_get_dec) (Ev.mod (by array_get_dec) Ev.int (by decide)) (MH.set_selfE _ _ _) ev) (Int.ne_of_gt d0)) ?_
 have fin:=fm_pos ((((((c+7*k)*48271).fmod d)*(((c+7*k)*48271).fmod d))*7+(((c+7*k)*48271).fmod d)+k).fmod 1000003) hm
 exact s_ret (Ev.mod (Ev.mod (Ev.add (Ev.add (Ev.mul (Ev.mul (by array_get_dec) (by array_get_dec) mk) Ev.int (.inr (by decide))) (by array_get_dec)) (by array_get_dec)) Ev.int (by decide)) (by array_get_dec) (Int.ne_of_gt hm)) (h _ _ fin.1 fin.2 (Ext.new _ ha))
theorem s_stretch_by {c stops:Int}(hs:2≤stops∧stops≤60)(h:∀ b e H',0≤b→b<e→e<stops→Ext H H'→Q (.tup [.int b,.int e]) H'):callW theP (n+2) false "_law_stretch_by" [.int c,.int stops] H Q X:=by
 refine call_of (d:=f__law_stretch_by) rfl rfl ?_
 refine s_let (w_call (by array_get_dec) (s_mixed (by decide) (by omega) fun b H1 b0 b1 E1=>?_))
 have rest:∀{b:Int} {ρ:Sto},0≤b→b<stops-1→ρ "_law_cell"=some (.int c)→ρ "_law_stops_here"=some (.int stops)→ρ "_law_begin"=some (.int b)→wSs (callW theP (n+1)) false
   (.cons (.assign "_law_end" (.bin .add (.bin .add (.var "_law_begin") (.int 1)) (.call "_law_mixed" (.cons (.var "_law_cell") (.cons (.int 2) (.cons (.bin .sub (.bin .sub (.var "_law_stops_here") (.int 1)) (.var "_law_begin")) .nil))))))
   (.cons (.ite (.cmp (.bin .mod (.bin .fdiv (.var "_law_cell") (.int 27)) (.int 3)) (.cons .eq (.int 1) .nil))
   (.cons (.assign "_law_end" (.bi "min" (.cons (.bin .add (.bin .add (.var "_law_begin") (.int 1)) (.bin .mod (.bin .fdiv (.var "_law_cell") (.int 81)) (.int 3))) (.cons (.bin .sub (.var "_law_stops_here") (.int 1)) .nil)))) .nil) .nil)
   (.cons (.ret (.tup (.cons (.var "_law_begin") (.cons (.var "_law_end") .nil)))) .nil))) ρ H1 (fun _ H'=>Q .none H') Q (fun c _ H'=>X c H'):=by
  intro b ρ b0 b1 g1 g2 g3
  refine s_let (Ev.add (by array_get_dec) Ev.int _ _ (w_call (by array_get_dec) (s_mixed (by decide) (by omega) fun v H2 v0 v1 E2=>BinR.add ?_)))
  refine s_ite (Ev.cmp (ev_dm 27 3 (by array_get_dec) (by decide) (by decide) (by decide)) Ev.int .eqi) (fun _=>?_) (fun _=>s_done (s_ret (by array_get_dec) (h _ _ _ b0 (by omega) (by omega) (E1.trans E2))))
  have f:=fm_pos (c.fdiv 81) (m:=3) (by decide)
  refine s_assign (Ev.min (Ev.add (by array_get_dec) (ev_dm 81 3 (by array_get_dec) (by decide) (by decide) (by decide))) (by array_get_dec)) (s_done (s_ret (by array_get_dec) (h _ _ _ b0 ?_ ?_ (E1.trans E2))))
  ·unfold minI;split<;>omega
  ·unfold minI;split<;>omega
 refine s_ite (Ev.cmp (ev_dm 9 3 (by array_get_dec) (by decide) (by decide) (by decide)) Ev.int .eqi) (fun _=>s_assign Ev.int (s_done (rest (by decide) (by omega) rfl rfl rfl))) (fun _=>s_done (rest b0 b1 rfl rfl rfl))
noncomputable def clsTab:List (String×String):=[("NoTrain","train"),("NoStretch","stretch"),("NoSeat","seat"),("NoStop","stop"),("NoLeg","leg"),("NoTicket","ticket"),("Full","full"),("Shared","shared"),("NoText","text")]
noncomputable def clsChain:List (String×String)→MSs→MSs
 | [],r=>r
 |p::l,r=> .cons (.ite (.isinst (.var "_law_e") p.1) (.cons (.expr (.bm (.var "_law_words") "append" (.cons (.str p.2) .nil))) .nil) .nil) (clsChain l r)
noncomputable def wordOf (c:String):String:=((clsTab.filter fun p=>p.1==c).map (·.2)).headD ""
theorem word_one:∀ c∈excNames,(clsTab.filter fun p=>p.1==c).map (·.2)=[wordOf c]:=by decide
theorem cls_names:∀ p∈clsTab,excNames.contains p.1=true:=by decide
theorem chain_go {Δ:CallT}{ρ:Sto}{a:Addr}{c:String}{rest:MSs}{N:Sto→MH→Prop}{R:MV→MH→Prop}{Y:String→Sto→MH→Prop}(g1:ρ "_law_e"=some (.exc c))(g2:ρ "_law_words"=some (.ref a)):
  ∀(l:List (String×String)) (acc:List MV) (H:MH),(∀ p∈l,excNames.contains p.1=true)→acc.length+l.length≤100→H a=some (.lst acc)→(∀ H',(∀ b,b≠a→H' b=H b)→H' a=some (.lst (acc++((l.filter fun p=>p.1==c).map fun p=>MV.str (Str.ofString p.2))))→wSs Δ hd rest ρ H' N R Y)→wSs Δ hd (clsChain l rest) ρ H N R Y:=by
 intro l
 induction l with
 |nil=>intro acc H _ _ ha h;exact h H (fun _ _=>rfl) (by rw [ha,List.filter_nil,List.map_nil,List.append_nil])
 |cons p l ih=>
  intro acc H hl hn ha h
  rw [List.length_cons] at hn
  refine s_ite (Ev.isi (Ev.var g1) (.exc (hl p (.head _)))) (fun q=>s_expr (w_append (Ev.var g2) ha Ev.str (by unfold bigList;lia) (s_done ?_))) (fun q=>s_done ?_)
  ·refine ih _ _ (fun x hx=>hl x (.tail _ hx)) (by rw [List.length_append,List.length_singleton];lia) (MH.set_selfE _ _ _) fun H' k e=>h H' (fun b nb=>(k b nb).trans (MH.set_neE _ _ nb)) ?_
   rw [e,List.filter_cons_of_pos (p:=fun (p:String×String)=>p.1==c) q,List.map_cons,List.append_assoc];rfl
  ·refine ih _ _ (fun x hx=>hl x (.tail _ hx)) (by lia) ha fun H' k e=>h H' k ?_
   rw [e,List.filter_cons_of_neg (p:=fun (p:String×String)=>p.1==c) (by rw [q];exact Bool.noConfusion)]
theorem s_class {c:String}(hc:excNames.contains c=true)(h:∀ H',Ext H H'→Q (.str (Str.ofString (wordOf c))) H'):callW theP (n+1) hd "_law_class" [.exc c] H Q X:=by
 refine call_of (d:=f__law_class) rfl rfl ?_
 refine s_let (w_list Evs.nil fun a ha=>?_)
 refine chain_go (l:=clsTab) (c:=c) (a:=a) rfl rfl _ _ cls_names (by decide) (MH.set_selfE _ _ _) fun H' k e=>?_
 have e2:H' a=some (.lst [.str (Str.ofString (wordOf c))]):=by
  have:=congrArg (List.map fun w=>MV.str (Str.ofString w)) (word_one c (List.contains_iff_mem.mp hc))
  rw [List.map_map] at this
  rw [e,List.nil_append];exact congrArg (fun l=>some (MObj.lst l)) this
 refine s_iteT (Ev.and (EvA.t (Ev.cmp (Ev.lenL (by array_get_dec) e2) Ev.int .eqi) (EvA.one (Ev.isi (by array_get_dec) .val)))) (s_ret (Ev.item (by array_get_dec) Ev.int e2 rfl) (h _ fun b o hb=>(k b (mne ha hb)).trans (Ext.new _ ha _ _ hb)))
end
end Mine
end
section
namespace Mine
open PySem
section
variable {n:Nat}{hd:Bool}{H H':MH}{Z:Addr→Prop}{Q:MV→MH→Prop}{X:String→MH→Prop}{t rd hl:Addr}{ra:Int→Addr}{seats stops coming:Int}{R:Rides}{g:Grid}
theorem s_whole {i:Int}(h:Q (.bool true) H):callW theP (n+1) hd "_law_whole" [.int i] H Q X:=
 call_of (d:=f__law_whole) rfl rfl (s_ret (Ev.and (EvA.t (Ev.isi (by array_get_dec) .ii) (EvA.one (Ev.not (Ev.isi (by array_get_dec) .bi))))) h)
end
end Mine
end
section
namespace Mine
open PySem
noncomputable def deedMV (k:String)(a b:Int):MV:=.tup [.str (Str.ofString k),.int a,.int b]
section
variable {n:Nat}{hd:Bool}{H H':MH}{Z:Addr→Prop}{Q:MV→MH→Prop}{X:String→MH→Prop}{t rd hl:Addr}{ra:Int→Addr}{seats stops coming:Int}{R:Rides}{g:Grid}
theorem dec_str {a b:String}:decide (Str.ofString a=Str.ofString b)=decide (a=b):=decide_eq_decide.mpr ofString_eq
theorem ev_kind {Δ:CallT}{ρ:Sto}{x:ME}{k s:String}{a b:Int}(hx:Ev Δ hd x ρ H (deedMV k a b)):Ev Δ hd (.cmp (.sub x (.int 0)) (.cons .eq (.str s) .nil)) ρ H (.bool (decide (k=s))):=dec_str▸Ev.cmp (Ev.itemT hx Ev.int rfl) Ev.str .eqs
theorem ev_d1 {Δ:CallT}{ρ:Sto}{x:ME}{k:String}{a b:Int}(hx:Ev Δ hd x ρ H (deedMV k a b)):Ev Δ hd (.sub x (.int 1)) ρ H (.int a):=Ev.itemT hx Ev.int rfl
theorem ev_d2 {Δ:CallT}{ρ:Sto}{x:ME}{k:String}{a b:Int}(hx:Ev Δ hd x ρ H (deedMV k a b)):Ev Δ hd (.sub x (.int 2)) ρ H (.int b):=Ev.itemT hx Ev.int rfl
noncomputable def sellFail (g:Grid)(seats stops b e:Int):Option String:=if 0≤b∧b<e∧e<stops then (if (blockF g seats (e-b).toNat b).isSome then some "Full" else none) else some "NoStretch"
theorem fail_full {b e x:Int}(h0:0≤b)(h1:b<e)(h2:e<stops)(h:blockF g seats (e-b).toNat b=some x):sellFail g seats stops b e=some "Full":=by unfold sellFail;rw [if_pos ⟨h0,h1,h2⟩,h];rfl
theorem fail_none {b e:Int}(h0:0≤b)(h1:b<e)(h2:e<stops)(h:blockF g seats (e-b).toNat b=none):sellFail g seats stops b e=none:=by unfold sellFail;rw [if_pos ⟨h0,h1,h2⟩,h];rfl
theorem fail_bad {b e:Int}(h:¬(0≤b∧b<e∧e<stops)):sellFail g seats stops b e=some "NoStretch":=if_neg h
theorem fail_exc {b e:Int}{c:String}(h:sellFail g seats stops b e=some c):excNames.contains c=true:=by
 unfold sellFail at h
 split at h
 ·split at h
  ·obtain rfl:=Option.some.inj h;rfl
  ·cases h
 ·obtain rfl:=Option.some.inj h;rfl
theorem s_told_sell (T:Trn H Z t rd hl ra seats stops coming R g) (hl5:R.length<5000) {b e:Int} (hok:0≤b→b<e→e<stops→blockF g seats (e-b).toNat b=none→∀ H',Frm (Own t rd hl ra seats) H H'→
   Trn H' Z t rd hl ra seats stops (coming+1) (R++ [(coming,offer g seats stops b e)]) (marks g (offer g seats stops b e) (some coming))→Q (.int coming) H')
  (hx:∀ c H',sellFail g seats stops b e=some c→Ext H H'→X c H'):callW theP (n+5) false "_law_told" [.ref t,deedMV "sell" b e] H Q X:=
 call_of (d:=f__law_told) rfl rfl (s_iteT (ev_kind (k:="sell") (by array_get_dec)) (s_retw (w_meth (by array_get_dec) T.at_ rfl (Evs.cons (ev_d1 (by array_get_dec)) (Evs.cons (ev_d2 (by array_get_dec)) Evs.nil)) (t_sell T hl5 hok (fun x H' h0 h1 h2 hb E=>hx _ _ (fail_full h0 h1 h2 hb) E) fun h=>hx _ _ (fail_bad h) (.refl _)))))
theorem s_told_back (T:Trn H Z t rd hl ra seats stops coming R g){k z:Int}(hok:∀ ps c H',(k,ps)∈R→Trn H' (fun a=>Z a∨a=c) t rd hl ra seats stops coming (rDel R k) (marks g ps none)→Frm (Own t rd hl ra seats) H H'→H c=none→H' c=some (.lst (ps.map partMV))→Q (.ref c) H')
  (hbad:(∀ ps,(k,ps)∉ R)→X "NoTicket" H):callW theP (n+5) false "_law_told" [.ref t,deedMV "back" k z] H Q X:=
 call_of (d:=f__law_told) rfl rfl (s_skip (ev_kind (k:="back") (by array_get_dec)) (s_iteT (ev_kind (k:="back") (by array_get_dec)) (s_retw (w_meth (by array_get_dec) T.at_ rfl (Evs.cons (ev_d1 (by array_get_dec)) Evs.nil) (s_back T hok hbad)))))
theorem s_told_leave (T:Trn H Z t rd hl ra seats stops coming R g){k stop:Int}(hok:∀ ps b e c H',(k,ps)∈R→Goes seats b ps e→b<stop→stop<e→Trn H' (fun a=>Z a∨a=c) t rd hl ra seats stops coming (rSet R k (keepL ps stop)) (marks g (goneL ps stop) none)→Frm (Own t rd hl ra seats) H H'→H c=none→H' c=some (.lst ((goneL ps stop).map partMV))→Q (.ref c) H')
  (hstop:∀ ps b e,(k,ps)∈R→Goes seats b ps e→¬(b<stop∧stop<e)→X "NoStop" H) (hbad:(∀ ps,(k,ps)∉ R)→X "NoTicket" H):callW theP (n+5) false "_law_told" [.ref t,deedMV "leave" k stop] H Q X:=
 call_of (d:=f__law_told) rfl rfl (s_skip (ev_kind (k:="leave") (by array_get_dec)) (s_skip (ev_kind (k:="leave") (by array_get_dec)) (s_iteT (ev_kind (k:="leave") (by array_get_dec)) (s_retw (w_meth (by array_get_dec) T.at_ rfl (Evs.cons (ev_d1 (by array_get_dec)) (Evs.cons (ev_d2 (by array_get_dec)) Evs.nil)) (s_leave T hok hstop hbad))))))
theorem s_told_reseat (T:Trn H Z t rd hl ra seats stops coming R g) {k z:Int} (hok:∀ ps b e c H',(k,ps)∈R→Goes seats b ps e→0≤b→e≤stops-1→Trn H' (fun a=>Z a∨a=c) t rd hl ra seats stops coming (rSet R k (anew g seats stops ps b e)) (marks (marks g ps none) (anew g seats stops ps b e) (some k))→
   Frm (Own t rd hl ra seats) H H'→H c=none→H' c=some (.lst ((anew g seats stops ps b e).map partMV))→Q (.ref c) H')
  (hbad:(∀ ps,(k,ps)∉ R)→X "NoTicket" H):callW theP (n+5) false "_law_told" [.ref t,deedMV "reseat" k z] H Q X:=
 call_of (d:=f__law_told) rfl rfl (s_skip (ev_kind (k:="reseat") (by array_get_dec)) (s_skip (ev_kind (k:="reseat") (by array_get_dec)) (s_skip (ev_kind (k:="reseat") (by array_get_dec)) (s_retw (w_meth (by array_get_dec) T.at_ rfl (Evs.cons (ev_d1 (by array_get_dec)) Evs.nil) (s_reseat T hok hbad))))))
abbrev failMV (w:String):MV:=.tup [.str (Str.ofString w),.none]
abbrev doneMV (v:MV):MV:=.tup [.str (Str.ofString ""),v]
theorem w_hand {c:String}{ρ:Sto}{N:Sto→MH→Prop}{Y:String→Sto→MH→Prop}(hc:excNames.contains c=true)(h:∀ H',Ext H H'→Q (failMV (wordOf c)) H'):
  wSs (callW theP (n+1)) true (.cons (.ret (.tup (.cons (.call "_law_class" (.cons (.var "_law_e") .nil)) (.cons .none .nil)))) .nil) (ρ.set "_law_e" (.exc c)) H N Q Y:=
 s_retw (w_call (Evs.cons (Ev.var (Sto.gets _ _ _)) Evs.nil) (s_class hc h))
theorem s_word_sell (T:Trn H Z t rd hl ra seats stops coming R g) (hl5:R.length<5000) {b e:Int} (hok:0≤b→b<e→e<stops→blockF g seats (e-b).toNat b=none→∀ H',Frm (Own t rd hl ra seats) H H'→
   Trn H' Z t rd hl ra seats stops (coming+1) (R++ [(coming,offer g seats stops b e)]) (marks g (offer g seats stops b e) (some coming))→Q (doneMV (.int coming)) H')
  (hx:∀ c H',sellFail g seats stops b e=some c→Ext H H'→Q (failMV (wordOf c)) H'):callW theP (n+6) false "_law_word" [.ref t,deedMV "sell" b e] H Q X:=
 call_of (d:=f__law_word) rfl rfl (s_try (s_retw (w_call (by array_get_dec) (s_told_sell T hl5 hok fun c H' hf E=>w_hand (fail_exc hf) fun H'' E'=>hx c H'' hf (E.trans E')))))
theorem s_word_back (T:Trn H Z t rd hl ra seats stops coming R g){k z:Int}(hok:∀ ps c H',(k,ps)∈R→Trn H' (fun a=>Z a∨a=c) t rd hl ra seats stops coming (rDel R k) (marks g ps none)→Frm (Own t rd hl ra seats) H H'→H c=none→H' c=some (.lst (ps.map partMV))→Q (doneMV (.ref c)) H')
  (hbad:(∀ ps,(k,ps)∉ R)→∀ H',Ext H H'→Q (failMV "ticket") H'):callW theP (n+6) false "_law_word" [.ref t,deedMV "back" k z] H Q X:=
 call_of (d:=f__law_word) rfl rfl (s_try (s_retw (w_call (by array_get_dec) (s_told_back T hok fun nb=>w_hand rfl (hbad nb)))))
theorem s_word_leave (T:Trn H Z t rd hl ra seats stops coming R g){k stop:Int}(hok:∀ ps b e c H',(k,ps)∈R→Goes seats b ps e→b<stop→stop<e→Trn H' (fun a=>Z a∨a=c) t rd hl ra seats stops coming (rSet R k (keepL ps stop)) (marks g (goneL ps stop) none)→Frm (Own t rd hl ra seats) H H'→H c=none→H' c=some (.lst ((goneL ps stop).map partMV))→Q (doneMV (.ref c)) H')
  (hstop:∀ ps b e,(k,ps)∈R→Goes seats b ps e→¬(b<stop∧stop<e)→∀ H',Ext H H'→Q (failMV "stop") H') (hbad:(∀ ps,(k,ps)∉ R)→∀ H',Ext H H'→Q (failMV "ticket") H'):callW theP (n+6) false "_law_word" [.ref t,deedMV "leave" k stop] H Q X:=
 call_of (d:=f__law_word) rfl rfl (s_try (s_retw (w_call (by array_get_dec) (s_told_leave T hok (fun ps b e h1 h2 h3=>w_hand rfl (hstop ps b e h1 h2 h3)) fun nb=>w_hand rfl (hbad nb)))))
theorem s_word_reseat (T:Trn H Z t rd hl ra seats stops coming R g) {k z:Int} (hok:∀ ps b e c H',(k,ps)∈R→Goes seats b ps e→0≤b→e≤stops-1→Trn H' (fun a=>Z a∨a=c) t rd hl ra seats stops coming (rSet R k (anew g seats stops ps b e)) (marks (marks g ps none) (anew g seats stops ps b e) (some k))→
   Frm (Own t rd hl ra seats) H H'→H c=none→H' c=some (.lst ((anew g seats stops ps b e).map partMV))→Q (doneMV (.ref c)) H')
  (hbad:(∀ ps,(k,ps)∉ R)→∀ H',Ext H H'→Q (failMV "ticket") H'):callW theP (n+6) false "_law_word" [.ref t,deedMV "reseat" k z] H Q X:=
 call_of (d:=f__law_word) rfl rfl (s_try (s_retw (w_call (by array_get_dec) (s_told_reseat T hok fun nb=>w_hand rfl (hbad nb)))))
end
end Mine
end
section
namespace Mine
open PySem
noncomputable def KindOk (k:String):Prop:=k="sell"∨k="back"∨k="leave"∨k="reseat"
noncomputable def DeedOk (v:MV):Prop:=∃ k a b,KindOk k∧v=deedMV k a b
noncomputable def CellOk (v:MV):Prop:=(∃ c:Int,v=.int c)∨DeedOk v
section
variable {n:Nat}{hd:Bool}{H H':MH}{Q:MV→MH→Prop}{X:String→MH→Prop}{seats stops:Int}
theorem s_deed_tup {k:String}{a b:Int}{sa:MV}(hk:Q (deedMV k a b) H):callW theP (n+1) false "_law_deed_by" [deedMV k a b,sa,.int stops] H Q X:=
 call_of (d:=f__law_deed_by) rfl rfl (s_iteT (Ev.isi (v:=deedMV k a b) (by array_get_dec) .tt) (s_ret (Ev.var rfl) hk))
theorem w_pick {Δ:CallT}{ρ:Sto}{es:MEs}{i:ME}{vs:List MV}{k:Int}{Y:String→MH→Prop}(hes:Evs Δ hd es ρ H vs)(hi:∀ H',Ev Δ hd i ρ H' (.int k))(h0:0≤k)(h1:k<vs.length)(h:∀ v∈vs,∀ H',Ext H H'→Q v H'):wE Δ hd (.sub (.list es) i) ρ H Q Y:=by
 obtain ⟨v,hv,e⟩:=at_pick h0 h1
 exact w_sub (w_list hes fun c hc=>w_ev (hi _) ⟨v,.lst (.inl (MH.set_selfE _ _ _)) e,h v hv _ (Ext.new _ hc)⟩)
noncomputable def IsI (v:MV):Prop:=∃ i:Int,v=.int i
theorem isI_all {vs:List Int}:∀ v∈vs.map MV.int,IsI v:=fun v hv=>(List.mem_map.mp hv).imp fun _ z=>z.2.symm
theorem kind_of {k:String}(hk:k∈ ["back","leave","reseat"]):KindOk k:=by
 rcases List.mem_cons.mp hk with z|hk
 ·exact .inr (.inl z)
 ·rcases List.mem_cons.mp hk with z|hk
  ·exact .inr (.inr (.inl z))
  ·exact .inr (.inr (.inr (List.mem_singleton.mp hk)))
theorem s_deed_int {c:Int}{sa:Addr}{sold:List Int}(hs:2≤stops∧stops≤60)(hsa:H sa=some (.lst (sold.map .int)))(hl:sold.length≤5000)(h:∀ k a b H',KindOk k→Ext H H'→Q (deedMV k a b) H'):
  callW theP (n+3) false "_law_deed_by" [.int c,.ref sa,.int stops] H Q X:=by
 refine call_of (d:=f__law_deed_by) rfl rfl ?_
 refine s_skip (Ev.isi (by array_get_dec) .ti) ?_
 have f9:=fm_pos c (m:=9) (by decide)
 refine s_let (w_pick (vs:=[0,0,0,0,1,2,3,0,4].map .int) (by array_get_dec) (fun H'=>Ev.mod (by array_get_dec) Ev.int (by decide)) f9.1 f9.2 fun v hv H1 E1=>?_)
 obtain ⟨way,rfl⟩:=isI_all v hv
 have hsa1:=E1 _ _ hsa
 have sl:(sold.map MV.int).length≤5000:=by rw [List.length_map];exact hl
 refine s_let (w_bin (w_ev (by array_get_dec) (w_list (vs:=[0].map .int) (by array_get_dec) fun c1 hc1=>BinR.app (Ext.new _ hc1 _ _ hsa1) (MH.set_selfE _ _ _) ?_ fun c2 hc2=>?_)))
 ·rw [List.length_map (as:=[(0:Int)])];unfold bigList;show _+1≤_;lia
 generalize hH2:MH.set _ c2 _=H2
 have E2:Ext H H2:=hH2▸(E1.trans (Ext.new _ hc1)).trans (Ext.new _ hc2)
 have h2:H2 c2=some (.lst ((sold++ [0]).map .int)):=hH2▸(MH.set_selfE _ _ _).trans (by rw [List.map_append])
 clear hH2 hc1 hc2 E1 hsa1
 have hsa2:=E2 _ _ hsa
 have m1:maxI 1 ((sold.map MV.int).length:Int)≤((sold++ [0]).map MV.int).length∧0<maxI 1 ((sold.map MV.int).length:Int):=by
  rw [List.length_map,List.length_map,List.length_append,List.length_singleton];unfold maxI;split<;>lia
 refine s_let (w_sub (w_ev (by array_get_dec) (w_call (Evs.cons (by array_get_dec) (Evs.cons Ev.int (Evs.cons (Ev.max Ev.int (Ev.lenL (by array_get_dec) hsa2)) Evs.nil))) (s_mixed (by decide) m1.2 fun i H3 i0 i1 E3=>?_))))
 obtain ⟨v,hv,e⟩:=at_pick i0 (Int.lt_of_lt_of_le i1 m1.1)
 obtain ⟨tk,rfl⟩:=isI_all v hv
 refine ⟨.int tk,.lst (.inl (E3 _ _ h2)) e,?_⟩
 have E:=E2.trans E3
 have hsa3:=E _ _ hsa
 refine s_ite (by array_get_dec) (fun _=>s_ret (by array_get_dec) (h "back" _ _ _ (.inr (.inl rfl)) E)) (fun _=>s_done ?_)
 refine s_ite (by array_get_dec) (fun _=>?_) (fun _=>s_done ?_)
 ·refine s_retw (w_tup (w_cons (w_ev Ev.str (w_cons (w_ev (v:=.int tk) (by array_get_dec) (w_cons ?_))))))
  refine w_bin (w_call (by array_get_dec) (s_mixed (by decide) (by lia) fun i H4 i0 i1 E4=>?_))
  exact w_ev Ev.int (.sub (w_evs Evs.nil (h "leave" tk (i-1) _ (.inr (.inr (.inl rfl))) (E.trans E4))))
 refine s_ite (by array_get_dec) (fun _=>s_ret (by array_get_dec) (h "reseat" _ _ _ (.inr (.inr (.inr rfl))) E)) (fun _=>s_done ?_)
 refine s_ite (Ev.and (EvA.any (by array_get_dec) (EvA.one (Ev.cmp (ev_dm 9 2 (by array_get_dec) (by decide) (by decide) (by decide)) Ev.int .eqi)))) (fun _=>?_) (fun _=>s_done ?_)
 ·have f3:=fm_pos (c.fdiv 18) (m:=3) (by decide)
  have f4:=fm_pos (c.fdiv 54) (m:=4) (by decide)
  refine s_let (w_pick (vs:=["back","leave","reseat"].map fun k=> .str (Str.ofString k)) (by array_get_dec) (fun H'=>ev_dm 18 3 (by array_get_dec) (by decide) (by decide) (by decide)) f3.1 f3.2 fun v hv H4 E4=>?_)
  obtain ⟨k,hk,rfl⟩:=List.mem_map.mp hv
  have kk:KindOk k:=kind_of hk
  refine s_retw (w_tup (w_cons (w_ev (v:=.str (Str.ofString k)) (by array_get_dec) (w_cons (w_pick (vs:=[-1,((sold.map MV.int).length:Int)+400,tk+1,10^12].map .int) (Evs.cons (by array_get_dec) (Evs.cons (Ev.add (Ev.lenL (by array_get_dec) (E4 _ _ hsa3)) Ev.int) (Evs.cons (by array_get_dec) (Evs.cons ?_ Evs.nil)))) (fun H'=>ev_dm 54 4 (by array_get_dec) (by decide) (by decide) (by decide)) f4.1 f4.2 fun v hv H5 E5=>?_)))))
  ·exact fun Q X q=> .pow (by decide) (by decide) (by decide) q
  ·obtain ⟨i,rfl⟩:=isI_all v hv
   exact w_evs (vs:=[.int 1]) (by array_get_dec) (h k i 1 _ kk ((E.trans E4).trans E5))
 refine s_let (w_call (by array_get_dec) (s_stretch_by hs fun b e H4 _ _ _ E4=>?_))
 have f4:=fm_pos (c.fdiv 18) (m:=4) (by decide)
 have f2:=fm_pos (c.fdiv 72) (m:=2) (by decide)
 refine s_ite (by array_get_dec) (fun _=>?_) (fun _=>s_done (s_ret (by array_get_dec) (h "sell" _ _ _ (.inl rfl) (E.trans E4))))
 refine s_let (w_pick (vs:=[b,b-1,stops,10^12].map .int) (Evs.cons (by array_get_dec) (Evs.cons (by array_get_dec) (Evs.cons (by array_get_dec) (Evs.cons ?_ Evs.nil)))) (fun H'=>ev_dm 18 4 (by array_get_dec) (by decide) (by decide) (by decide)) f4.1 f4.2 fun v hv H5 E5=>?_)
 ·exact fun Q X q=> .pow (by decide) (by decide) (by decide) q
 obtain ⟨i,rfl⟩:=isI_all v hv
 refine s_retw (w_tup (w_cons (w_ev Ev.str (w_cons (w_pick (vs:=[b,-1].map .int) (by array_get_dec) (fun H'=>ev_dm 72 2 (by array_get_dec) (by decide) (by decide) (by decide)) f2.1 f2.2 fun v hv H6 E6=>?_)))))
 obtain ⟨j,rfl⟩:=isI_all v hv
 exact w_evs (vs:=[.int i]) (by array_get_dec) (h "sell" j i _ (.inl rfl) (((E.trans E4).trans E5).trans E6))
end
end Mine
end
section
namespace Mine
open PySem
section
variable {n:Nat}{hd:Bool}{H H':MH}{Q:MV→MH→Prop}{X:String→MH→Prop}{seats stops:Int}
structure Deeds (H H':MH)(c:Addr)(m:Int):Prop where
 ext:Ext H H'
 at_:∃ ls,H' c=some (.lst ls)∧(ls.length:Int)≤m∧∀ v∈ls,DeedOk v
theorem Deeds.app {Δ:CallT}{ρ:Sto}{e x:ME}{c:Addr}{m:Int}{k:String}{a b:Int}{Y:String→MH→Prop}(hc:H c=none)(D:Deeds H H' c m)(hm:m≤10000)(he:Ev Δ hd e ρ H' (.ref c))(hx:Ev Δ hd x ρ H' (deedMV k a b))(hk:KindOk k)(q:∀ H'',Deeds H H'' c (m+1)→Q .none H''):wE Δ hd (.bm e "append" (.cons x .nil)) ρ H' Q Y:=by
 obtain ⟨ls,h1,h2,h3⟩:=D.at_
 refine w_append he h1 hx (by unfold bigList;lia) (q _ ⟨D.ext.newer _ hc,_,MH.set_selfE _ _ _,by rw [List.length_append,List.length_singleton];lia,fun v hv=>?_⟩)
 rcases List.mem_append.mp hv with hv|hv
 ·exact h3 v hv
 ·exact List.mem_singleton.mp hv▸⟨k,a,b,hk,rfl⟩
theorem Deeds.le {c:Addr}{m m':Int}(D:Deeds H H' c m)(h:m≤m'):Deeds H H' c m':=⟨D.ext,D.at_.imp fun _ z=>⟨z.1,Int.le_trans z.2.1 h,z.2.2⟩⟩
inductive LaidA (seats stops far:Int)(c:Addr)(H:MH)(i:Int)(ρ:Sto)(H':MH):Prop
 |mk (h1:i≤stops-1)(h0:0≤i)(g1:ρ "_law_seats_here"=some (.int seats))(g2:ρ "_law_stops_here"=some (.int stops))(g3:ρ "_law_far"=some (.int far))(g4:ρ "_law_deeds"=some (.ref c))(D:Deeds H H' c (i*seats))
inductive LaidB (seats stops far i:Int)(c:Addr)(H:MH)(j:Int)(ρ:Sto)(H':MH):Prop
 |mk (h1:j≤seats)(g1:ρ "_law_seats_here"=some (.int seats))(g2:ρ "_law_stops_here"=some (.int stops))(g3:ρ "_law_far"=some (.int far))(g4:ρ "_law_deeds"=some (.ref c))(g5:ρ "_law_leg"=some (.int i))(D:Deeds H H' c (i*seats+j))
inductive LaidC (seats stops far:Int)(c:Addr)(H:MH)(j:Int)(ρ:Sto)(H':MH):Prop
 |mk (h0:0≤j)(h1:j≤60)(g1:ρ "_law_seats_here"=some (.int seats))(g2:ρ "_law_stops_here"=some (.int stops))(g3:ρ "_law_far"=some (.int far))(g4:ρ "_law_deeds"=some (.ref c))(D:Deeds H H' c (240+j))
theorem s_laid {far:Int}(p1:1≤seats∧seats≤60)(p2:2≤stops∧stops≤60)(hp:seats*stops<240)(h:∀ c H' ls,H c=none→Ext H H'→H' c=some (.lst ls)→ls.length≤303→(∀ v∈ls,DeedOk v)→Q (.ref c) H'):callW theP (n+1) false "_law_laid" [.int seats,.int stops,.int far] H Q X:=by
 have mono:∀ i,i≤stops-1→i*seats≤240:=fun i h1=>by
  have a:=Int.mul_le_mul_of_nonneg_right h1 (show (0:Int)≤seats by lia)
  rw [Int.sub_mul,Int.one_mul,Int.mul_comm stops] at a
  lia
 refine call_of (d:=f__law_laid) rfl rfl (s_let (w_list Evs.nil fun c hc=>?_))
 refine s_range (LaidA seats stops far c H) (Ev.range1 (by array_get_dec) (smallOf (by lia) (by lia))) ⟨by lia,by decide,rfl,rfl,rfl,rfl,Ext.new _ hc,[],MH.set_selfE _ _ _,by rw [Int.zero_mul];decide,fun _ h=>by cases h⟩ ?_ ?_
 ·rintro i ρ H1 k i0 i1 ⟨_,_,g1,g2,g3,g4,D⟩ hk
  refine s_range (LaidB seats stops far i c H) (Ev.range1 (by array_get_dec) (smallOf (by lia) (by lia))) ⟨by lia,by sizeOf_list_dec,by sizeOf_list_dec,by sizeOf_list_dec,by sizeOf_list_dec,by sizeOf_list_dec,D.le (Int.le_of_eq (Int.add_zero _).symm)⟩ ?_ ?_
  ·rintro j σ H2 kk j0 j1 ⟨_,f1,f2,f3,f4,f5,D⟩ hkk
   exact s_expr (Deeds.app (k:="sell") (a:=i) (b:=i+1) hc D (by have:=mono i (by lia);lia) (by array_get_dec) (by array_get_dec) (.inl rfl) fun H3 D=>s_done (hkk _ _ ⟨j1,by sizeOf_list_dec,by sizeOf_list_dec,by sizeOf_list_dec,by sizeOf_list_dec,by sizeOf_list_dec,D.le (Int.le_of_eq (Int.add_assoc _ _ _))⟩))
  ·rintro j σ H2 hj ⟨hj2,f1,f2,f3,f4,f5,D⟩
   exact s_done (hk _ _ ⟨by lia,by lia,f1,f2,f3,f4,D.le (by rw [Int.add_mul,Int.one_mul];lia)⟩)
 ·rintro i ρ H1 hi ⟨hi2,_,g1,g2,g3,g4,D⟩
  refine s_range (LaidC seats stops far c H) (Ev.range1 (by array_get_dec) (smallOf (by lia) (by lia))) ⟨by decide,by decide,g1,g2,g3,g4,D.le (by have:=mono i hi2;lia)⟩ ?_ ?_
  ·rintro j σ H2 kk j0 j1 ⟨_,_,f1,f2,f3,f4,D⟩ hkk
   refine s_expr (Deeds.app (k:="back") (b:=0) hc D (by lia) (by array_get_dec) (Ev.tup (Evs.cons Ev.str (Evs.cons (Ev.add (Ev.mul (by array_get_dec) (by array_get_dec) (.inl (by lia))) (Ev.mod (Ev.add (Ev.mul (by array_get_dec) (Ev.add Ev.int (Ev.mod (by array_get_dec) Ev.int (by decide))) (.inl (by lia))) (Ev.fdiv (by array_get_dec) Ev.int (by decide) (by decide))) (by array_get_dec) (by lia))) (Evs.cons Ev.int Evs.nil)))) (.inr (.inl rfl)) fun H3 D=>s_done (hkk _ _ ⟨by lia,by lia,by sizeOf_list_dec,by sizeOf_list_dec,by sizeOf_list_dec,by sizeOf_list_dec,D.le (Int.le_of_eq (Int.add_assoc _ _ _))⟩))
  ·rintro j σ H2 hj ⟨_,hj2,f1,f2,f3,f4,D⟩
   obtain ⟨ls,h1,h2,h3⟩:=D.at_
   refine s_assign (Ev.mul (by array_get_dec) (by array_get_dec) (.inl (by lia))) (s_retw (w_bin (w_ev (by array_get_dec) (w_list (vs:=[deedMV "sell" ((far.fdiv 9).fmod 2) (stops-1),deedMV "leave" (seats*(stops-1)) ((far.fdiv 18).fmod stops),deedMV "reseat" (seats*(stops-1)) 0]) ?_ fun c1 hc1=>BinR.app (Ext.new _ hc1 _ _ h1) (MH.set_selfE _ _ _) (by show _+3≤_;unfold bigList;lia) fun c2 hc2=>?_))))
   ·exact Evs.cons (Ev.tup (Evs.cons Ev.str (Evs.cons (ev_dm 9 2 (by array_get_dec) (by decide) (by decide) (by decide)) (Evs.cons (by array_get_dec) Evs.nil)))) (Evs.cons (Ev.tup (Evs.cons Ev.str (Evs.cons (by array_get_dec) (Evs.cons (Ev.mod (Ev.fdiv (by array_get_dec) Ev.int (by decide) (by decide)) (by array_get_dec) (by lia)) Evs.nil)))) (Evs.cons (by array_get_dec) Evs.nil))
   ·refine h c2 _ _ (none_of_ext (D.ext.trans (Ext.new _ hc1)) hc2) ((D.ext.trans (Ext.new _ hc1)).trans (Ext.new _ hc2)) (MH.set_selfE _ _ _) (by rw [List.length_append];show _+3≤_;lia) fun v hv=>?_
    rcases List.mem_append.mp hv with hv|hv
    ·exact h3 v hv
    ·rcases List.mem_cons.mp hv with rfl|hv
     ·exact ⟨_,_,_,.inl rfl,rfl⟩
     ·rcases List.mem_cons.mp hv with rfl|hv
      ·exact ⟨_,_,_,.inr (.inr (.inl rfl)),rfl⟩
      ·exact List.mem_singleton.mp hv▸⟨_,_,_,.inr (.inr (.inr rfl)),rfl⟩
theorem cut_cells {is:List Int}{lo hi:Option Int}(hl:is.length≤63):(∀ v∈cut (is.map MV.int) lo hi,CellOk v)∧(cut (is.map MV.int) lo hi).length≤63:=
 ⟨fun v hv=> .inl (isI_all v (List.mem_of_mem_drop (List.mem_of_mem_take hv))),Nat.le_trans cut_len (by rw [List.length_map];exact hl)⟩
theorem w_cells_app {Δ:CallT}{ρ:Sto}{e lo hi:ME}{Y:String→MH→Prop}{script:Addr}{is:List Int}{a b:Int}(hH:H script=some (.ro (is.map .int)))(hl:is.length≤63)(hs:ρ "_law_script"=some (.ref script))(hlo:lo=.int a)(hhi:hi=.int b)
  (h:∀ c H' ls,H c=none→Ext H H'→H' c=some (.lst ls)→ls.length≤366→(∀ v∈ls,CellOk v)→Q (.ref c) H') (he:∀ Q',(∀ c H' ls,Ext H H'→H' c=some (.lst ls)→ls.length≤303→(∀ v∈ls,CellOk v)→Q' (.ref c) H')→wE Δ false e ρ H Q' Y):wE Δ false (.bin .add e (.slice (.var "_law_script") lo hi)) ρ H Q Y:=by
 subst hlo hhi
 refine w_bin (he _ fun c H' ls E hc hn hv=>?_)
 obtain ⟨k1,k2⟩:=cut_cells (lo:=some a) (hi:=some b) hl
 refine w_slice (Ev.var hs) (.inr (E _ _ hH)) Ev.int Ev.int .int .int fun c1 hc1=>BinR.app (Ext.new _ hc1 _ _ hc) (MH.set_selfE _ _ _) (by unfold bigList;lia) fun c2 hc2=>h _ _ _ (none_of_ext (E.trans (Ext.new _ hc1)) hc2) ((E.trans (Ext.new _ hc1)).trans (Ext.new _ hc2)) (MH.set_selfE _ _ _) (by rw [List.length_append];lia) fun v hv'=>?_
 rcases List.mem_append.mp hv' with z|z
 ·exact hv v z
 ·exact k1 v z
theorem w_int_comp {Δ:CallT}{ρ:Sto}{e it:ME}{x:String}{f:Int→Int}{m:Int}{Y:String→MH→Prop}(hit:Ev Δ false it ρ H (.rng 0 m 1))(hm:m≤150)(he:∀ i,0≤i→i<m→Ev Δ false e (ρ.set x (.int i)) H (.int (f i)))(h:∀ c H' ls,Ext H H'→H' c=some (.lst ls)→ls.length≤303→(∀ v∈ls,CellOk v)→Q (.ref c) H'):wE Δ false (.comp e x it (.bool true)) ρ H Q Y:=
 w_compR (fun _=>true) (fun i=> .int (f i)) hit (by lia) (fun _ _ _=>Ev.bool) (fun i h0 h1 _=>he i h0 h1) fun c hc=>h c _ _ (Ext.new _ hc) (MH.set_selfE _ _ _) (by rw [filter_true,List.length_map,rangeL_len1];lia) fun v hv=> .inl ((List.mem_map.mp hv).imp' f fun _ z=>z.2.symm)
theorem s_cells {script:Addr}{is:List Int}(hH:H script=some (.ro (is.map .int)))(hlen:is.length≤63)(h:∀ c H' ls,H c=none→Ext H H'→H' c=some (.lst ls)→ls.length≤366→(∀ v∈ls,CellOk v)→Q (.ref c) H'):callW theP (n+2) false "_law_cells" [.ref script] H Q X:=by
 refine call_of (d:=f__law_cells) rfl rfl ?_
 refine s_let (w_call (by array_get_dec) (s_cell_at hH (by decide) fun far=>?_))
 refine s_let (w_callw (w_cons (w_call (by array_get_dec) (s_cell_at hH (by decide) fun c0=>w_evs Evs.nil (s_seats fun seats q1 q2=>?_)))))
 refine s_let (w_callw (w_cons (w_call (by array_get_dec) (s_cell_at hH (by decide) fun c1=>w_evs Evs.nil (s_stops fun stops q3 q4=>?_)))))
 have mk:mulOk seats stops:=.inl (by lia)
 have f9:=fm_pos (far.fdiv 8) (m:=90) (by decide)
 have rg:∀{ρ:Sto} {H':MH},ρ "_law_far"=some (.int far)→Ev (callW theP (n+1)) false (.bi "range" (.cons (.bin .add (.int 60) (.bin .mod (.bin .fdiv (.var "_law_far") (.int 8)) (.int 90))) .nil)) ρ H' (.rng 0 (60+(far.fdiv 8).fmod 90) 1):=fun hf=>Ev.range1 (Ev.add Ev.int (ev_dm 8 90 (Ev.var hf) (by decide) (by decide) (by decide))) (smallOf (by lia) (by lia))
 refine s_ite (Ev.and (EvA.any (Ev.cmp (Ev.mod (by array_get_dec) Ev.int (by decide)) Ev.int .eqi) (EvA.one (Ev.cmp (Ev.mul (by array_get_dec) (by array_get_dec) mk) Ev.int .lt)))) (fun z=>s_retw (w_cells_app hH hlen rfl rfl rfl h fun Q' q=>w_call (Evs.cons (by array_get_dec) (Evs.cons (by array_get_dec) (Evs.cons (Ev.fdiv (by array_get_dec) Ev.int (by decide) (by decide)) Evs.nil))) (s_laid ⟨q1,q2⟩ ⟨q3,q4⟩ (of_decide_eq_true (Bool.and_eq_true_iff.mp z).2) fun c H' ls _ E h1 h2 h3=>q c H' ls E h1 h2 fun v hv=> .inr (h3 v hv)))) (fun _=>s_done ?_)
 refine s_ite (Ev.and (EvA.any (Ev.cmp (Ev.mod (by array_get_dec) Ev.int (by decide)) Ev.int .eqi) (EvA.one (Ev.cmp (Ev.mul (by array_get_dec) (by array_get_dec) mk) Ev.int .lt)))) (fun _=>s_retw (w_cells_app hH hlen rfl rfl rfl h fun Q' q=>w_int_comp (rg rfl) (by lia) (fun i h0 h1=>Ev.add (Ev.fdiv (by array_get_dec) Ev.int (by decide) (by decide)) (Ev.mul Ev.int (by array_get_dec) (.inl (by decide)))) q)) (fun _=>s_done ?_)
 refine s_ite (Ev.cmp (Ev.mod (by array_get_dec) Ev.int (by decide)) Ev.int .eqi) (fun _=>s_retw (w_cells_app hH hlen rfl rfl rfl h fun Q' q=>w_int_comp (rg rfl) (by lia) (fun i h0 h1=>Ev.mul Ev.int (Ev.add (Ev.fdiv (by array_get_dec) Ev.int (by decide) (by decide)) (Ev.mul Ev.int (by array_get_dec) (.inl (by decide)))) (.inl (by decide))) q)) (fun _=>s_done ?_)
 obtain ⟨k1,k2⟩:=cut_cells (lo:=some 3) (hi:=some 99) hlen
 exact s_retw (w_slice (by array_get_dec) (.inr hH) Ev.int Ev.int .int .int fun c hc=>h _ _ _ hc (Ext.new _ hc) (MH.set_selfE _ _ _) (by lia) k1)
end
end Mine
end
section
namespace Mine
open PySem
section
variable {n:Nat}{hd:Bool}{H H':MH}{Z:Addr→Prop}{Q:MV→MH→Prop}{X:String→MH→Prop}{t rd hl ro:Addr}{ra rb:Int→Addr}{seats stops coming:Int}{R:Rides}{g:Grid}
variable {Δ:CallT}{ρ:Sto}{Y:String→MH→Prop}
theorem w_and2 {e f:ME}(h:wE Δ hd e ρ H (asTruth fun b H₁=>if b=true then wE Δ hd f ρ H₁ Q Y else Q (.bool false) H₁) Y):wE Δ hd (.and (.cons e (.cons f .nil))) ρ H Q Y:=h
theorem w_or2 {e f:ME}(h:wE Δ hd e ρ H (asTruth fun b H₁=>if b=true then Q (.bool true) H₁ else wE Δ hd f ρ H₁ Q Y) Y):wE Δ hd (.or (.cons e (.cons f .nil))) ρ H Q Y:=h
theorem w_cmpw {l r:ME}{op:COp}(h:wE Δ hd l ρ H (fun a H₁=>wE Δ hd r ρ H₁ (fun b H₂=>∃ c,CmpR H₂ op a b c∧Q (.bool c) H₂) Y) Y):wE Δ hd (.cmp l (.cons op r .nil)) ρ H Q Y:=h
theorem Ev.call {f:String}{es:MEs}{vs:List MV}{v:MV}(he:Evs Δ hd es ρ H vs)(h:∀(Q:MV→MH→Prop) (X:String→MH→Prop),Q v H→Δ hd f vs H Q X):Ev Δ hd (.call f es) ρ H v:=fun Q X q=>he _ _ (h _ _ q)
theorem rng_eq {n:Int}:rangeL 0 n 1=(List.range n.toNat).map fun (k:Nat)=>(k:Int):=by
 have h:=rangeL_len1 (a:=0) (b:=n)
 rw [Int.sub_zero] at h
 have h2:(rangeL 0 n 1).length=(Builtin.Range.rangeSize 0 n 1).toNat:=by rw [rangeL,List.length_map,List.length_range]
 rw [rangeL,←h2,h]
 exact List.map_congr_left fun k _=>by rw [Int.one_mul,Int.zero_add]
theorem refs_rng {n:Int}:refsOf ra n.toNat=(rangeL 0 n 1).map fun i=> .ref (ra i):=by rw [rng_eq,List.map_map];rfl
theorem comp_ix {α:Type}{src:MV}{vs₀:List MV}{cond:MV→MH→(Bool→MH→Prop)→Prop}{elt:MV→MH→(MV→MH→Prop)→Prop}(F f:α→MV)(he:Elems H src vs₀)(hc:∀ v k,k true H→cond v H k)
  :∀(l:List α) (acc:List MV),(∀ i∈l,∀ k,k (f i) H→elt (F i) H k)→acc.length+l.length≤bigList→New H Q (acc++l.map f)→compW src vs₀ cond elt Q (l.map F) acc H:=by
 intro l
 induction l with
 |nil=>intro acc _ _ q c hc;have:=q c hc;rwa [List.map_nil,List.append_nil] at this
 |cons i l ih=>
  intro acc hf hl q
  rw [List.length_cons] at hl
  exact ⟨Nat.lt_of_lt_of_le (Nat.lt_add_of_pos_right (Nat.succ_pos _)) hl,hc _ _ (hf i (.head _) _ ⟨he,ih _ (fun w hw=>hf w (.tail _ hw)) (by rw [List.length_append,List.length_singleton];lia) (by rw [List.append_assoc];exact q)⟩)⟩
theorem w_compG {elt it:ME}{x:String}(G:Gd H ro rb seats stops g)(f:Int→MV)(hit:Ev Δ false it ρ H (.ref ro))(hf:∀ i,0≤i→i<seats→Ev Δ false elt (ρ.set x (.ref (rb i))) H (f i))(q:New H Q ((rangeL 0 seats 1).map f)):wE Δ false (.comp elt x it (.bool true)) ρ H Q Y:=by
 have p:=G.hseats
 refine ⟨rfl,hit _ _ ⟨_,.lst (.inl (refs_rng▸G.hl_)),comp_ix (fun i=> .ref (rb i)) f (.lst (.inl (refs_rng▸G.hl_))) (fun _ _ h=>h) _ _ (fun i hi k hk=>?_) ?_ q⟩⟩
 ·have:=rangeL_mem (by decide) hi
  exact hf i this.1 this.2 _ _ hk
 ·rw [List.length_nil,rangeL_len1];unfold bigList;lia
theorem part_dr (p:Int×Int×Int):DR H 8 (partMV p) (.tuple [.int p.1,.int p.2.1,.int p.2.2]):=⟨_,rfl,.cons rfl (.cons rfl (.cons rfl .nil))⟩
theorem part_ne (p:Int×Int×Int):CmpR H .ne (partMV p) (partMV p) false:=by
 have:=CmpR.ned (part_dr (H:=H) p) (part_dr p)
 rwa [PySem.SeqAt.eqv_refl _ rfl] at this
theorem part_at {ps:List Part}{i:Int}(h0:0≤i)(h1:i<ps.length):∃ p,atIdx (ps.map partMV) i=some (partMV p):=by
 have hh:i.toNat<ps.length:=(Int.toNat_lt h0).mpr h1
 exact ⟨ps[i.toNat],atIdx_nn h0 (by rw [List.getElem?_map,List.getElem?_eq_getElem hh];rfl)⟩
theorem it_n {A B:MH→Prop}(z:B H):asTruth (fun b H₁=>asTruth (fun c H₁=>if c=true then A H₁ else B H₁) (.bool !b) H₁) (.bool true) H:=z
theorem Gd.ext (G:Gd H ro rb seats stops g)(e:Ext H H'):Gd H' ro rb seats stops g:=G.keep fun a o _=>e a o
theorem keys_set {k:Int}{qs:List Part}:(rSet R k qs).map Prod.fst=R.map Prod.fst:=by
 unfold rSet
 rw [List.map_map]
 refine List.map_congr_left fun x _=>?_
 show (if x.1=k then (k,qs) else x).1=x.1
 by_cases q:x.1=k
 ·rw [if_pos q];exact q.symm
 ·rw [if_neg q]
theorem keys_del {k:Int}:∀{R:Rides},R.Pairwise (fun x y=>x.1<y.1)→(R.map Prod.fst).erase k=(rDel R k).map Prod.fst
 | [],_=>rfl
 |x::R,h=>by
  obtain ⟨h1,h2⟩:=List.pairwise_cons.mp h
  unfold rDel
  rw [List.map_cons]
  rw [List.filter_cons]
  by_cases q:x.1=k
  ·have e:R.filter (fun x=>decide (x.1≠k))=R:=List.filter_eq_self.mpr fun y hy=>decide_eq_true fun (z:y.1=k)=>Int.ne_of_lt (h1 y hy) (q.trans z.symm)
   rw [if_neg (by rw [decide_eq_false (fun z=>z q)];exact Bool.noConfusion),q,List.erase_cons_head,e]
  ·rw [if_pos (decide_eq_true q),List.map_cons,List.erase_cons_tail (by rw [beq_false_of_ne q];exact Bool.noConfusion),keys_del h2];rfl
theorem mem_keys {k:Int}(h:k∈R.map Prod.fst):∃ ps,(k,ps)∈R:=by
 obtain ⟨x,hx,rfl⟩:=List.mem_map.mp h
 exact ⟨x.2,hx⟩
theorem Frm.mono {A B:Addr→Prop}(f:Frm A H H')(h:∀ a,A a→B a):Frm B H H':=fun a o n=>f a o fun z=>n (h a z)
end
section
variable {n:Nat}{hd:Bool}{H H':MH}{Z:Addr→Prop}{Q:MV→MH→Prop}{X:String→MH→Prop}{t rd hl ro:Addr}{ra rb:Int→Addr}{seats stops coming:Int}{R:Rides}{so:Addr}{g:Grid}
variable {Δ:CallT}{ρ:Sto}{N:Sto→MH→Prop}{RR:MV→MH→Prop}{Y:String→Sto→MH→Prop}{Y':String→MH→Prop}
theorem ev_kindf {x:ME}{k s:String}{a b:Int}(h:k≠s)(hx:Ev Δ hd x ρ H (deedMV k a b)):Ev Δ hd (.cmp (.sub x (.int 0)) (.cons .eq (.str s) .nil)) ρ H (.bool false):=by have:=ev_kind (s:=s) hx;rwa [decide_eq_false h] at this
theorem w_mk {es:MEs}{vs:List MV}(he:Evs Δ hd es ρ H vs)(h:∀ a,H a=none→Δ hd "__init__" (.ref a::vs) (H.set a (.inst [])) (fun r H₂=>r=.none∧Q (.ref a) H₂) Y'):wE Δ hd (.mk es) ρ H Q Y':=he _ _ h
theorem word_ok:∀ c∈excNames,PyData.strOk (Str.ofString (wordOf c))=true:=by decide+kernel
theorem s_deed {v:MV}{sold:List Int}(hv:CellOk v)(hs:2≤stops∧stops≤60)(hsa:H so=some (.lst (sold.map .int)))(hl:sold.length≤5000)(h:∀ k a b H',KindOk k→Ext H H'→Q (deedMV k a b) H'):callW theP (n+3) false "_law_deed_by" [v,.ref so,.int stops] H Q X:=by
 rcases hv with ⟨c,rfl⟩|⟨k,a,b,hk,rfl⟩
 ·exact s_deed_int hs hsa hl h
 ·exact s_deed_tup (h k a b H hk (.refl _))
end
end Mine
end
section
namespace Mine
open PySem
theorem idx_ne {x y:Int}{l:List Int}(h:y≠x):(y::l).idxOf x=l.idxOf x+1:=by rw [List.idxOf_cons,beq_false_of_ne h];rfl
theorem best_idx {g:Grid}{stops e at_:Int}:∀ k:Nat,(bestN g stops e at_ k).2∈(List.range (k+1)).map (fun (i:Nat)=>minI (lead g stops i at_) e)∧(∀ x∈(List.range (k+1)).map (fun (i:Nat)=>minI (lead g stops i at_) e),x≤(bestN g stops e at_ k).2)∧(((List.range (k+1)).map (fun (i:Nat)=>minI (lead g stops i at_) e)).idxOf (bestN g stops e at_ k).2:Int)=(bestN g stops e at_ k).1
 |0=>⟨.head _,fun x hx=>by obtain rfl:=List.mem_singleton.mp hx;exact Int.le_refl _,by show ((List.idxOf (minI (lead g stops 0 at_) e) [minI (lead g stops 0 at_) e]:Nat):Int)=0;rw [List.idxOf_cons_self];rfl⟩
 |k+1=>by
  obtain ⟨h1,h2,h3⟩:=best_idx (g:=g) (stops:=stops) (e:=e) (at_:=at_) k
  rw [List.range_succ,List.map_append,List.map_cons,List.map_nil]
  have eb:bestN g stops e at_ (k+1)=if (bestN g stops e at_ k).2<minI (lead g stops ((k:Int)+1) at_) e then ((k:Int)+1,minI (lead g stops ((k:Int)+1) at_) e) else bestN g stops e at_ k:=rfl
  rw [Int.natCast_succ]
  by_cases q:(bestN g stops e at_ k).2<minI (lead g stops ((k:Int)+1) at_) e
  ·rw [eb,if_pos q]
   refine ⟨List.mem_append_right _ (.head _),fun x hx=>?_,?_⟩
   ·rcases List.mem_append.mp hx with hx|hx
    ·exact Int.le_of_lt (Int.lt_of_le_of_lt (h2 x hx) q)
    ·obtain rfl:=List.mem_singleton.mp hx;exact Int.le_refl _
   ·rw [List.idxOf_append,if_neg fun z=>Int.lt_irrefl _ (Int.lt_of_le_of_lt (h2 _ z) q),List.idxOf_cons_self,List.length_map,List.length_range,Nat.zero_add];rfl
  ·rw [eb,if_neg q]
   refine ⟨List.mem_append_left _ h1,fun x hx=>?_,?_⟩
   ·rcases List.mem_append.mp hx with hx|hx
    ·exact h2 x hx
    ·obtain rfl:=List.mem_singleton.mp hx;exact Int.not_lt.mp q
   ·rw [List.idxOf_append,if_pos h1];exact h3
noncomputable def leadsL (g:Grid)(seats stops e at_:Int):List Int:=(rangeL 0 seats 1).map fun i=>minI (lead g stops i at_) e
theorem leads_best {g:Grid}{seats stops e at_:Int}(hs:1≤seats):(bestN g stops e at_ (seats-1).toNat).2∈leadsL g seats stops e at_∧(∀ x∈leadsL g seats stops e at_,x≤(bestN g stops e at_ (seats-1).toNat).2)∧((leadsL g seats stops e at_).idxOf (bestN g stops e at_ (seats-1).toNat).2:Int)=(bestN g stops e at_ (seats-1).toNat).1:=by
 have e1:seats.toNat=(seats-1).toNat+1:=tnT hs
 have e2:leadsL g seats stops e at_=(List.range ((seats-1).toNat+1)).map (fun (i:Nat)=>minI (lead g stops i at_) e):=by
  unfold leadsL;rw [rng_eq,List.map_map,e1];rfl
 rw [e2]
 exact best_idx _
theorem dict_at {k:Int}{v:MV}:∀{L:List (Int×MV)},dGet L k=some v→(L.map Prod.snd)[(L.map Prod.fst).idxOf k]? =some v
 | [],h=>by cases h
 |(y,w)::L,h=>by
  rw [List.map_cons,List.map_cons]
  by_cases q:k=y
  ·subst q
   rw [List.idxOf_cons_self]
   exact (if_pos rfl).symm.trans h
  ·have h':dGet L k=some v:=(if_neg q).symm.trans h
   rw [idx_ne (Ne.symm q),List.getElem?_cons_succ]
   exact dict_at h'
theorem dict_in {k:Int}{v:MV}:∀{L:List (Int×MV)},dGet L k=some v→L.any (fun e=>decide (e.1=k))=true
 | [],h=>by cases h
 |(y,w)::L,h=>by
  rw [List.any_cons]
  by_cases q:k=y
  ·rw [decide_eq_true q.symm];rfl
  ·rw [dict_in ((if_neg q).symm.trans h),Bool.or_true]
theorem set_same_snd {k:Int}{w:MV}:∀{L:List (Int×MV)},k ∉ L.map Prod.fst→L.map (fun e=>if e.1=k then (e.1,w) else e)=L
 | [],_=>rfl
 |(y,u)::L,h=>by
  rw [List.map_cons,if_neg fun (q:y=k)=>h (q▸ .head _),set_same_snd fun z=>h (.tail _ z)]
theorem dict_set' {k:Int}{v w:MV}:∀{L:List (Int×MV)},(L.map Prod.fst).Nodup→dGet L k=some v→(L.map Prod.snd).set ((L.map Prod.fst).idxOf k) w=(L.map (fun e=>if e.1=k then (e.1,w) else e)).map Prod.snd
 | [],_,h=>by cases h
 |(y,u)::L,hn,h=>by
  rw [List.map_cons] at hn
  obtain ⟨h1,h2⟩:=List.nodup_cons.mp hn
  rw [List.map_cons,List.map_cons,List.map_cons,List.map_cons]
  by_cases q:k=y
  ·subst q
   rw [List.idxOf_cons_self,List.set_cons_zero,if_pos rfl,set_same_snd h1]
  ·rw [idx_ne (Ne.symm q),List.set_cons_succ,if_neg (Ne.symm q),dict_set' h2 ((if_neg q).symm.trans h)]
theorem dict_set {k:Int}{v w:MV}{L:List (Int×MV)}(hn:(L.map Prod.fst).Nodup)(h:dGet L k=some v):(L.map Prod.snd).set ((L.map Prod.fst).idxOf k) w=(dSet L k w).map Prod.snd:=by
 unfold dSet;rw [if_pos (dict_in h)];exact dict_set' hn h
theorem del_same_snd {k:Int}{L:List (Int×MV)}(h:k ∉ L.map Prod.fst):dDel L k=L:=List.filter_eq_self.mpr fun e he=>decide_eq_true fun q=>h (q▸List.mem_map.mpr ⟨e,he,rfl⟩)
theorem dict_del {k:Int}{v:MV}:∀{L:List (Int×MV)},(L.map Prod.fst).Nodup→dGet L k=some v→(L.map Prod.snd).eraseIdx ((L.map Prod.fst).idxOf k)=(dDel L k).map Prod.snd
 | [],_,h=>by cases h
 |(y,u)::L,hn,h=>by
  rw [List.map_cons] at hn
  obtain ⟨h1,h2⟩:=List.nodup_cons.mp hn
  rw [List.map_cons,List.map_cons]
  by_cases q:k=y
  ·subst q
   have e1:dDel ((k,u)::L) k=dDel L k:=List.filter_cons_of_neg (by rw [decide_eq_false (fun z=>z rfl)];exact Bool.noConfusion)
   rw [List.idxOf_cons_self,List.eraseIdx_cons_zero,e1,del_same_snd h1]
  ·have e1:dDel ((y,u)::L) k=(y,u)::dDel L k:=List.filter_cons_of_pos (decide_eq_true (Ne.symm q))
   rw [idx_ne (Ne.symm q),List.eraseIdx_cons_succ,e1,List.map_cons,dict_del h2 ((if_neg q).symm.trans h)]
theorem erase_ix {k:Int}:∀{l:List Int},(l.map MV.int).eraseIdx (l.idxOf k)=(l.erase k).map MV.int
 | []=>rfl
 |y::l=>by
  by_cases q:k=y
  ·subst q;rw [List.idxOf_cons_self,List.map_cons,List.eraseIdx_cons_zero,List.erase_cons_head]
  ·rw [idx_ne (Ne.symm q),List.map_cons,List.eraseIdx_cons_succ,List.erase_cons_tail (by rw [beq_false_of_ne (Ne.symm q)];exact Bool.noConfusion),List.map_cons,erase_ix]
theorem RidesAt.fsts {H:MH}{own:Addr→Prop}{rs:List (Int×MV)}{R:Rides}(x:RidesAt H own rs R):rs.map Prod.fst=R.map Prod.fst:=by
 induction x with
 |nil=>rfl
 |cons _ _ _ ih=>exact congrArg _ ih
theorem asc_nodup {R:Rides}(h:R.Pairwise fun x y=>x.1<y.1):(R.map Prod.fst).Nodup:=List.pairwise_map.mpr (h.imp fun q=>Int.ne_of_lt q)
theorem asc_uniq {R:Rides}(h:R.Pairwise fun x y=>x.1<y.1){k:Int}{ps qs:List Part}(h1:(k,ps)∈R)(h2:(k,qs)∈R):ps=qs:=by
 induction R with
 |nil=>cases h1
 |cons x R ih=>
  obtain ⟨a1,a2⟩:=List.pairwise_cons.mp h
  rcases List.mem_cons.mp h1 with e1|h1
  ·rcases List.mem_cons.mp h2 with e2|h2
   ·exact (Prod.mk.inj (e1.trans e2.symm)).2
   ·exact absurd (a1 _ h2) (by rw [←e1];exact Int.lt_irrefl _)
  ·rcases List.mem_cons.mp h2 with e2|h2
   ·exact absurd (a1 _ h1) (by rw [←e2];exact Int.lt_irrefl _)
   ·exact ih a2 h1 h2
theorem goes_uniq {seats b e b' e':Int}{ps:List Part}(G:Goes seats b ps e)(G':Goes seats b' ps e'):b=b'∧e=e':=by
 obtain ⟨p,h1,h2⟩:=goes_first G
 obtain ⟨p',h1',h2'⟩:=goes_first G'
 obtain ⟨q,k1,k2⟩:=goes_last G
 obtain ⟨q',k1',k2'⟩:=goes_last G'
 obtain rfl:=Option.some.inj (h1.symm.trans h1')
 obtain rfl:=Option.some.inj (k1.symm.trans k1')
 exact ⟨h2.symm.trans h2',k2.symm.trans k2'⟩
end Mine
end
section
namespace Mine
open PySem
section
variable {n:Nat}{hd:Bool}{H H':MH}{O:Addr→Prop}{Q:MV→MH→Prop}{X:String→MH→Prop}{wd ro so rw:Addr}{rb:Int→Addr}{seats stops coming:Int}{R:Rides}{g:Grid}
variable {Δ:CallT}{ρ:Sto}{Y:String→MH→Prop}
theorem Ev.maxL {e:ME}{a:Addr}{is:List Int}{m:Int}(he:Ev Δ false e ρ H (.ref a))(ha:H a=some (.lst (is.map .int)))(hm:m∈is)(hx:∀ i∈is,i≤m):Ev Δ false (.bi "max" (.cons e .nil)) ρ H (.int m):=fun Q X q=>he _ _ (.maxL rfl (.inl ha) hm hx q)
theorem Ev.index {e x:ME}{a:Addr}{is:List Int}{i j:Int}(he:Ev Δ hd e ρ H (.ref a))(ha:H a=some (.lst (is.map .int)))(hx:Ev Δ hd x ρ H (.int i))(hi:i∈is)(hj:(is.idxOf i:Int)=j):Ev Δ hd (.bm e "index" (.cons x .nil)) ρ H (.int j):=fun Q X q=>he _ _ ⟨1,.lst ha rfl,hx _ _ ⟨.lst ha rfl,.index ha hi (hj▸q)⟩⟩
theorem w_lpop {e x:ME}{a:Addr}{l:List MV}{i:Int}{v:MV}(he:Ev Δ hd e ρ H (.ref a))(ha:H a=some (.lst l))(hx:Ev Δ hd x ρ H (.int i))(h0:0≤i)(hg:l[i.toNat]? =some v)(h:Q v (H.set a (.lst (l.eraseIdx i.toNat)))):wE Δ hd (.bm e "pop" (.cons x .nil)) ρ H Q Y:=
 he _ _ ⟨1,.lst ha rfl,hx _ _ ⟨.lst ha rfl,.lpop ha h0 hg h⟩⟩
theorem s_reach {a:Addr}{i stop:Int}(ha:H a=some (.lst (rowOf g i (stops-1).toNat)))(p2:2≤stops∧stops≤60)(h0:0≤stop)(h:Q (.int (lead g stops i stop)) H):callW theP (n+1) hd "_law_reach" [.ref a,.int stop] H Q X:=by
 refine call_of (d:=f__law_reach) rfl rfl ?_
 have len:((rowOf g i (stops-1).toNat).length:Int)=stops-1:=by rw [rowOf_length];exact tnP (Int.le_trans (by decide) p2.1)
 have le:∀{ρ:Sto},ρ "_law_row"=some (.ref a)→Ev (callW theP n) hd (.bi "len" (.cons (.var "_law_row") .nil)) ρ H (.int (stops-1)):=fun h=>len▸Ev.lenL (Ev.var h) ha
 refine s_while (fun k ρ H'=>∃ stop,H'=H∧ρ "_law_row"=some (.ref a)∧ρ "_law_stop"=some (.int stop)∧0≤stop∧k=(stops-1-stop).toNat∧Q (.int (lead g stops i stop)) H) ?_ (n:=(stops-1-stop).toNat) ⟨stop,rfl,rfl,rfl,h0,rfl,h⟩
 rintro k ρ H' ⟨stop,rfl,g1,g2,h2,rfl,h⟩
 by_cases q:stop<stops-1
 ·have a5:=rowOf_at (g:=g) (i:=i) h2 q
  rw [lead_go q] at h
  refine ⟨(g i stop).isNone,Ev.and (EvA.t (decide_eq_true q▸Ev.cmp (by array_get_dec) (le g1) .lt) (EvA.one (by rw [←isNil_mvo];array_get_dec))),fun c kk hkk=>?_,fun c=>?_⟩
  ·rw [if_pos c] at h
   exact s_assign (by array_get_dec) (s_done (hkk _ _ _ (tn_lt (Int.lt_succ stop) q) ⟨stop+1,rfl,Sto.gn rfl g1,Sto.gets _ _ _,Int.le_add_one h2,rfl,h⟩))
  ·rw [if_neg (by rw [c];exact Bool.noConfusion)] at h
   exact s_ret (by array_get_dec) h
 ·rw [lead_end q] at h
  exact ⟨false,Ev.and (EvA.f (decide_eq_false q▸Ev.cmp (by array_get_dec) (le g1) .lt)),fun c=>Bool.noConfusion c,fun c=>s_ret (by array_get_dec) h⟩
theorem s_lfull (G:Gd H ro rb seats stops g){b e:Int}(h0:0≤b)(h1:b<e)(h2:e<stops)(h:∀ H',Ext H H'→Q (mvo (blockF g seats (e-b).toNat b)) H'):callW theP (n+1) false "_law_full" [.ref ro,.int b,.int e] H Q X:=by
 refine call_of (d:=f__law_full) rfl rfl ?_
 have p2:=G.hstops
 refine s_range (fun i ρ H'=>ρ "_law_rows_here"=some (.ref ro)∧Ext H H'∧blockF g seats (e-b).toNat b=blockF g seats (e-i).toNat i) (Ev.range2 (by array_get_dec) (by array_get_dec) (smallOf h0 (by lia)) (smallOf (by lia) (by lia))) ⟨rfl,.refl _,rfl⟩ ?_ ?_
 ·rintro i ρ H' k hi1 hi2 ⟨g1,E,hb⟩ hk
  have G1:=G.ext E
  have i0:0≤i:=Int.le_trans h0 hi1
  refine s_itew (w_bi1 (w_compG G1 (fun j=> .bool (g j i).isSome) (by array_get_dec) (fun j j0 j1=>?_) fun c hc=>b_all ?_))
  ·have a3:=G1.row j j0 j1
   have a5:=rowOf_at (g:=g) (i:=j) (m:=stops-1) i0 (by lia)
   rw [←not_nil_mvo]
   array_get_dec
  ·rw [block_go hi2] at hb
   show if full g seats i=true then _ else _
   have E2:=E.trans (Ext.new (.lst ((rangeL 0 seats 1).map fun j=>MV.bool (g j i).isSome)) hc)
   by_cases c:full g seats i=true
   ·rw [if_pos c] at hb ⊢
    have:=h _ E2
    rw [hb] at this
    exact s_ret (by array_get_dec) this
   ·rw [if_neg c] at hb ⊢
    exact s_done (s_done (hk _ _ ⟨Sto.gn rfl g1,E2,hb⟩))
 ·rintro i ρ H' hi ⟨_,E,hb⟩
  have:=h _ E
  rw [hb,block_end hi] at this
  exact s_ret Ev.none this
theorem s_lfound (G:Gd H ro rb seats stops g){b e:Int}(h0:0≤b)(h1:b<e)(h2:e<stops)(hfree:∀ leg,b≤leg→leg<e→∃ seat,0≤seat∧seat<seats∧g seat leg=none)
  (h:∀ c H',H c=none→Ext H H'→H' c=some (.lst ((offer g seats stops b e).map partMV))→Q (.ref c) H'):callW theP (n+2) false "_law_found" [.ref ro,.int b,.int e] H Q X:=by
 refine call_of (d:=f__law_found) rfl rfl ?_
 have p2:=G.hstops
 have p1:=G.hseats
 refine s_let (w_list Evs.nil fun c hc=>?_)
 refine s_while (FoundI "_law_rows_here" "_law_end" "_law_found_here" "_law_begin" (.ref ro) c g seats stops b e H)
  ?_ (n:=(e-b).toNat) ⟨b,[],_,rfl,rfl,rfl,rfl,Int.le_refl _,Int.le_of_lt h1,rfl,Ext.new _ hc,MH.set_selfE _ _ _,Int.le_of_eq (Int.sub_self b).symm,Nat.le_refl _,rfl⟩
 rintro k ρ H' ⟨at_,acc,N,g1,g2,g3,g4,i1,i2,rfl,E,hcc,i4,i5,i6⟩
 refine ⟨decide (at_<e),by array_get_dec,fun hlt k hk=>?_,fun hge=>?_⟩
 ·replace hlt:=of_decide_eq_true hlt
  have G':=G.ext E
  obtain ⟨seat,hs0,hs1,hsg⟩:=hfree at_ i1 hlt
  have q0:0≤at_:=Int.le_trans h0 i1
  refine s_let (w_compG G' (fun i=> .int (minI (lead g stops i at_) e)) (by array_get_dec) (fun i j0 j1=>Ev.min (Ev.call (by array_get_dec) fun Q X q=>s_reach (G'.row i j0 j1) p2 q0 q) (by array_get_dec)) fun c2 hc2=>?_)
  obtain ⟨m1,m2,m3⟩:=leads_best (g:=g) (stops:=stops) (e:=e) (at_:=at_) p1.1
  have E2:=Ext.new (.lst ((rangeL 0 seats 1).map fun i=>MV.int (minI (lead g stops i at_) e))) hc2
  have l2:(H'.set c2 (.lst ((rangeL 0 seats 1).map fun i=>MV.int (minI (lead g stops i at_) e)))) c2=some (.lst ((leadsL g seats stops e at_).map .int)):=(MH.set_selfE _ _ _).trans (by unfold leadsL;rw [List.map_map];rfl)
  have n2:c≠c2:=mne hc2 hcc
  generalize H'.set c2 _=H2 at E2 l2
  have bf:=(bestN_facts (g:=g) hlt h2 (seats-1).toNat).1
  have bg:=best_gt (k:=(seats-1).toNat) hlt h2 hs0 (tnL p1.1 hs1) hsg
  cases N with
  |zero=>exact absurd (tnZ (Nat.le_zero.mp i5)) (Int.not_le.mpr hlt)
  |succ N=>
   rw [found_go hlt] at i6
   refine s_expr (w_append (v:=partMV ((bestN g stops e at_ (seats-1).toNat).1,at_,(bestN g stops e at_ (seats-1).toNat).2)) (by array_get_dec) (E2 _ _ hcc) (Ev.tup (Evs.cons (Ev.index (by array_get_dec) l2 (Ev.maxL (by array_get_dec) l2 m1 m2) m1 m3) (Evs.cons (by array_get_dec) (Evs.cons (Ev.maxL (by array_get_dec) l2 m1 m2) Evs.nil)))) (by rw [List.length_map];unfold bigList;lia) ?_)
   refine s_assign (Ev.maxL (by array_get_dec) ((MH.set_neE _ _ n2.symm).trans l2) m1 m2) (s_done (hk _ _ _ (tn_lt bg hlt) ⟨_,acc++ [((bestN g stops e at_ (seats-1).toNat).1,at_,(bestN g stops e at_ (seats-1).toNat).2)],N,by sizeOf_list_dec,by sizeOf_list_dec,by sizeOf_list_dec,Sto.gets _ _ _,Int.le_trans i1 bf.1,bf.2.1,rfl,(E.trans E2).newer _ hc,?_,?_,tnV i5 bg hlt,?_⟩))
   ·rw [MH.set_selfE,List.map_append];rfl
   ·rw [List.length_append];exact acc_le i4 bg
   ·rw [i6,List.append_assoc];rfl
 ·obtain rfl:at_=e:=Int.le_antisymm i2 (Int.not_lt.mp (of_decide_eq_false hge))
  refine s_ret (by array_get_dec) (h c _ hc E ?_)
  unfold offer
  rw [hcc,i6,found_end,List.append_nil]
theorem s_lmark (G:Gd H ro rb seats stops g){c:Addr}{ps:List (Int×Int×Int)}{kv:Option Int}{kw:MV}(hkw:kw=mvo kv)(hc:H c=some (.lst (ps.map partMV)))(nc:¬ Cel rb seats c)(hp:PartsIn seats stops ps)
  (h:∀ H',Gd H' ro rb seats stops (marks g ps kv)→Frm (Cel rb seats) H H'→Q .none H'):callW theP (n+1) false "_law_mark" [.ref ro,.ref c,kw] H Q X:=by
 subst hkw
 refine call_of (d:=f__law_mark) rfl rfl ?_
 refine s_for (fun vs ρ H'=>ρ "_law_rows_here"=some (.ref ro)∧ρ "_law_held"=some (mvo kv)∧Frm (Cel rb seats) H H'∧∃ done rest,ps=done++rest∧vs=rest.map partMV∧Gd H' ro rb seats stops (marks g done kv)) (by array_get_dec) (fun vs ρ H' z=>z.2.2.1 _ _ nc hc) ⟨rfl,rfl,fun _ _ _ q=>q,[],ps,rfl,rfl,G⟩ ?_ ?_
 ·rintro v vs ρ H' k ⟨g1,g2,f,done,rest,e1,e2,G⟩ hk
  cases rest with
  |nil=>cases e2
  |cons p rest=>
   obtain ⟨rfl,rfl⟩:=List.cons.inj e2
   obtain ⟨q0,q1,q2,q3,q4⟩:=hp p (e1▸List.mem_append_right _ (.head _))
   have p2:=G.hstops
   refine s_cells_set (fun ρ=>ρ "_law_rows_here"=some (.ref ro)∧ρ "_law_held"=some (mvo kv)∧ρ "_law_one"=some (partMV p)) G q0 q1 q2 q3 q4 ⟨by sizeOf_list_dec,by sizeOf_list_dec,by sizeOf_list_dec⟩ (Ev.range2 (Ev.itemT (Ev.var (v:=partMV p) (by sizeOf_list_dec)) Ev.int rfl) (Ev.itemT (Ev.var (v:=partMV p) (by sizeOf_list_dec)) Ev.int rfl) (smallOf q2 (by lia)) (smallOf (by lia) (by lia)))
    (fun ρ j z=>⟨Sto.gn rfl z.1,Sto.gn rfl z.2.1,Sto.gn rfl z.2.2⟩) (fun ρ H' z=>Ev.var z.2.1) (fun ρ H' j z=>Ev.var (Sto.gets _ _ _)) (fun ρ H'' g' z G' f'=>Ev.item (Ev.var z.1) (Ev.itemT (Ev.var z.2.2) Ev.int rfl) G'.hl_ (refsOf_at q0 q1)) (fun ρ H'' z G' f'=>s_done (hk _ _ ⟨z.1,z.2.1,f.trans f',done++ [p],rest,by rw [e1,List.append_assoc];rfl,rfl,marks_snoc▸G'⟩))
 ·rintro ρ H' ⟨_,_,f,done,rest,e1,e2,G⟩
  cases rest with
  |nil=>rw [List.append_nil] at e1;subst e1;exact s_done (h _ G f)
  |cons p rest=>cases e2
theorem s_left {f:Addr}{stop:Int}{ps:List Part}(hf:H f=some (.lst (ps.map partMV)))(hl:ps.length≤1000)(h:∀ cg ck H',H cg=none→H ck=none→Ext H H'→H' cg=some (.lst ((goneL ps stop).map partMV))→H' ck=some (.lst ((keepL ps stop).map partMV))→Q (.tup [.ref ck,.ref cg]) H'):callW theP (n+1) false "_law_left" [.ref f,.int stop] H Q X:=by
 refine call_of (d:=f__law_left) rfl rfl ?_
 have plen:(ps.map partMV).length≤bigList:=by rw [List.length_map];unfold bigList;lia
 refine s_let (w_compL (fun v=>decide (pt2 v<stop)) (fun v=> .tup [.int (pt1 v),.int (pt2 v),.int (minI (pt3 v) stop)]) (by array_get_dec) hf plen (fun v hv=>?_) (fun v hv _=>?_) ?_)
 ·obtain ⟨p,hp,rfl⟩:=List.mem_map.mp hv
  exact Ev.cmp (Ev.itemT (Ev.var (v:=partMV p) (Sto.gets _ _ _)) Ev.int rfl) (by array_get_dec) .lt
 ·obtain ⟨p,hp,rfl⟩:=List.mem_map.mp hv
  exact Ev.tup (Evs.cons (Ev.itemT (Ev.var (v:=partMV p) (Sto.gets _ _ _)) Ev.int rfl) (Evs.cons (Ev.itemT (Ev.var (v:=partMV p) (Sto.gets _ _ _)) Ev.int rfl) (Evs.cons (Ev.min (Ev.itemT (Ev.var (v:=partMV p) (Sto.gets _ _ _)) Ev.int rfl) (by array_get_dec)) Evs.nil)))
 rw [keep_eq (stop:=stop) _ _ (fun _=>rfl) (fun _=>rfl)]
 intro ck hck
 have E1:=Ext.new (.lst ((keepL ps stop).map partMV)) hck
 refine s_let (w_compL (fun v=>decide (stop<pt3 v)) (fun v=> .tup [.int (pt1 v),.int (maxI (pt2 v) stop),.int (pt3 v)]) (by array_get_dec) (E1 _ _ hf) plen (fun v hv=>?_) (fun v hv _=>?_) ?_)
 ·obtain ⟨p,hp,rfl⟩:=List.mem_map.mp hv
  exact Ev.cmp (Ev.itemT (Ev.var (v:=partMV p) (Sto.gets _ _ _)) Ev.int rfl) (by array_get_dec) .gt
 ·obtain ⟨p,hp,rfl⟩:=List.mem_map.mp hv
  exact Ev.tup (Evs.cons (Ev.itemT (Ev.var (v:=partMV p) (Sto.gets _ _ _)) Ev.int rfl) (Evs.cons (Ev.max (Ev.itemT (Ev.var (v:=partMV p) (Sto.gets _ _ _)) Ev.int rfl) (by array_get_dec)) (Evs.cons (Ev.itemT (Ev.var (v:=partMV p) (Sto.gets _ _ _)) Ev.int rfl) Evs.nil)))
 rw [gone_eq (stop:=stop) _ _ (fun _=>rfl) (fun _=>rfl)]
 exact fun cg hcg=>s_ret (by array_get_dec) (h cg ck _ (none_of_ext E1 hcg) hck (E1.trans (Ext.new _ hcg)) (MH.set_selfE _ _ _) (Ext.new _ hcg _ _ (MH.set_selfE _ _ _)))
end
end Mine
end
section
namespace Mine
open PySem
noncomputable def Wn (wd ro so rw:Addr)(rb:Int→Addr)(seats:Int)(a:Addr):Prop:=a=wd∨a=so∨a=rw∨a=ro∨Cel rb seats a
structure Wd (H:MH)(O:Addr→Prop)(wd ro so rw:Addr)(rb:Int→Addr)(seats stops coming:Int)(R:Rides)(g:Grid):Prop where
 gd:Gd H ro rb seats stops g
 wd_:H wd=some (.lst [.ref ro,.ref so,.ref rw,.int coming])
 so_:H so=some (.lst ((R.map Prod.fst).map .int))
 rw_:∃ rs,H rw=some (.lst (rs.map Prod.snd))∧RidesAt H (fun a=>O a∨Wn wd ro so rw rb seats a) rs R
 ne:wd≠so∧wd≠rw∧so≠rw
 nc:¬(wd=ro∨Cel rb seats wd)∧¬(so=ro∨Cel rb seats so)∧¬(rw=ro∨Cel rb seats rw)
 ap:∀ a,Wn wd ro so rw rb seats a→¬ O a
 oth:∀ a,O a→H a≠none
section
variable {n:Nat}{hd:Bool}{H H':MH}{O:Addr→Prop}{Q:MV→MH→Prop}{X:String→MH→Prop}{wd ro so rw:Addr}{rb:Int→Addr}{seats stops coming:Int}{R:Rides}{g:Grid}
variable {Δ:CallT}{ρ:Sto}{Y:String→MH→Prop}
theorem Wd.train (W:Wd H O wd ro so rw rb seats stops coming R g)(f:Frm O H H')(th:∀ a,O a→H' a≠none):Wd H' O wd ro so rw rb seats stops coming R g:=
 ⟨W.gd.keep fun a o z=>f a o (W.ap a (.inr (.inr (.inr z)))),f _ _ (W.ap _ (.inl rfl)) W.wd_,f _ _ (W.ap _ (.inr (.inl rfl))) W.so_,W.rw_.imp fun rs z=>⟨f _ _ (W.ap _ (.inr (.inr (.inl rfl)))) z.1,z.2.keep fun a o n=>f a o fun q=>n (.inl q)⟩,W.ne,W.nc,W.ap,th⟩
theorem Wd.ext (W:Wd H O wd ro so rw rb seats stops coming R g)(e:Ext H H'):Wd H' O wd ro so rw rb seats stops coming R g:=W.train e.frm fun a z=>some_kept (W.oth a z) (e a)
theorem Wd.regrid {g':Grid}(W:Wd H O wd ro so rw rb seats stops coming R g)(G:Gd H' ro rb seats stops g')(f:Frm (Cel rb seats) H H'):Wd H' O wd ro so rw rb seats stops coming R g':=
 ⟨G,f _ _ (fun z=>W.nc.1 (.inr z)) W.wd_,f _ _ (fun z=>W.nc.2.1 (.inr z)) W.so_,W.rw_.imp fun rs z=>⟨f _ _ (fun z=>W.nc.2.2 (.inr z)) z.1,z.2.keep fun a o n=>f a o fun q=>n (.inr (.inr (.inr (.inr (.inr q)))))⟩,W.ne,W.nc,W.ap,fun a z=>some_kept (W.oth a z) fun o=>f a o fun q=>W.ap a (.inr (.inr (.inr (.inr q)))) z⟩
theorem Wd.book {coming':Int}{R':Rides}{rs:List (Int×MV)}(W:Wd H O wd ro so rw rb seats stops coming R g)(f:Frm (fun a=>a=wd∨a=so∨a=rw) H H')(h1:H' wd=some (.lst [.ref ro,.ref so,.ref rw,.int coming']))(h2:H' so=some (.lst ((R'.map Prod.fst).map .int)))(h3:H' rw=some (.lst (rs.map Prod.snd)))
  (x:RidesAt H (fun a=>O a∨Wn wd ro so rw rb seats a) rs R'):Wd H' O wd ro so rw rb seats stops coming' R' g:=
 ⟨W.gd.keep fun a o z=>f a o fun q=>q.elim (fun q=>W.nc.1 (q▸z)) fun q=>q.elim (fun q=>W.nc.2.1 (q▸z)) fun q=>W.nc.2.2 (q▸z),h1,h2,⟨rs,h3,x.keep fun a o n=>f a o fun q=>n (.inr (q.imp id fun q=>q.imp id .inl))⟩,W.ne,W.nc,W.ap,
  fun a z=>some_kept (W.oth a z) fun o=>f a o fun q=>W.ap a (q.imp id fun q=>q.imp id .inl) z⟩
theorem frm_cel (f:Frm (Cel rb seats) H H'):Frm (Wn wd ro so rw rb seats) H H':=f.mono fun a z=> .inr (.inr (.inr (.inr z)))
theorem frm_bk (f:Frm (fun a=>a=wd∨a=so∨a=rw) H H'):Frm (Wn wd ro so rw rb seats) H H':=f.mono fun a q=>q.imp id fun q=>q.imp id .inl
theorem Wd.ev0 {x:ME}(W:Wd H O wd ro so rw rb seats stops coming R g)(hx:Ev Δ hd x ρ H (.ref wd)):Ev Δ hd (.sub x (.int 0)) ρ H (.ref ro):=Ev.item hx Ev.int W.wd_ rfl
theorem Wd.ev1 {x:ME}(W:Wd H O wd ro so rw rb seats stops coming R g)(hx:Ev Δ hd x ρ H (.ref wd)):Ev Δ hd (.sub x (.int 1)) ρ H (.ref so):=Ev.item hx Ev.int W.wd_ rfl
theorem Wd.ev2 {x:ME}(W:Wd H O wd ro so rw rb seats stops coming R g)(hx:Ev Δ hd x ρ H (.ref wd)):Ev Δ hd (.sub x (.int 2)) ρ H (.ref rw):=Ev.item hx Ev.int W.wd_ rfl
theorem Wd.ev3 {x:ME}(W:Wd H O wd ro so rw rb seats stops coming R g)(hx:Ev Δ hd x ρ H (.ref wd)):Ev Δ hd (.sub x (.int 3)) ρ H (.int coming):=Ev.item hx Ev.int W.wd_ rfl
theorem Gd.len0 {x:ME}(G:Gd H ro rb seats stops g)(hx:Ev Δ hd x ρ H (.ref ro)):Ev Δ hd (.bi "len" (.cons (.sub x (.int 0)) .nil)) ρ H (.int (stops-1)):=by
 have p:=G.hstops
 have p1:=G.hseats
 have e:((rowOf g 0 (stops-1).toNat).length:Int)=stops-1:=by rw [rowOf_length];lia
 exact e▸Ev.lenL (Ev.item hx Ev.int G.hl_ (refsOf_at (Int.le_refl _) (by lia))) (G.row 0 (Int.le_refl _) (by lia))
theorem Gd.lenR {x:ME}(G:Gd H ro rb seats stops g)(hx:Ev Δ hd x ρ H (.ref ro)):Ev Δ hd (.bi "len" (.cons x .nil)) ρ H (.int seats):=by
 have p1:=G.hseats
 have e:((refsOf rb seats.toNat).length:Int)=seats:=by unfold refsOf;rw [List.length_map,List.length_range];lia
 exact e▸Ev.lenL hx G.hl_
theorem Wd.fresh (W:Wd H O wd ro so rw rb seats stops coming R g){c:Addr}(hc:H c=none):¬(O c∨Wn wd ro so rw rb seats c):=by
 rintro (z|z|z|z|z|⟨i,h0,h1,z⟩)
 ·exact W.oth c z hc
 ·exact mne hc W.wd_ z.symm
 ·exact mne hc W.so_ z.symm
 ·obtain ⟨rs,h,_⟩:=W.rw_;exact mne hc h z.symm
 ·exact mne hc W.gd.hl_ z.symm
 ·exact mne hc (W.gd.row i h0 h1) z.symm
theorem s_sold_by (W:Wd H O wd ro so rw rb seats stops coming R g) (I:Inv seats stops coming R g) (hl:R.length<5000) {b e:Int} (hok:0≤b→b<e→e<stops→blockF g seats (e-b).toNat b=none→∀ H',Frm (Wn wd ro so rw rb seats) H H'→
   Wd H' O wd ro so rw rb seats stops (coming+1) (R++ [(coming,offer g seats stops b e)]) (marks g (offer g seats stops b e) (some coming))→Q (doneMV (.int coming)) H')
  (hx:∀ c H',sellFail g seats stops b e=some c→Ext H H'→Q (failMV (wordOf c)) H'):callW theP (n+3) false "_law_sold_by" [.ref wd,.int b,.int e] H Q X:=by
 refine call_of (d:=f__law_sold_by) rfl rfl ?_
 have p1:=W.gd.hseats
 refine s_ite (Ev.or (EvO.any (Ev.cmp (by array_get_dec) Ev.int .lt) (EvO.any (Ev.cmp (by array_get_dec) (by array_get_dec) .ge) (EvO.one (Ev.cmp (by array_get_dec) (W.gd.len0 (W.ev0 (by array_get_dec))) .gt))))) (fun z=>s_ret (by array_get_dec) (hx "NoStretch" _ (fail_bad fun w=>?_) (.refl _))) (fun z=>s_done ?_)
 ·rw [decide_eq_false (by lia),decide_eq_false (by lia),decide_eq_false (by lia)] at z;exact Bool.noConfusion z
 obtain ⟨z1,z⟩:=Bool.or_eq_false_iff.mp z
 obtain ⟨z2,z3⟩:=Bool.or_eq_false_iff.mp z
 have h0:0≤b:=Int.not_lt.mp (of_decide_eq_false z1)
 have h1:b<e:=by have:=of_decide_eq_false z2;lia
 have h2:e<stops:=by have:=of_decide_eq_false z3;lia
 refine s_itew (w_cmpw (w_call (Evs.cons (W.ev0 (by array_get_dec)) (by array_get_dec)) (s_lfull W.gd h0 h1 h2 fun H1 E1=>w_ev Ev.none ⟨_,.isnotN,?_⟩)))
 cases hb:blockF g seats (e-b).toNat b with
 |some x=>exact it_t rfl (s_ret (by array_get_dec) (hx "Full" _ (fail_full h0 h1 h2 hb) E1))
 |none=>
  refine it_f rfl (s_done ?_)
  have W1:=W.ext E1
  refine s_let (w_call (Evs.cons (W1.ev0 (by array_get_dec)) (by array_get_dec)) (s_lfound W1.gd h0 h1 h2 (fun leg q1 q2=>full_free (block_none _ _ rfl hb leg q1 q2)) fun c H2 hc E2 h2c=>?_))
  have W2:=W1.ext E2
  have hno:=W1.fresh hc
  have ncel:¬ Cel rb seats c:=fun z=>hno (.inr (.inr (.inr (.inr (.inr z)))))
  refine s_expr (w_call (Evs.cons (W2.ev0 (by array_get_dec)) (Evs.cons (by array_get_dec) (Evs.cons (W2.ev3 (by array_get_dec)) Evs.nil))) (s_lmark (kv:=some coming) W2.gd rfl h2c ncel (foundF_in p1.1 h2 _ _ h0) fun H3 G3 f3=>?_))
  have W3:=W2.regrid G3 f3
  have h3c:=f3 _ _ ncel h2c
  obtain ⟨rs,r1,r2⟩:=W3.rw_
  obtain ⟨ne1,ne2,ne3⟩:=W3.ne
  have hrl:rs.length=R.length:=r2.len
  refine s_expr (w_append (W3.ev1 (by array_get_dec)) W3.so_ (W3.ev3 (by array_get_dec)) (by rw [List.length_map,List.length_map];unfold bigList;lia) ?_)
  have w4:=(MH.set_neE H3 (.lst ((R.map Prod.fst).map .int++ [.int coming])) ne1).trans W3.wd_
  refine s_expr (w_append (a:=rw) (l:=rs.map Prod.snd) (Ev.item (by array_get_dec) Ev.int w4 rfl) ((MH.set_neE _ _ ne3.symm).trans r1) (by array_get_dec) (by rw [List.length_map];unfold bigList;lia) ?_)
  have w5:=(MH.set_neE _ (.lst (rs.map Prod.snd++ [.ref c])) ne2).trans w4
  refine s_setIdx (x:=.int (coming+1)) (Ev.add (Ev.item (by array_get_dec) Ev.int w5 rfl) Ev.int) (by array_get_dec) Ev.int w5 (by decide) (by show (3:Int)<4;decide) ?_
  refine s_ret (v:=doneMV (.int (coming+1-1))) (Ev.tup (Evs.cons Ev.str (Evs.cons (Ev.sub (Ev.item (by array_get_dec) Ev.int (MH.set_selfE _ _ _) rfl) Ev.int) Evs.nil))) ?_
  rw [Int.add_sub_cancel]
  have F:Frm (fun a=>a=wd∨a=so∨a=rw) H3 (((H3.set so (.lst ((R.map Prod.fst).map .int++ [.int coming]))).set rw (.lst (rs.map Prod.snd++ [.ref c]))).set wd (.lst [.ref ro,.ref so,.ref rw,.int (coming+1)])):=((frm_set (.inr (.inl rfl))).trans (frm_set (.inr (.inr rfl)))).trans (frm_set (.inl rfl))
  refine hok h0 h1 h2 hb _ (((E1.trans E2).frm.trans (frm_cel f3)).trans (frm_bk F)) (W3.book (rs:=rs++ [(coming,.ref c)]) F (MH.set_selfE _ _ _) ?_ ?_ (r2.app h3c hno))
  ·rw [MH.set_neE _ _ ne1.symm,MH.set_neE _ _ ne3,MH.set_selfE,List.map_append,List.map_append];rfl
  ·rw [MH.set_neE _ _ ne2.symm,MH.set_selfE,List.map_append];rfl
theorem done_sell (W:Wd H O wd ro so rw rb seats stops coming R g) (I:Inv seats stops coming R g) (hl:R.length<5000) {b e:Int} (hok:0≤b→b<e→e<stops→blockF g seats (e-b).toNat b=none→∀ H',Frm (Wn wd ro so rw rb seats) H H'→
   Wd H' O wd ro so rw rb seats stops (coming+1) (R++ [(coming,offer g seats stops b e)]) (marks g (offer g seats stops b e) (some coming))→Q (doneMV (.int coming)) H')
  (hx:∀ c H',sellFail g seats stops b e=some c→Ext H H'→Q (failMV (wordOf c)) H'):callW theP (n+4) false "_law_done_by" [.ref wd,deedMV "sell" b e] H Q X:=
 call_of (d:=f__law_done_by) rfl rfl (s_iteT (ev_kind (k:="sell") (by array_get_dec)) (s_retw (w_call (Evs.cons (by array_get_dec) (Evs.cons (ev_d1 (by array_get_dec)) (Evs.cons (ev_d2 (by array_get_dec)) Evs.nil))) (s_sold_by W I hl hok hx))))
theorem Wd.nin (W:Wd H O wd ro so rw rb seats stops coming R g){k:Int}(nk:∀ ps,(k,ps)∉ R):CmpR H .notin (.int k) (.ref so) true:=by
 have:=CmpR.notinl (x:=k) (.inl W.so_)
 rwa [decide_eq_false fun z=>(mem_keys z).elim nk] at this
theorem Wd.isin (W:Wd H O wd ro so rw rb seats stops coming R g){k:Int}{ps:List Part}(hp:(k,ps)∈R):CmpR H .notin (.int k) (.ref so) false:=by
 have:=CmpR.notinl (x:=k) (.inl W.so_)
 rwa [decide_eq_true (List.mem_map.mpr ⟨_,hp,rfl⟩:k∈R.map Prod.fst)] at this
theorem done_none (W:Wd H O wd ro so rw rb seats stops coming R g){kd:String}(hkd:kd≠"sell"){k z:Int}(nk:∀ ps,(k,ps)∉ R)(h:Q (failMV "ticket") H):callW theP (n+4) false "_law_done_by" [.ref wd,deedMV kd k z] H Q X:=
 call_of (d:=f__law_done_by) rfl rfl (s_skip (ev_kindf hkd (by array_get_dec)) (s_iteT (Ev.cmp (ev_d1 (k:=kd) (b:=z) (by array_get_dec)) (W.ev1 (by array_get_dec)) (W.nin nk)) (s_ret (by array_get_dec) h)))
theorem done_head (W:Wd H O wd ro so rw rb seats stops coming R g)(I:Inv seats stops coming R g){kd:String}(hkd:kd≠"sell"){k z:Int}{ps:List Part}(hp:(k,ps)∈R){c:Addr}{rs:List (Int×MV)}{ss:MSs}{N:Sto→MH→Prop}{RR:MV→MH→Prop}{YY:String→Sto→MH→Prop}(r1:H rw=some (.lst (rs.map Prod.snd)))(r2:RidesAt H (fun a=>O a∨Wn wd ro so rw rb seats a) rs R)(hg:dGet rs k=some (.ref c)){a b:MSs}
  (h:wSs (callW theP n) false ss (((Sto.ofArgs ["_law_world_here","_law_deed"] [.ref wd,deedMV kd k z]).set "_law_at" (.int ((rs.map Prod.fst).idxOf k:Nat))).set "_law_found_here" (.ref c)) H N RR YY):
  wSs (callW theP n) false (.cons (.ite (.cmp (.sub (.var "_law_deed") (.int 0)) (.cons .eq (.str "sell") .nil)) a .nil) (.cons (.ite (.cmp (.sub (.var "_law_deed") (.int 1)) (.cons .notin (.sub (.var "_law_world_here") (.int 1)) .nil)) b .nil) (.cons (.assign "_law_at" (.bm (.sub (.var "_law_world_here") (.int 1)) "index" (.cons (.sub (.var "_law_deed") (.int 1)) .nil))) (.cons (.assign "_law_found_here" (.sub (.sub (.var "_law_world_here") (.int 2)) (.var "_law_at"))) ss)))) (Sto.ofArgs ["_law_world_here","_law_deed"] [.ref wd,deedMV kd k z]) H N RR YY:=by
 have ek:=r2.fsts
 refine s_skip (ev_kindf hkd (by array_get_dec)) (s_skip (Ev.cmp (ev_d1 (k:=kd) (b:=z) (by array_get_dec)) (W.ev1 (by array_get_dec)) (W.isin hp)) (s_assign (Ev.index (W.ev1 (by array_get_dec)) W.so_ (ev_d1 (k:=kd) (b:=z) (by array_get_dec)) (List.mem_map.mpr ⟨_,hp,rfl⟩) rfl) ?_))
 rw [←ek]
 exact s_assign (Ev.item (W.ev2 (by array_get_dec)) (by array_get_dec) r1 (atIdx_nn (Int.natCast_nonneg _) (dict_at hg))) h
theorem done_back (W:Wd H O wd ro so rw rb seats stops coming R g)(I:Inv seats stops coming R g){k z:Int}{ps:List Part}(hp:(k,ps)∈R)(hok:∀ c H',Frm (Wn wd ro so rw rb seats) H H'→Wd H' O wd ro so rw rb seats stops coming (rDel R k) (marks g ps none)→H' c=some (.lst (ps.map partMV))→¬ O c→Q (doneMV (.ref c)) H'):callW theP (n+4) false "_law_done_by" [.ref wd,deedMV "back" k z] H Q X:=by
 refine call_of (d:=f__law_done_by) rfl rfl ?_
 obtain ⟨rs,r1,r2⟩:=W.rw_
 obtain ⟨c,hg,hc,hno⟩:=r2.get I.asc hp
 have ek:=r2.fsts
 have hnd:(rs.map Prod.fst).Nodup:=ek▸asc_nodup I.asc
 have ncel:¬ Cel rb seats c:=fun z=>hno (.inr (.inr (.inr (.inr (.inr z)))))
 refine done_head W I (by decide) hp r1 r2 hg (s_skip (ev_kindf (k:="back") (by decide) (by array_get_dec)) ?_)
 refine s_expr (w_call (Evs.cons (W.ev0 (by array_get_dec)) (Evs.cons (by array_get_dec) (Evs.cons Ev.none Evs.nil))) (s_lmark (kv:=none) W.gd rfl hc ncel (I.partsIn hp) fun H3 G3 f3=>?_))
 have W3:=W.regrid G3 f3
 have h3c:=f3 _ _ ncel hc
 obtain ⟨ne1,ne2,ne3⟩:=W3.ne
 have r13:=f3 _ _ (fun z=>W.nc.2.2 (.inr z)) r1
 have r23:RidesAt H3 (fun a=>O a∨Wn wd ro so rw rb seats a) rs R:=r2.keep fun a o n=>f3 a o fun q=>n (.inr (.inr (.inr (.inr (.inr q)))))
 have hix:((R.map Prod.fst).map MV.int)[(((rs.map Prod.fst).idxOf k:Nat):Int).toNat]? =some (.int k):=by
  rw [ek,Int.toNat_natCast,List.getElem?_map,List.getElem?_eq_getElem (List.idxOf_lt_length_of_mem (List.mem_map.mpr ⟨_,hp,rfl⟩)),List.getElem_idxOf];rfl
 refine s_iteT (ev_kind (k:="back") (by array_get_dec)) (s_expr (w_lpop (W3.ev1 (by array_get_dec)) W3.so_ (by array_get_dec) (Int.natCast_nonneg _) hix ?_))
 have w4:=fun o=>(MH.set_neE H3 o ne1).trans W3.wd_
 refine s_expr (w_lpop (a:=rw) (l:=rs.map Prod.snd) (Ev.item (by array_get_dec) Ev.int (w4 _) rfl) ((MH.set_neE _ _ ne3.symm).trans r13) (by array_get_dec) (Int.natCast_nonneg _) (dict_at hg) ?_)
 have F:∀ o1 o2,Frm (fun a=>a=wd∨a=so∨a=rw) H3 ((H3.set so o1).set rw o2):=fun o1 o2=>(frm_set (.inr (.inl rfl))).trans (frm_set (.inr (.inr rfl)))
 have nb:¬(c=wd∨c=so∨c=rw):=fun q=>hno (.inr (q.imp id fun q=>q.imp id .inl))
 refine s_ret (by array_get_dec) (hok c _ ((frm_cel f3).trans (frm_bk (F _ _))) (W3.book (rs:=dDel rs k) (F _ _) ((MH.set_neE _ _ ne2).trans (w4 _)) ?_ ?_ (r23.del k)) (F _ _ _ _ nb h3c) fun z=>hno (.inl z))
 ·rw [MH.set_neE _ _ ne3,MH.set_selfE,ek]
  exact congrArg (fun l=>some (MObj.lst l)) (erase_ix.trans (congrArg _ (keys_del I.asc)))
 ·exact (MH.set_selfE _ _ _).trans (congrArg (fun l=>some (MObj.lst l)) (dict_del hnd hg))
theorem done_leave (W:Wd H O wd ro so rw rb seats stops coming R g)(I:Inv seats stops coming R g){k stop:Int}{ps:List Part}(hp:(k,ps)∈R){b e:Int}(Go:Goes seats b ps e)(hb:0≤b)(he:e≤stops-1)(hok:b<stop→stop<e→∀ c H',Frm (Wn wd ro so rw rb seats) H H'→Wd H' O wd ro so rw rb seats stops coming (rSet R k (keepL ps stop)) (marks g (goneL ps stop) none)→H' c=some (.lst ((goneL ps stop).map partMV))→¬ O c→Q (doneMV (.ref c)) H')
  (hstop:¬(b<stop∧stop<e)→Q (failMV "stop") H):callW theP (n+4) false "_law_done_by" [.ref wd,deedMV "leave" k stop] H Q X:=by
 refine call_of (d:=f__law_done_by) rfl rfl ?_
 obtain ⟨rs,r1,r2⟩:=W.rw_
 obtain ⟨c,hg,hc,hno⟩:=r2.get I.asc hp
 have ek:=r2.fsts
 have hnd:(rs.map Prod.fst).Nodup:=ek▸asc_nodup I.asc
 have p2:=W.gd.hstops
 have hgl:=goes_len Go
 refine done_head W I (by decide) hp r1 r2 hg (s_iteT (ev_kind (k:="leave") (by array_get_dec)) ?_)
 refine s_ite (Ev.or (EvO.any (Ev.cmp (ev_d2 (k:="leave") (a:=k) (by array_get_dec)) (ev_first Go (by array_get_dec) hc) .le) (EvO.one (Ev.cmp (ev_d2 (k:="leave") (a:=k) (by array_get_dec)) (ev_last Go (by array_get_dec) hc) .ge)))) (fun z=>s_ret (by array_get_dec) (hstop fun w=>?_)) (fun z=>s_done ?_)
 ·rw [decide_eq_false (by lia),decide_eq_false (by lia)] at z;exact Bool.noConfusion z
 obtain ⟨z1,z2⟩:=Bool.or_eq_false_iff.mp z
 have q1:b<stop:=Int.not_le.mp (of_decide_eq_false z1)
 have q2:stop<e:=by have:=of_decide_eq_false z2;lia
 refine s_let (w_call (Evs.cons (by array_get_dec) (Evs.cons (ev_d2 (k:="leave") (a:=k) (by array_get_dec)) Evs.nil)) (s_left hc (by lia) fun cg ck H2 hcg hck E2 h2g h2k=>?_))
 have W2:=W.ext E2
 have nog:=W.fresh hcg
 have nok:=W.fresh hck
 have cel:∀{x:Addr},¬(O x∨Wn wd ro so rw rb seats x)→¬ Cel rb seats x:=fun h z=>h (.inr (.inr (.inr (.inr (.inr z)))))
 refine s_expr (w_call (vs:=[.ref ro,.ref cg,.none]) (Evs.cons (W2.ev0 (by array_get_dec)) (Evs.cons (Ev.itemT (vs:=[.ref ck,.ref cg]) (by array_get_dec) Ev.int rfl) (Evs.cons Ev.none Evs.nil))) (s_lmark (kv:=none) W2.gd rfl h2g (cel nog) (gone_in (I.partsIn hp) (by lia)) fun H3 G3 f3=>?_))
 have W3:=W2.regrid G3 f3
 have r13:=f3 _ _ (fun z=>W.nc.2.2 (.inr z)) (E2 _ _ r1)
 have r23:RidesAt H3 (fun a=>O a∨Wn wd ro so rw rb seats a) rs R:=r2.keep fun a o n h=>f3 a o (fun q=>n (.inr (.inr (.inr (.inr (.inr q)))))) (E2 _ _ h)
 obtain ⟨ne1,ne2,ne3⟩:=W3.ne
 have lt:(((rs.map Prod.fst).idxOf k:Nat):Int)<((rs.map Prod.snd).length:Int):=Int.ofNat_lt.mpr (List.getElem?_eq_some_iff.mp (dict_at hg)).1
 refine s_setIdx (x:=.ref ck) (Ev.itemT (vs:=[.ref ck,.ref cg]) (by array_get_dec) Ev.int rfl) (W3.ev2 (by array_get_dec)) (by array_get_dec) r13 (Int.natCast_nonneg _) lt ?_
 have F:∀ o2,Frm (fun a=>a=wd∨a=so∨a=rw) H3 (H3.set rw o2):=fun o2=>frm_set (.inr (.inr rfl))
 have nb:¬(cg=wd∨cg=so∨cg=rw):=fun q=>nog (.inr (q.imp id fun q=>q.imp id .inl))
 refine s_ret (v:=doneMV (.ref cg)) (Ev.tup (Evs.cons Ev.str (Evs.cons (Ev.itemT (vs:=[.ref ck,.ref cg]) (by array_get_dec) Ev.int rfl) Evs.nil))) (hok q1 q2 cg _ ((E2.frm.trans (frm_cel f3)).trans (frm_bk (F _))) (W3.book (rs:=dSet rs k (.ref ck)) (F _) ((MH.set_neE _ _ ne2).trans W3.wd_) ?_ ?_ (r23.set hp (f3 _ _ (cel nok) h2k) nok)) (F _ _ _ nb (f3 _ _ (cel nog) h2g)) fun z=>nog (.inl z))
 ·rw [MH.set_neE _ _ ne3,keys_set];exact W3.so_
 ·rw [MH.set_selfE,Int.toNat_natCast,dict_set hnd hg]
theorem done_reseat (W:Wd H O wd ro so rw rb seats stops coming R g)(I:Inv seats stops coming R g){k z:Int}{ps:List Part}(hp:(k,ps)∈R){b e:Int}(Go:Goes seats b ps e)(h0:0≤b)(he:e≤stops-1)(hok:∀ c H',Frm (Wn wd ro so rw rb seats) H H'→Wd H' O wd ro so rw rb seats stops coming (rSet R k (anew g seats stops ps b e)) (marks (marks g ps none) (anew g seats stops ps b e) (some k))→H' c=some (.lst ((anew g seats stops ps b e).map partMV))→¬ O c→Q (doneMV (.ref c)) H'):callW theP (n+4) false "_law_done_by" [.ref wd,deedMV "reseat" k z] H Q X:=by
 refine call_of (d:=f__law_done_by) rfl rfl ?_
 obtain ⟨rs,r1,r2⟩:=W.rw_
 obtain ⟨c,hg,hc,hno⟩:=r2.get I.asc hp
 have ek:=r2.fsts
 have hnd:(rs.map Prod.fst).Nodup:=ek▸asc_nodup I.asc
 have p1:=W.gd.hseats
 have es:e<stops:=by lia
 have cel:∀{x:Addr},¬(O x∨Wn wd ro so rw rb seats x)→¬ Cel rb seats x:=fun h z=>h (.inr (.inr (.inr (.inr (.inr z)))))
 refine done_head W I (by decide) hp r1 r2 hg (s_skip (ev_kindf (k:="reseat") (by decide) (by array_get_dec)) ?_)
 refine s_expr (w_call (Evs.cons (W.ev0 (by array_get_dec)) (Evs.cons (by array_get_dec) (Evs.cons Ev.none Evs.nil))) (s_lmark (kv:=none) W.gd rfl hc (cel hno) (I.partsIn hp) fun H3 G3 f3=>?_))
 have W3:=W.regrid G3 f3
 have h3c:=f3 _ _ (cel hno) hc
 refine s_skip (ev_kindf (k:="reseat") (by decide) (by array_get_dec)) ?_
 have hfree:∀ leg,b≤leg→leg<e→∃ seat,0≤seat∧seat<seats∧marks g ps none seat leg=none:=fun l q1 q2=>by
  obtain ⟨s,hc⟩:=goes_leg Go q1 q2
  obtain ⟨c1,c2,_,_⟩:=Go.cov hc
  exact ⟨s,c1,c2,marks_in hc⟩
 refine s_setIdxw (w_call (Evs.cons (W3.ev0 (by array_get_dec)) (Evs.cons (ev_first Go (by array_get_dec) h3c) (Evs.cons (ev_last Go (by array_get_dec) h3c) Evs.nil))) (s_lfound W3.gd h0 Go.lt es hfree fun c4 H4 hc4 E4 h4=>?_))
 have W4:=W3.ext E4
 have no4:=W3.fresh hc4
 obtain ⟨ne1,ne2,ne3⟩:=W4.ne
 have r14:=E4 _ _ (f3 _ _ (fun z=>W.nc.2.2 (.inr z)) r1)
 have r24:RidesAt H4 (fun a=>O a∨Wn wd ro so rw rb seats a) rs R:=r2.keep fun a o n h=>E4 _ _ (f3 a o (fun q=>n (.inr (.inr (.inr (.inr (.inr q)))))) h)
 have lt:(((rs.map Prod.fst).idxOf k:Nat):Int)<((rs.map Prod.snd).length:Int):=Int.ofNat_lt.mpr (List.getElem?_eq_some_iff.mp (dict_at hg)).1
 refine w_ev (v:=.ref rw) (W4.ev2 (by array_get_dec)) (w_ev (v:=.int (((rs.map Prod.fst).idxOf k:Nat):Int)) (by array_get_dec) (SetIdxR.lst r14 (Int.natCast_nonneg _) lt ?_))
 rw [Int.toNat_natCast,dict_set hnd hg]
 have F:Frm (fun a=>a=wd∨a=so∨a=rw) H4 (H4.set rw (.lst ((dSet rs k (.ref c4)).map Prod.snd))):=frm_set (.inr (.inr rfl))
 have nb:¬(c4=wd∨c4=so∨c4=rw):=fun q=>no4 (.inr (q.imp id fun q=>q.imp id .inl))
 have x5:=r24.set hp h4 no4
 have W5:=W4.book (R':=rSet R k (anew g seats stops ps b e)) (rs:=dSet rs k (.ref c4)) F ((MH.set_neE _ _ ne2).trans W4.wd_) (by rw [MH.set_neE _ _ ne3,keys_set];exact W4.so_) (MH.set_selfE _ _ _) x5
 have h5:=F _ _ nb h4
 have at5:atIdx ((dSet rs k (.ref c4)).map Prod.snd) (((rs.map Prod.fst).idxOf k:Nat):Int)=some (.ref c4):=by
  refine atIdx_nn (Int.natCast_nonneg _) ?_
  rw [←dict_set hnd hg,Int.toNat_natCast,List.getElem?_set_self (Int.ofNat_lt.mp lt)]
 have r5:=MH.set_selfE H4 rw (.lst ((dSet rs k (.ref c4)).map Prod.snd))
 generalize H4.set rw _=H5 at F W5 h5 r5
 refine s_expr (w_call (vs:=[.ref ro,.ref c4,.int k]) (Evs.cons (W5.ev0 (by array_get_dec)) (Evs.cons (Ev.item (W5.ev2 (by array_get_dec)) (by array_get_dec) r5 at5) (Evs.cons (ev_d1 (k:="reseat") (b:=z) (by array_get_dec)) Evs.nil))) (s_lmark (kv:=some k) W5.gd rfl h5 (cel no4) (foundF_in p1.1 es _ _ h0) fun H6 G6 f6=>?_))
 have W6:=W5.regrid G6 f6
 refine s_ret (v:=doneMV (.ref c4)) (Ev.tup (Evs.cons Ev.str (Evs.cons (Ev.item (W6.ev2 (by array_get_dec)) (by array_get_dec) (f6 _ _ (fun z=>W.nc.2.2 (.inr z)) r5) at5) Evs.nil))) (hok c4 _ ((((frm_cel f3).trans E4.frm).trans (frm_bk F)).trans (frm_cel f6)) W6 (f6 _ _ (cel no4) h5) fun z=>no4 (.inl z))
end
end Mine
end
section
namespace Mine
open PySem
section
variable {n:Nat}{hd:Bool}{H H':MH}{Z O:Addr→Prop}{Q:MV→MH→Prop}{X:String→MH→Prop}{t rd hl wd ro so rw:Addr}{ra rb:Int→Addr}{seats stops coming:Int}{R:Rides}{g:Grid}
variable {Δ:CallT}{ρ:Sto}{Y:String→MH→Prop}
theorem Trn.own_there (T:Trn H Z t rd hl ra seats stops coming R g):∀ a,Own t rd hl ra seats a→H a≠none:=fun a z h=>T.not_own h z
theorem Wd.there (W:Wd H O wd ro so rw rb seats stops coming R g):∀ a,Wn wd ro so rw rb seats a→H a≠none:=fun a z h=>W.fresh h (.inr z)
theorem Trn.not_ro (T:Trn H Z t rd hl ra seats stops coming R g){s:Addr}{l:List MV}(h:H s=some (.ro l)):¬ Own t rd hl ra seats s:=by
 obtain ⟨rides,T1,_⟩:=T.tr
 rintro (z|z|z|⟨i,h0,h1,z⟩)
 ·rw [z,T1.at_] at h;cases h
 ·rw [z,T1.rd_] at h;cases h
 ·rw [z,T1.hl_] at h;cases h
 ·rw [z,T1.row i h0 h1] at h;cases h
theorem Wd.not_ro (W:Wd H O wd ro so rw rb seats stops coming R g){s:Addr}{l:List MV}(h:H s=some (.ro l)):¬ Wn wd ro so rw rb seats s:=by
 rintro (z|z|z|z|⟨i,h0,h1,z⟩)
 ·rw [z,W.wd_] at h;cases h
 ·rw [z,W.so_] at h;cases h
 ·obtain ⟨rs,h',_⟩:=W.rw_;rw [z,h'] at h;cases h
 ·rw [z,W.gd.hl_] at h;cases h
 ·rw [z,W.gd.row i h0 h1] at h;cases h
structure Bo (H:MH)(t rd hl wd ro so rw:Addr)(ra rb:Int→Addr)(seats stops coming:Int)(R:Rides)(g:Grid):Prop where
 tn:Trn H (Wn wd ro so rw rb seats) t rd hl ra seats stops coming R g
 wo:Wd H (Own t rd hl ra seats) wd ro so rw rb seats stops coming R g
abbrev Ow (t rd hl wd ro so rw:Addr)(ra rb:Int→Addr)(seats:Int)(a:Addr):Prop:=Own t rd hl ra seats a∨Wn wd ro so rw rb seats a
theorem Bo.fresh (S:Bo H t rd hl wd ro so rw ra rb seats stops coming R g){c:Addr}(h:H c=none):¬ Ow t rd hl wd ro so rw ra rb seats c:=S.wo.fresh h
theorem rset_len {k:Int}{qs:List Part}:(rSet R k qs).length≤R.length+1:=by unfold rSet;rw [List.length_map];exact Nat.le_succ _
theorem rdel_len {k:Int}:(rDel R k).length≤R.length+1:=Nat.le_succ_of_le (List.length_filter_le _ _)
theorem w_listw {es:MEs}(h:wEs Δ hd es ρ H (fun vs H₁=>New H₁ Q vs) Y):wE Δ hd (.list es) ρ H Q Y:=h
theorem s_world (p1:1≤seats∧seats≤60)(p2:2≤stops∧stops≤60)(ho:∀ a,O a→H a≠none)(h:∀ wd ro so rw rb H',Ext H H'→(∀ a,Wn wd ro so rw rb seats a→H a=none)→Wd H' O wd ro so rw rb seats stops 0 [] (fun _ _=>none)→Q (.ref wd) H'):callW theP (n+1) false "_law_world" [.int seats,.int stops] H Q X:=by
 refine call_of (d:=f__law_world) rfl rfl ?_
 refine s_retw (w_listw (w_cons (w_grid (seats:=seats) (stops:=stops) (Ev.range1 (by array_get_dec) (smallOf (by lia) (by lia))) p1 p2 (fun v H'=>by array_get_dec) fun ro rb H1 E1 G hro hrb=>?_)))
 refine w_cons (w_list Evs.nil fun so hso=>w_cons (w_list Evs.nil fun rw hrw=>w_evs (vs:=[.int 0]) (by array_get_dec) fun wd hwd=>?_))
 have E2:=E1.trans (Ext.new (.lst []) hso)
 have E3:=E2.trans (Ext.new (.lst []) hrw)
 have E4:=E3.trans (Ext.new (.lst [.ref ro,.ref so,.ref rw,.int 0]) hwd)
 have s2:(((H1.set so (.lst [])).set rw (.lst []))) so=some (.lst []):=Ext.new _ hrw _ _ (MH.set_selfE _ _ _)
 have s3:=MH.set_selfE (H1.set so (.lst [])) rw (.lst [])
 have G3:=G.ext ((Ext.new (.lst []) hso).trans (Ext.new (.lst []) hrw))
 have G4:=G3.ext (Ext.new (.lst [.ref ro,.ref so,.ref rw,.int 0]) hwd)
 have key:∀{a:Addr} {H2:MH},H2 a=none→Gd H2 ro rb seats stops (fun _ _=>none)→¬(a=ro∨Cel rb seats a):=fun h G z=>z.elim (fun z=>mne h G.hl_ z.symm) fun ⟨i,h0,h1,z⟩=>mne h (G.row i h0 h1) z.symm
 have fr:∀ a,Wn wd ro so rw rb seats a→H a=none:=fun a z=>by
  rcases z with z|z|z|z|⟨i,h0,h1,z⟩
  ·exact z▸none_of_ext E3 hwd
  ·exact z▸none_of_ext E1 hso
  ·exact z▸none_of_ext E2 hrw
  ·exact z▸hro
  ·exact z▸hrb i h0 h1
 refine h wd ro so rw rb _ E4 fr ⟨G4,MH.set_selfE _ _ _,Ext.new _ hwd _ _ s2,⟨[],Ext.new _ hwd _ _ s3,.nil⟩,⟨fun q=>mne hwd s2 q.symm,fun q=>mne hwd s3 q.symm,mne hrw (MH.set_selfE _ _ _)⟩,⟨key hwd G3,key hso G,key hrw (G.ext (Ext.new (.lst []) hso))⟩,fun a z o=>ho a o (fr a z),fun a z=>some_kept (ho a z) (E4 a)⟩
theorem s_built {script:Addr}{is:List Int}(hH:H script=some (.ro (is.map .int)))(h:∀ bl t rd hl wd ro so rw ra rb seats stops H',H' bl=some (.lst [.ref t,.ref wd])→H' script=some (.ro (is.map .int))→Bo H' t rd hl wd ro so rw ra rb seats stops 0 [] (fun _ _=>none)→Q (.ref bl) H'):callW theP (n+2) false "_law_built" [.ref script] H Q X:=by
 refine call_of (d:=f__law_built) rfl rfl ?_
 refine s_let (w_callw (w_cons (w_call (by array_get_dec) (s_cell_at hH (by decide) fun c0=>w_evs Evs.nil (s_seats fun seats q1 q2=>?_)))))
 refine s_let (w_callw (w_cons (w_call (by array_get_dec) (s_cell_at hH (by decide) fun c1=>w_evs Evs.nil (s_stops fun stops q3 q4=>?_)))))
 refine s_retw (w_listw (w_cons (w_mk (by array_get_dec) fun t ht=>t_init (MH.set_selfE _ _ _) ⟨q1,q2⟩ ⟨q3,q4⟩ fun H1 rd hl ra T hown hkeep=>⟨rfl,?_⟩)))
 have nt:script≠t:=mne ht hH
 have hH1:=hkeep _ _ nt ((MH.set_neE _ (.inst []) nt).trans hH)
 refine w_cons (w_call (by array_get_dec) (s_world (O:=Own t rd hl ra seats) ⟨q1,q2⟩ ⟨q3,q4⟩ T.own_there fun wd ro so rw rb H2 E2 fr W=>w_evs Evs.nil fun bl hbl=>?_))
 have E3:=E2.trans (Ext.new (.lst [.ref t,.ref wd]) hbl)
 have W3:=W.ext (Ext.new (.lst [.ref t,.ref wd]) hbl)
 obtain ⟨rides,T1,T2⟩:=T.tr
 cases T2
 exact h bl t rd hl wd ro so rw ra rb seats stops _ (MH.set_selfE _ _ _) (E3 _ _ hH1) ⟨⟨⟨[],T1.ext E3,.nil⟩,inv_init,Int.le_refl _,Nat.zero_le _,fun a z=>T1.not_own (fr a z),W3.there⟩,W3⟩
end
end Mine
end
section
namespace Mine
open PySem
section
variable {n:Nat}{hd:Bool}{H H':MH}{Z O:Addr→Prop}{Q:MV→MH→Prop}{X:String→MH→Prop}{t rd hl wd ro so rw:Addr}{ra rb:Int→Addr}{seats stops coming:Int}{R:Rides}{g:Grid}
variable {Δ:CallT}{ρ:Sto}{Y:String→MH→Prop}{N:Sto→MH→Prop}{RR:MV→MH→Prop}{YY:String→Sto→MH→Prop}
theorem nz {x:Int}:CmpR H .ne (.int x) (.int x) false:=by have:=CmpR.nei (H:=H) (x:=x) (y:=x);rwa [decide_eq_true rfl] at this
theorem ez {x:Int}:CmpR H .eq (.int x) (.int x) true:=by have:=CmpR.eqi (H:=H) (x:=x) (y:=x);rwa [decide_eq_true rfl] at this
theorem mvo_dr (o:Option Int):∃ d:PyData,DR H 8 (mvo o) d∧d.canLay0=true:=by
 cases o with
 |none=>exact ⟨.none,rfl,by simp [PyData.canLay0]⟩
 |some i=>exact ⟨.int i,rfl,by simp [PyData.canLay0]⟩
theorem mvo_ne (o:Option Int):CmpR H .ne (mvo o) (mvo o) false:=by
 obtain ⟨d,h,hl⟩:=mvo_dr (H:=H) o
 have:=CmpR.ned h h
 rwa [PySem.SeqAt.eqv_refl _ hl] at this
theorem s_need_seat (T:Trn H Z t rd hl ra seats stops coming R g){s:Int}(hok:0≤s→s<seats→Q .none H)(hbad:¬(0≤s∧s<seats)→X "NoSeat" H):callW theP (n+1) false "need_seat" [.ref t,.int s] H Q X:=by
 refine call_of (d:=f_Train_need_seat) rfl rfl ?_
 have a1:=T.at_
 refine s_ite (Ev.not (Ev.chain Ev.int (EvC.any (by array_get_dec) .le (EvC.one (by array_get_dec) .lt)))) (fun c=>s_raise (hbad fun z=>?_)) (fun c=>s_done (s_done ?_))
 ·rw [decide_eq_true z.1,decide_eq_true z.2] at c;exact Bool.noConfusion c
 ·obtain ⟨c1,c2⟩:=Bool.and_eq_true_iff.mp ((Bool.not_eq_false' _)▸c)
  exact hok (of_decide_eq_true c1) (of_decide_eq_true c2)
theorem s_need_leg (T:Trn H Z t rd hl ra seats stops coming R g){l:Int}(hok:0≤l→l<stops-1→Q .none H)(hbad:¬(0≤l∧l<stops-1)→X "NoLeg" H):callW theP (n+1) false "need_leg" [.ref t,.int l] H Q X:=by
 refine call_of (d:=f_Train_need_leg) rfl rfl ?_
 have a1:=T.at_
 refine s_ite (Ev.not (Ev.chain Ev.int (EvC.any (by array_get_dec) .le (EvC.one (by array_get_dec) .lt)))) (fun c=>s_raise (hbad fun z=>?_)) (fun c=>s_done (s_done ?_))
 ·rw [decide_eq_true z.1,decide_eq_true z.2] at c;exact Bool.noConfusion c
 ·obtain ⟨c1,c2⟩:=Bool.and_eq_true_iff.mp ((Bool.not_eq_false' _)▸c)
  exact hok (of_decide_eq_true c1) (of_decide_eq_true c2)
theorem s_farthest (T:Trn H Z t rd hl ra seats stops coming R g){s l:Int}(hok:0≤s→s<seats→0≤l→l<stops→Q (.int (lead g stops s l)) H)(hseat:¬(0≤s∧s<seats)→X "NoSeat" H)(hstop:0≤s→s<seats→¬(0≤l∧l<stops)→X "NoStop" H):callW theP (n+2) false "farthest" [.ref t,.int s,.int l] H Q X:=by
 refine call_of (d:=f_Train_farthest) rfl rfl ?_
 have a1:=T.at_
 refine s_expr (w_meth (by array_get_dec) a1 rfl (by array_get_dec) (s_need_seat T (fun s0 s1=>?_) hseat))
 refine s_ite (Ev.not (Ev.chain Ev.int (EvC.any (by array_get_dec) .le (EvC.one (by array_get_dec) .lt)))) (fun c=>s_raise (hstop s0 s1 fun z=>?_)) (fun c=>s_done ?_)
 ·rw [decide_eq_true z.1,decide_eq_true z.2] at c;exact Bool.noConfusion c
 ·obtain ⟨c1,c2⟩:=Bool.and_eq_true_iff.mp ((Bool.not_eq_false' _)▸c)
  obtain ⟨rides,T1,_⟩:=T.tr
  exact s_retw (w_meth (by array_get_dec) a1 rfl (by array_get_dec) (s_leads T1 s0 s1 (of_decide_eq_true c1) (of_decide_eq_true c2) (hok s0 s1 (of_decide_eq_true c1) (of_decide_eq_true c2))))
theorem s_holder (T:Trn H Z t rd hl ra seats stops coming R g){s l:Int}(hok:0≤s→s<seats→0≤l→l<stops-1→Q (mvo (g s l)) H)(hseat:¬(0≤s∧s<seats)→X "NoSeat" H)(hleg:0≤s→s<seats→¬(0≤l∧l<stops-1)→X "NoLeg" H):callW theP (n+2) false "holder" [.ref t,.int s,.int l] H Q X:=by
 refine call_of (d:=f_Train_holder) rfl rfl ?_
 have a1:=T.at_
 refine s_expr (w_meth (by array_get_dec) a1 rfl (by array_get_dec) (s_need_seat T (fun s0 s1=>?_) hseat))
 refine s_expr (w_meth (by array_get_dec) a1 rfl (by array_get_dec) (s_need_leg T (fun l0 l1=>?_) (hleg s0 s1)))
 obtain ⟨rides,T1,_⟩:=T.tr
 have a2:=T1.hl_
 have a3:=T1.row _ s0 s1
 have a4:=refsOf_at (ra:=ra) s0 s1
 have a5:=rowOf_at (g:=g) (i:=s) l0 l1
 exact s_ret (by array_get_dec) (hok s0 s1 l0 l1)
noncomputable def cnt (g:Grid)(seats l:Int):Int:=((rangeL 0 seats 1).filter fun i=>(g i l).isSome).length
theorem s_load (T:Trn H Z t rd hl ra seats stops coming R g){l:Int}(hok:0≤l→l<stops-1→∀ H',Ext H H'→Q (.int (cnt g seats l)) H')(hleg:¬(0≤l∧l<stops-1)→X "NoLeg" H):callW theP (n+2) false "load" [.ref t,.int l] H Q X:=by
 refine call_of (d:=f_Train_load) rfl rfl ?_
 have a1:=T.at_
 have p1:=T.hseats
 refine s_expr (w_meth (by array_get_dec) a1 rfl (by array_get_dec) (s_need_leg T (fun l0 l1=>?_) hleg))
 obtain ⟨rides,T1,_⟩:=T.tr
 refine s_retw (w_bi1 (w_compR (fun i=>(g i l).isSome) (fun i=> .int i) (Ev.range1 (by array_get_dec) (smallOf (by lia) (by lia))) (by lia) (fun i i0 i1=>?_) (fun i _ _ _=>by array_get_dec) fun c hc=> .lenL (.inl (MH.set_selfE _ _ _)) ?_))
 ·have a2:=T1.hl_
  have a3:=T1.row _ i0 i1
  have a4:=refsOf_at (ra:=ra) i0 i1
  have a5:=rowOf_at (g:=g) (i:=i) l0 l1
  rw [←not_nil_mvo]
  array_get_dec
 ·rw [List.length_map];exact hok l0 l1 _ (Ext.new _ hc)
theorem comp_ixp {α:Type}{src:MV}{vs₀:List MV}{cond:MV→MH→(Bool→MH→Prop)→Prop}{elt:MV→MH→(MV→MH→Prop)→Prop}(F f:α→MV)(p:α→Bool)(he:Elems H src vs₀)
  :∀(l:List α) (acc:List MV),(∀ i∈l,∀ k,k (p i) H→cond (F i) H k)→(∀ i∈l,∀ k,k (f i) H→elt (F i) H k)→acc.length+l.length≤bigList→New H Q (acc++(l.filter p).map f)→compW src vs₀ cond elt Q (l.map F) acc H:=by
 intro l
 induction l with
 |nil=>intro acc _ _ _ q c hc;have:=q c hc;rwa [List.filter_nil,List.map_nil,List.append_nil] at this
 |cons i l ih=>
  intro acc hc hf hl q
  rw [List.length_cons] at hl
  refine ⟨Nat.lt_of_lt_of_le (Nat.lt_add_of_pos_right (Nat.succ_pos _)) hl,hc i (.head _) _ ?_⟩
  cases hp:p i with
  |true=>
   rw [List.filter_cons_of_pos hp,List.map_cons] at q
   exact hf i (.head _) _ ⟨he,ih _ (fun w hw=>hc w (.tail _ hw)) (fun w hw=>hf w (.tail _ hw)) (by rw [List.length_append,List.length_singleton];lia) (by rw [List.append_assoc];exact q)⟩
  |false=>
   rw [List.filter_cons_of_neg (by rw [hp];exact Bool.noConfusion)] at q
   exact ⟨he,ih _ (fun w hw=>hc w (.tail _ hw)) (fun w hw=>hf w (.tail _ hw)) (by lia) q⟩
theorem w_cnt {it atE:ME}{x:String}{l:Int}(G:Gd H ro rb seats stops g)(l0:0≤l)(l1:l<stops-1)(hit:Ev Δ false it ρ H (.ref ro))(hat:∀ v,Ev Δ false atE (ρ.set x v) H (.int l))(h:∀ H',Ext H H'→Q (.int (cnt g seats l)) H'):wE Δ false (.bi "len" (.cons (.comp (.var x) x it (.cmp (.sub (.var x) atE) (.cons .isnot .none .nil))) .nil)) ρ H Q Y:=by
 have p:=G.hseats
 refine w_bi1 ⟨rfl,hit _ _ ⟨_,.lst (.inl (refs_rng▸G.hl_)),comp_ixp (fun i=> .ref (rb i)) (fun i=> .ref (rb i)) (fun i=>(g i l).isSome) (.lst (.inl (refs_rng▸G.hl_))) _ _ (fun i hi k hk=>?_) (fun i hi k hk=>Ev.var (Sto.gets _ _ _) _ _ hk) ?_ fun c hc=> .lenL (.inl (MH.set_selfE _ _ _)) ?_⟩⟩
 ·obtain ⟨i0,i1⟩:=rangeL_mem (by decide) hi
  have ev:Ev Δ false (.cmp (.sub (.var x) atE) (.cons .isnot .none .nil)) (ρ.set x (.ref (rb i))) H (.bool (g i l).isSome):=by
   rw [←not_nil_mvo]
   exact Ev.cmp (Ev.item (Ev.var (Sto.gets _ _ _)) (hat _) (G.row i i0 i1) (rowOf_at l0 l1)) Ev.none .isnotN
  exact ev _ _ hk
 ·rw [List.length_nil,rangeL_len1];unfold bigList;lia
 ·rw [List.nil_append,List.length_map];exact h _ (Ext.new _ hc)
theorem Gd.cell {e i j:ME}(G:Gd H ro rb seats stops g){s l:Int}(s0:0≤s)(s1:s<seats)(l0:0≤l)(l1:l<stops-1)(he:Ev Δ hd e ρ H (.ref ro))(hi:Ev Δ hd i ρ H (.int s))(hj:Ev Δ hd j ρ H (.int l)):Ev Δ hd (.sub (.sub e i) j) ρ H (mvo (g s l)):=Ev.item (Ev.item he hi G.hl_ (refsOf_at s0 s1)) hj (G.row s s0 s1) (rowOf_at l0 l1)
theorem w_or1 {e:ME}(h:wE Δ hd e ρ H Q Y):wE Δ hd (.or (.cons e .nil)) ρ H Q Y:=h
theorem s_join {s:MS}{ss:MSs}(J:Sto→MH→Prop)(h:∀ k:Sto→MH→Prop,(∀ ρ' H',J ρ' H'→k ρ' H')→wSs Δ hd (.cons s .nil) ρ H k RR YY)(hj:∀ ρ' H',J ρ' H'→wSs Δ hd ss ρ' H' N RR YY):wSs Δ hd (.cons s ss) ρ H N RR YY:=h _ hj
theorem str_ne {s:Str}:CmpR H .ne (.str s) (.str s) false:=by have:=CmpR.nes (H:=H) (x:=s) (y:=s);rwa [decide_eq_true rfl] at this
theorem Ev.asI {e:ME}{b b':Int}(q:b=b')(h:Ev Δ hd e ρ H (.int b)):Ev Δ hd e ρ H (.int b'):=q▸h
end
end Mine
end
section
namespace Mine
open PySem
section
variable {n:Nat}{hd:Bool}{H H':MH}{Z O:Addr→Prop}{Q:MV→MH→Prop}{X:String→MH→Prop}{t rd hl wd ro so rw:Addr}{ra rb:Int→Addr}{seats stops coming:Int}{R:Rides}{g:Grid}
variable {Δ:CallT}{ρ:Sto}{Y:String→MH→Prop}{N:Sto→MH→Prop}{RR:MV→MH→Prop}{YY:String→Sto→MH→Prop}
structure Bx (H:MH)(Z O:Addr→Prop)(t rd hl wd ro so rw:Addr)(ra rb:Int→Addr)(seats stops coming:Int)(R:Rides)(g:Grid):Prop where
 tn:Trn H Z t rd hl ra seats stops coming R g
 wo:Wd H O wd ro so rw rb seats stops coming R g
theorem Bx.ext (S:Bx H Z O t rd hl wd ro so rw ra rb seats stops coming R g)(e:Ext H H'):Bx H' Z O t rd hl wd ro so rw ra rb seats stops coming R g:=⟨S.tn.ext e,S.wo.ext e⟩
theorem RidesAt.keys {own:Addr→Prop}{rs:List (Int×MV)}(x:RidesAt H own rs R):(rs.map fun e=>MV.int e.1)=(R.map Prod.fst).map MV.int:=by
 induction x with
 |nil=>rfl
 |cons _ _ _ ih=>exact congrArg _ ih
theorem Inv.keys (I:Inv seats stops coming R g):(R.map Prod.fst).Pairwise (· ≤ ·):=List.pairwise_map.mpr (I.asc.imp fun h=>Int.le_of_lt h)
theorem s_tickets (T:Trn H Z t rd hl ra seats stops coming R g)(h:∀ c H',H c=none→Ext H H'→H' c=some (.lst ((R.map Prod.fst).map .int))→Q (.ref c) H'):callW theP (n+1) false "tickets" [.ref t] H Q X:=by
 refine call_of (d:=f_Train_tickets) rfl rfl ?_
 obtain ⟨rides,T1,T2⟩:=T.tr
 have a1:=T1.at_
 refine s_retw (w_bi1 (w_bi1 (w_ev (v:=.ref rd) (Ev.attr (by array_get_dec) a1 rfl) (.listD rfl T1.rd_ (by rw [T2.len];exact Nat.le_trans T.len (by decide)) fun c hc=> .sortedL (is:=R.map Prod.fst) (.inl ?_) T.inv.keys fun c2 hc2=>h c2 _ (none_of_ext (Ext.new _ hc) hc2) ((Ext.new _ hc).trans (Ext.new _ hc2)) (MH.set_selfE _ _ _)))))
 rw [MH.set_selfE,T2.keys]
theorem s_size (T:Trn H Z t rd hl ra seats stops coming R g)(h:Q (.tup [.int seats,.int stops]) H):callW theP (n+1) hd "size" [.ref t] H Q X:=by
 have a1:=T.at_
 exact call_of (d:=f_Train_size) rfl rfl (s_ret (by array_get_dec) h)
theorem int_at {is:List Int}{i:Int}(h0:0≤i)(h1:i<is.length):∃ x,atIdx (is.map MV.int) i=some (.int x):=by
 have hh:i.toNat<is.length:=(Int.toNat_lt h0).mpr h1
 exact ⟨is[i.toNat],atIdx_nn h0 (by rw [List.getElem?_map,List.getElem?_eq_getElem hh];rfl)⟩
theorem s_numbers {f d:Addr}{is:List Int}(hf:H f=some (.lst (is.map .int)))(hd':H d=some (.lst (is.map .int)))(hl:is.length≤100000)(h:Q (.bool true) H):callW theP (n+2) false "_law_numbers" [.ref f,.ref d] H Q X:=by
 refine call_of (d:=f__law_numbers) rfl rfl ?_
 refine s_skip (Ev.or (EvO.f (Ev.not (Ev.isi (by array_get_dec) (.ll (.inl hf)))) (EvO.one (Ev.cmp (Ev.lenL (by array_get_dec) hf) (Ev.lenL (by array_get_dec) hd') nz)))) ?_
 refine s_range (fun i ρ H'=>ρ "_law_found_here"=some (.ref f)∧ρ "_law_due"=some (.ref d)∧H'=H) (Ev.range1 (Ev.lenL (by array_get_dec) hd') (by rw [List.length_map];exact smallOf (by lia) (by lia))) ⟨rfl,rfl,rfl⟩ ?_ fun i ρ H' _ z=>s_ret Ev.bool (z.2.2▸h)
 rintro i ρ H1 k i0 i1 ⟨g1,g2,rfl⟩ hk
 rw [List.length_map] at i1
 obtain ⟨p,hp⟩:=int_at i0 i1
 exact s_skip (Ev.or (EvO.f (Ev.not (Ev.call (v:=.bool true) (Evs.cons (Ev.item (by array_get_dec) (by array_get_dec) hf hp) Evs.nil) fun Q X q=>s_whole q)) (EvO.one (Ev.cmp (Ev.item (by array_get_dec) (by array_get_dec) hf hp) (Ev.item (by array_get_dec) (by array_get_dec) hd' hp) nz)))) (s_done (hk _ _ ⟨by sizeOf_list_dec,by sizeOf_list_dec,rfl⟩))
theorem s_rows {f d:Addr}{ps:List Part}(hf:H f=some (.lst (ps.map partMV)))(hd':H d=some (.lst (ps.map partMV)))(hl:ps.length≤1000)(h:∀ H',Ext H H'→Q (.bool true) H'):callW theP (n+2) false "_law_rows" [.ref f,.ref d] H Q X:=by
 refine call_of (d:=f__law_rows) rfl rfl ?_
 refine s_skip (Ev.or (EvO.f (Ev.not (Ev.isi (by array_get_dec) (.ll (.inl hf)))) (EvO.one (Ev.cmp (Ev.lenL (by array_get_dec) hf) (Ev.lenL (by array_get_dec) hd') nz)))) ?_
 refine s_range (fun i ρ H'=>ρ "_law_found_here"=some (.ref f)∧ρ "_law_due"=some (.ref d)∧Ext H H') (Ev.range1 (Ev.lenL (by array_get_dec) hd') (by rw [List.length_map];exact smallOf (by lia) (by lia))) ⟨rfl,rfl,.refl _⟩ ?_ fun i ρ H' _ z=>s_ret Ev.bool (h _ z.2.2)
 rintro i ρ H1 k i0 i1 ⟨g1,g2,E⟩ hk
 rw [List.length_map] at i1
 obtain ⟨p,hp⟩:=part_at i0 i1
 have hf':=E _ _ hf
 have hd'':=E _ _ hd'
 refine s_skip (Ev.or (EvO.f (Ev.not (Ev.isi (b:=true) (v:=partMV p) (by array_get_dec) .tt)) (EvO.one (Ev.cmp (Ev.lenT (vs:=[.int p.1,.int p.2.1,.int p.2.2]) (Ev.item (by array_get_dec) (by array_get_dec) hf' hp)) (Ev.lenT (vs:=[.int p.1,.int p.2.1,.int p.2.2]) (Ev.item (by array_get_dec) (by array_get_dec) hd'' hp)) nz)))) ?_
 refine s_itew (w_or2 (w_not (w_bi1 ⟨rfl,Ev.item (by array_get_dec) (by array_get_dec) hf' hp _ _ ⟨_,.tup,comp_ix (l:=[p.1,p.2.1,p.2.2]) .int (fun _=> .bool true) .tup (fun _ _ h=>h) _ (fun i _ k hk=>w_call (Evs.cons (Ev.var (Sto.gets _ _ _)) Evs.nil) (s_whole hk)) (by show 0+3≤bigList;decide) fun c hc=>?_⟩⟩)))
 refine b_all (f:=fun _=>true) ?_
 have E2:=E.trans (Ext.new (.lst ([p.1,p.2.1,p.2.2].map fun _=>MV.bool true)) hc)
 exact w_cmpw (w_ev (Ev.item (by array_get_dec) (by array_get_dec) (E2 _ _ hf) hp) (w_ev (Ev.item (by array_get_dec) (by array_get_dec) (E2 _ _ hd') hp) ⟨false,part_ne p,it_f rfl (s_done (s_done (hk _ _ ⟨by sizeOf_list_dec,by sizeOf_list_dec,E2⟩)))⟩))
theorem All2.maps {α β γ:Type}{R:β→γ→Prop}{f:α→β}{g:α→γ}:∀{l:List α},(∀ x∈l,R (f x) (g x))→All2 R (l.map f) (l.map g)
 | [],_=> .nil
 |x::l,h=> .cons (h x (.head _)) (All2.maps fun y hy=>h y (.tail _ hy))
theorem lay_ints:∀{l:List Int},PyData.canLayAll0 (l.map .int)=true
 | []=>by unfold PyData.canLayAll0;rfl
 |x::l=>by rw [List.map_cons,PyData.canLayAll0,lay_ints,PyData.canLay0];rfl
theorem ints_eq {a b:Addr}{is:List Int}(ha:H a=some (.lst (is.map .int)))(hb:H b=some (.lst (is.map .int))):CmpR H .eq (.ref a) (.ref b) true:=by
 have dr:∀{a:Addr},H a=some (.lst (is.map .int))→DR H 8 (.ref a) (.list (is.map .int)):=fun {a} h=>⟨a,_,rfl,.inl h,All2.maps fun _ _=>rfl⟩
 have:=CmpR.eqd (dr ha) (dr hb)
 rwa [PySem.SeqAt.eqv_refl _ (by rw [PyData.canLay0];exact lay_ints)] at this
theorem pair_ne (a b:Int):CmpR H .ne (.tup [.int a,.int b]) (.tup [.int a,.int b]) false:=by
 have dr:DR H 8 (.tup [.int a,.int b]) (.tuple [.int a,.int b]):=⟨_,rfl,.cons rfl (.cons rfl .nil)⟩
 have:=CmpR.ned dr dr
 rwa [PySem.SeqAt.eqv_refl _ rfl] at this
theorem str_eq {s:Str}:CmpR H .eq (.str s) (.str s) true:=by have:=CmpR.eqs (H:=H) (x:=s) (y:=s);rwa [decide_eq_true rfl] at this
theorem w_compE {α:Type}{elt it:ME}{x:String}{l:List α}{src:MV}(F f:α→MV)(hit:Ev Δ false it ρ H src)(hel:∀ H',Ext H H'→Elems H' src (l.map F))(hl:l.length≤bigList)(hf:∀ i∈l,∀ H' Q',Ext H H'→(∀ H'',Ext H' H''→Q' (f i) H'')→wE Δ false elt (ρ.set x (F i)) H' Q' (fun _ _=>False))
  (q:∀ c H',H c=none→Ext H H'→H' c=some (.lst (l.map f))→Q (.ref c) H'):wE Δ false (.comp elt x it (.bool true)) ρ H Q Y:=by
 refine ⟨rfl,hit _ _ ⟨_,hel H (.refl _),comp_inv (fun vs acc H'=>∃ dn rs,l=dn++rs∧vs=rs.map F∧acc=dn.map f∧Ext H H') (fun _ _ H' z=>z.elim fun _ z=>z.elim fun _ z=>hel H' z.2.2.2) (fun _ _ _ h=>h) ?_ ?_ _ _ _ (by rw [List.length_map,List.length_nil,Nat.zero_add];exact hl) ⟨[],l,rfl,rfl,rfl,.refl _⟩⟩⟩
 ·rintro v vs acc H1 k ⟨dn,rs,e1,e2,e3,E⟩ hk
  cases rs with
  |nil=>cases e2
  |cons i rs=>
   obtain ⟨rfl,rfl⟩:=List.cons.inj e2
   exact hf i (e1▸List.mem_append_right _ (.head _)) H1 _ E fun H2 E2=>hk _ _ ⟨dn++ [i],rs,by rw [e1,List.append_assoc];rfl,rfl,by rw [e3,List.map_append];rfl,E.trans E2⟩
 ·rintro acc H1 c ⟨dn,rs,e1,e2,e3,E⟩ hc
  cases rs with
  |cons i rs=>cases e2
  |nil=>
   rw [List.append_nil] at e1
   subst e1 e3
   exact q c _ (none_of_ext E hc) (E.trans (Ext.new _ hc)) (MH.set_selfE _ _ _)
theorem RidesAt.nth {own:Addr→Prop}{rs:List (Int×MV)}(x:RidesAt H own rs R):∀{i:Nat},i<R.length→∃ k ps c,R[i]? =some (k,ps)∧(rs.map Prod.snd)[i]? =some (.ref c)∧H c=some (.lst (ps.map partMV)):=by
 induction x with
 |nil=>intro i h;exact absurd h (Nat.not_lt_zero _)
 | @cons k c ps rs R hc n t ih=>
  intro i h
  cases i with
  |zero=>exact ⟨k,ps,c,rfl,rfl,hc⟩
  |succ i=>exact ih (Nat.lt_of_succ_lt_succ h)
theorem Bx.nth (S:Bx H Z O t rd hl wd ro so rw ra rb seats stops coming R g){i:Int}(h0:0≤i)(h1:i<R.length):∃(k:Int) (ps:List Part) (c:Addr) (rs:List (Int×MV)),(k,ps)∈R∧atIdx ((R.map Prod.fst).map MV.int) i=some (.int k)∧H rw=some (.lst (rs.map Prod.snd))∧atIdx (rs.map Prod.snd) i=some (.ref c)∧H c=some (.lst (ps.map partMV))∧ps.length≤1000:=by
 obtain ⟨rs,r1,r2⟩:=S.wo.rw_
 obtain ⟨k,ps,c,e1,e2,e3⟩:=r2.nth ((Int.toNat_lt h0).mpr h1)
 have hp:(k,ps)∈R:=List.mem_of_getElem? e1
 obtain ⟨b,e,hb,he,G⟩:=S.tn.inv.goes _ hp
 have hgl:=goes_len G
 have p2:=S.tn.hstops
 exact ⟨k,ps,c,rs,hp,atIdx_nn h0 (by rw [List.getElem?_map,List.getElem?_map,e1];rfl),r1,atIdx_nn h0 e2,e3,by dsimp only at hgl;lia⟩
theorem w_one {a:ME}{i:Int}(S:Bx H Z O t rd hl wd ro so rw ra rb seats stops coming R g)(h0:0≤i)(h1:i<R.length)(ht:ρ "_law_train"=some (.ref t))(hw:ρ "_law_world_here"=some (.ref wd))(ha:∀ H',Ev (callW theP (n+2)) false a ρ H' (.int i))(h:∀ H',Ext H H'→Q (.bool true) H'):
  wE (callW theP (n+2)) false (.call "_law_rows" (.cons (.meth (.var "_law_train") "parts" (.cons (.sub (.sub (.var "_law_world_here") (.int 1)) a) .nil)) (.cons (.sub (.sub (.var "_law_world_here") (.int 2)) a) .nil))) ρ H Q Y:=by
 obtain ⟨k,ps,c,rs,hp,e1,r1,e2,hc,hl⟩:=S.nth h0 h1
 refine w_callw (w_cons (w_meth (Ev.var ht) S.tn.at_ rfl (Evs.cons (Ev.item (S.wo.ev1 (Ev.var hw)) (ha _) S.wo.so_ e1) Evs.nil) (s_parts S.tn hp fun c' H1 _ E1 h1'=>?_)))
 exact w_evs (Evs.cons (Ev.item ((S.wo.ext E1).ev2 (Ev.var hw)) (ha _) (E1 _ _ r1) e2) Evs.nil) (s_rows h1' (E1 _ _ hc) hl fun H2 E2=>h _ (E1.trans E2))
theorem s_like (S:Bx H Z O t rd hl wd ro so rw ra rb seats stops coming R g)(h:∀ H',Ext H H'→Q (.bool true) H'):callW theP (n+3) false "_law_like" [.ref t,.ref wd] H Q X:=by
 refine call_of (d:=f__law_like) rfl rfl ?_
 have p1:=S.tn.hseats
 have p2:=S.tn.hstops
 have hlen:=S.tn.len
 have l5:(R.map Prod.fst).length≤100000:=by rw [List.length_map];lia
 refine s_assign (v:=.int stops) (Ev.asI (Int.sub_add_cancel stops 1) (Ev.add (S.wo.gd.len0 (S.wo.ev0 (by array_get_dec))) Ev.int)) ?_
 refine s_itew (w_or2 (w_cmpw (w_meth (by array_get_dec) S.tn.at_ rfl Evs.nil (s_size S.tn (w_ev (v:=.tup [.int seats,.int stops]) (Ev.tup (Evs.cons (S.wo.gd.lenR (S.wo.ev0 (by array_get_dec))) (by array_get_dec))) ⟨false,pair_ne _ _,?_⟩)))))
 refine w_not (w_callw (w_cons (w_meth (by array_get_dec) S.tn.at_ rfl Evs.nil (s_tickets S.tn fun c H1 _ E1 hc=>?_))))
 have S1:=S.ext E1
 refine w_evs (Evs.cons (S1.wo.ev1 (by array_get_dec)) Evs.nil) (s_numbers hc S1.wo.so_ l5 (it_n (s_done ?_)))
 refine s_range (fun i ρ H'=>ρ "_law_train"=some (.ref t)∧ρ "_law_world_here"=some (.ref wd)∧ρ "_law_stops_here"=some (.int stops)∧Ext H H') (Ev.range1 (Ev.lenL (S1.wo.ev1 (by array_get_dec)) S1.wo.so_) (by rw [List.length_map,List.length_map];exact smallOf (by lia) (by lia))) ⟨rfl,rfl,rfl,E1⟩ ?_ ?_
 ·rintro i ρ H2 k i0 i1 ⟨g1,g2,g3,E2⟩ hk
  rw [List.length_map,List.length_map] at i1
  exact s_itew (w_not (w_one (S.ext E2) i0 i1 (by sizeOf_list_dec) (by sizeOf_list_dec) (fun H'=>by array_get_dec) fun H3 E3=>it_n (s_done (s_done (hk _ _ ⟨by sizeOf_list_dec,by sizeOf_list_dec,by sizeOf_list_dec,E2.trans E3⟩)))))
 rintro i ρ H2 _ ⟨g1,g2,g3,E2⟩
 have S2:=S.ext E2
 refine s_range (fun i ρ H'=>ρ "_law_train"=some (.ref t)∧ρ "_law_world_here"=some (.ref wd)∧ρ "_law_stops_here"=some (.int stops)∧H'=H2) (Ev.range1 (S2.wo.gd.lenR (S2.wo.ev0 (by array_get_dec))) (smallOf (by lia) (by lia))) ⟨g1,g2,g3,rfl⟩ ?_ fun i ρ H' _ z=>s_ret Ev.bool (z.2.2.2▸h _ E2)
 rintro s ρ H3 k s0 s1 ⟨g1,g2,g3,rfl⟩ hk
 refine s_range (fun i ρ H'=>ρ "_law_train"=some (.ref t)∧ρ "_law_world_here"=some (.ref wd)∧ρ "_law_stops_here"=some (.int stops)∧ρ "_law_seat"=some (.int s)∧H'=H3) (Ev.range1 (by array_get_dec) (smallOf (by lia) (by lia))) ⟨by sizeOf_list_dec,by sizeOf_list_dec,by sizeOf_list_dec,by sizeOf_list_dec,rfl⟩ ?_ fun i ρ H' _ z=>s_done (hk _ _ ⟨z.1,z.2.1,z.2.2.1,z.2.2.2.2⟩)
 rintro l ρ H4 k l0 l1 ⟨g1,g2,g3,g4,rfl⟩ hk
 refine s_let (w_meth (by array_get_dec) S2.tn.at_ rfl (by array_get_dec) (s_holder S2.tn (fun _ _ _ _=>?_) (fun z=>absurd ⟨s0,s1⟩ z) fun _ _ z=>absurd ⟨l0,l1⟩ z))
 have ev:Ev (callW theP (n+2)) false (.and (.cons (.cmp (.var "_law_held") (.cons .isnot .none .nil)) (.cons (.not (.call "_law_whole" (.cons (.var "_law_held") .nil))) .nil))) ((ρ.set "_law_leg" (.int l)).set "_law_held" (mvo (g s l))) H4 (.bool false):=by
  cases hg:g s l with
  |none=>exact Ev.and (EvA.f (Ev.cmp (Ev.var (Sto.gets _ _ _)) Ev.none .isnotN))
  |some i=>exact Ev.and (EvA.t (Ev.cmp (a:=mvo (some i)) (Ev.var (Sto.gets _ _ _)) Ev.none .isnotN) (EvA.one (Ev.not (b:=true) (Ev.call (vs:=[.int i]) (Evs.cons (Ev.var (Sto.gets _ _ _)) Evs.nil) fun Q X q=>s_whole q))))
 exact s_skip (Ev.or (EvO.f ev (EvO.one (Ev.cmp (Ev.var (Sto.gets _ _ _)) (S2.wo.gd.cell s0 s1 l0 l1 (S2.wo.ev0 (by array_get_dec)) (by array_get_dec) (by array_get_dec)) (mvo_ne _))))) (s_done (hk _ _ ⟨by sizeOf_list_dec,by sizeOf_list_dec,by sizeOf_list_dec,by sizeOf_list_dec,rfl⟩))
theorem s_offered (T:Trn H Z t rd hl ra seats stops coming R g){b e:Int}(hok:0≤b→b<e→e<stops→blockF g seats (e-b).toNat b=none→∀ c cl H',Ext H H'→H' cl=some (.lst [.str (Str.ofString ""),.ref c])→H' c=some (.lst ((offer g seats stops b e).map partMV))→Q (.ref cl) H')
  (hx:∀ w cl H',sellFail g seats stops b e=some w→Ext H H'→H' cl=some (.lst [.str (Str.ofString (wordOf w)),.none])→Q (.ref cl) H'):callW theP (n+4) false "_law_offered" [.ref t,.int b,.int e] H Q X:=by
 refine call_of (d:=f__law_offered) rfl rfl ?_
 obtain ⟨rides,T1,T2⟩:=T.tr
 have hand:∀{w:String} {H1:MH} {ρ:Sto} {N:Sto→MH→Prop} {Y:String→Sto→MH→Prop},sellFail g seats stops b e=some w→Ext H H1→wSs (callW theP (n+3)) true (.cons (.ret (.list (.cons (.call "_law_class" (.cons (.var "_law_e") .nil)) (.cons .none .nil)))) .nil) (ρ.set "_law_e" (.exc w)) H1 N Q Y:=fun hf E=>
  s_retw (w_listw (w_cons (w_call (Evs.cons (Ev.var (Sto.gets _ _ _)) Evs.nil) (s_class (fail_exc hf) fun H2 E2=>w_evs (Evs.cons Ev.none Evs.nil) fun c hc=>hx _ c _ hf ((E.trans E2).trans (Ext.new _ hc)) (MH.set_selfE _ _ _)))))
 exact s_try (s_retw (w_listw (w_cons (w_ev Ev.str (w_cons (w_meth (by array_get_dec) T1.at_ rfl (by array_get_dec) (s_row T1 (fun h0 h1 h2 hb c H1 hc E1 h1c=>w_evs Evs.nil fun cl hcl=>hok h0 h1 h2 hb c cl _ (E1.trans (Ext.new _ hcl)) (MH.set_selfE _ _ _) (Ext.new _ hcl _ _ h1c)) (fun x H' h0 h1 h2 hb E=>hand (fail_full h0 h1 h2 hb) E) fun h=>hand (fail_bad h) (.refl _))))))))
theorem s_offers (T:Trn H Z t rd hl ra seats stops coming R g)(G:Gd H ro rb seats stops g){b e:Int}(h0:0≤b)(h1:b<e)(h2:e<stops)(h:∀ H',Ext H H'→Q (.bool true) H'):callW theP (n+5) false "_law_offers" [.ref t,.ref ro,.int b,.int e] H Q X:=by
 refine call_of (d:=f__law_offers) rfl rfl ?_
 have p2:=G.hstops
 refine s_let (w_call (by array_get_dec) (s_offered T (fun _ _ _ hb c cl H1 E1 hcl hc=>?_) fun w cl H1 hw E1 hcl=>?_))
 ·have G1:=G.ext E1
  refine s_itew (w_cmpw (w_call (by array_get_dec) (s_lfull G1 h0 h1 h2 fun H2 E2=>w_ev Ev.none ⟨_,.isnotN,?_⟩)))
  rw [hb]
  refine it_f rfl (s_done (s_retw (w_and2 (w_cmpw (w_ev (Ev.item (by array_get_dec) Ev.int (E2 _ _ hcl) rfl) (w_ev Ev.str ⟨true,str_eq,?_⟩))))))
  refine w_callw (w_cons (w_ev (v:=.ref c) (Ev.item (by array_get_dec) Ev.int (E2 _ _ hcl) rfl) (w_cons (w_call (by array_get_dec) (s_lfound (G1.ext E2) h0 h1 h2 (fun leg q1 q2=>full_free (block_none _ _ rfl hb leg q1 q2)) fun c3 H3 _ E3 h3=>w_evs Evs.nil (s_rows (E3 _ _ (E2 _ _ hc)) h3 ?_ fun H4 E4=>h _ (((E1.trans E2).trans E3).trans E4)))))))
  have:=foundF_len (g:=g) (seats:=seats) (stops:=stops) (e:=e) (e-b).toNat b
  unfold offer
  lia
 ·cases hb:blockF g seats (e-b).toNat b with
  |none=>rw [fail_none h0 h1 h2 hb] at hw;cases hw
  |some x=>
   obtain rfl:=Option.some.inj ((fail_full h0 h1 h2 hb).symm.trans hw)
   refine s_itew (w_cmpw (w_call (by array_get_dec) (s_lfull (G.ext E1) h0 h1 h2 fun H2 E2=>w_ev Ev.none ⟨_,.isnotN,?_⟩)))
   rw [hb]
   exact it_t rfl (s_retw (w_cmpw (w_ev (Ev.item (by array_get_dec) Ev.int (E2 _ _ hcl) rfl) (w_ev Ev.str ⟨true,str_eq (s:=Str.ofString "full"),h _ (E1.trans E2)⟩))))
end
end Mine
end
section
namespace Mine
open PySem
section
variable {n:Nat}{hd:Bool}{H H':MH}{Z O:Addr→Prop}{Q:MV→MH→Prop}{X:String→MH→Prop}{t rd hl wd ro so rw:Addr}{ra rb:Int→Addr}{seats stops coming:Int}{R:Rides}{g:Grid}
variable {Δ:CallT}{ρ:Sto}{Y:String→MH→Prop}{N:Sto→MH→Prop}{RR:MV→MH→Prop}{YY:String→Sto→MH→Prop}
theorem int_comp {α:Type}{l:List α}{f:α→Int}:(l.map fun i=>MV.int (f i))=(l.map f).map MV.int:=by rw [List.map_map];rfl
theorem s_told_of (T:Trn H Z t rd hl ra seats stops coming R g)(G:Gd H ro rb seats stops g){c w:Int}(hw:w=0∨w=1∨w=2∨w=3)(h:∀ H',Ext H H'→Q (.bool true) H'):callW theP (n+6) false "_law_told_of" [.ref t,.ref ro,.int c,.int w] H Q X:=by
 refine call_of (d:=f__law_told_of) rfl rfl ?_
 have p1:=T.hseats
 have p2:=T.hstops
 refine s_assign (v:=.int stops) (Ev.asI (Int.sub_add_cancel stops 1) (Ev.add (G.len0 (by array_get_dec)) Ev.int)) ?_
 refine s_let (w_call (by array_get_dec) (s_stretch_by p2 fun b e H1 b0 b1 e1 E1=>?_))
 have T:=T.ext E1
 have G:=G.ext E1
 rcases hw with rfl|rfl|rfl|rfl
 ·refine s_iteT (by array_get_dec) (s_let (w_bi1 (w_ev (Ev.range1 (by array_get_dec) (smallOf (by lia) (by lia))) (.listR rfl (by rw [rangeL_len1];unfold bigList;lia) fun cl hcl=>?_))))
  have E2:=Ext.new (.lst ((rangeL 0 (stops-1) 1).map .int)) hcl
  have hl2:=MH.set_selfE H1 cl (.lst ((rangeL 0 (stops-1) 1).map .int))
  generalize H1.set cl _=H2 at E2 hl2
  have T:=T.ext E2
  have G:=G.ext E2
  have lb:(rangeL 0 (stops-1) 1).length≤bigList:=by rw [rangeL_len1];unfold bigList;lia
  refine s_retw (w_cmpw (w_compE (l:=rangeL 0 (stops-1) 1) .int (fun l=> .int (cnt g seats l)) (by array_get_dec) (fun H' E=> .lst (.inl (E _ _ hl2))) lb (fun l hl H' Q' E q=>?_) fun c1 H3 _ E3 h3=>?_))
  ·obtain ⟨l0,l1⟩:=rangeL_mem (by decide) hl
   exact w_meth (by array_get_dec) (T.ext E).at_ rfl (by array_get_dec) (s_load (T.ext E) (fun _ _ H'' E''=>q H'' E'') fun z=>absurd ⟨l0,l1⟩ z)
  refine w_compE (l:=rangeL 0 (stops-1) 1) .int (fun l=> .int (cnt g seats l)) (by array_get_dec) (fun H' E=> .lst (.inl ((E3.trans E) _ _ hl2))) lb (fun l hl H' Q' E q=>?_) fun c2 H4 _ E4 h4=>?_
  ·obtain ⟨l0,l1⟩:=rangeL_mem (by decide) hl
   exact w_cnt (G.ext (E3.trans E)) l0 l1 (by array_get_dec) (fun v=>by array_get_dec) q
  ·exact ⟨true,ints_eq (by rw [←int_comp];exact E4 _ _ h3) (by rw [←int_comp];exact h4),h _ (((E1.trans E2).trans E3).trans E4)⟩
 ·obtain ⟨rides,T1,_⟩:=T.tr
  refine s_skip (by array_get_dec) (s_iteT (by array_get_dec) (s_let (w_meth (by array_get_dec) T1.at_ rfl (by array_get_dec) (s_blocked T1 (fun _ _ _ H2 E2=>?_) fun z=>absurd ⟨b0,b1,e1⟩ z))))
  refine s_let (w_call (by array_get_dec) (s_lfull (G.ext E2) b0 b1 e1 fun H3 E3=>?_))
  have fin:=h _ ((E1.trans E2).trans E3)
  cases hb:blockF g seats (e-b).toNat b with
  |none=>exact s_ret (v:=.bool true) (Ev.or (EvO.t (Ev.and (EvA.t (Ev.cmp (a:=mvo none) (Ev.var (by sizeOf_list_dec)) Ev.none .isN) (EvA.one (Ev.cmp (a:=mvo none) (Ev.var (Sto.gets _ _ _)) Ev.none .isN)))))) fin
  |some x=>exact s_ret (v:=.bool true) (Ev.or (EvO.f (Ev.and (EvA.f (Ev.cmp (a:=mvo (some x)) (Ev.var (by sizeOf_list_dec)) Ev.none .isN))) (EvO.one (Ev.and (EvA.t (Ev.cmp (a:=mvo (some x)) (Ev.var (Sto.gets _ _ _)) Ev.none .isnotN) (EvA.t (Ev.call (vs:=[.int x]) (Evs.cons (Ev.var (by sizeOf_list_dec)) Evs.nil) fun Q X q=>s_whole q) (EvA.one (Ev.cmp (a:=.int x) (b:=.int x) (Ev.var (by sizeOf_list_dec)) (Ev.var (Sto.gets _ _ _)) ez)))))))) fin
 ·refine s_skip (by array_get_dec) (s_skip (by array_get_dec) (s_iteT (by array_get_dec) (s_retw (w_and2 (w_call (by array_get_dec) (s_offers T G b0 b1 e1 fun H2 E2=>w_call (by array_get_dec) (s_offers (T.ext E2) (G.ext E2) (Int.le_refl _) (by lia) (by lia) fun H3 E3=>h _ ((E1.trans E2).trans E3))))))))
 ·refine s_skip (by array_get_dec) (s_skip (by array_get_dec) (s_skip (by array_get_dec) (s_let (w_call (by array_get_dec) (s_mixed (by decide) (by lia) fun at_ H2 a0 a1 E2=>?_)))))
  have T:=T.ext E2
  have G:=G.ext E2
  have lb:(rangeL 0 seats 1).length≤bigList:=by rw [rangeL_len1];unfold bigList;lia
  refine s_retw (w_cmpw (w_compE (l:=rangeL 0 seats 1) .int (fun i=> .int (lead g stops i at_)) (Ev.range1 (G.lenR (by array_get_dec)) (smallOf (by lia) (by lia))) (fun H' E=> .rng) lb (fun i hi H' Q' E q=>?_) fun c1 H3 _ E3 h3=>?_))
  ·obtain ⟨i0,i1⟩:=rangeL_mem (by decide) hi
   exact w_meth (by array_get_dec) (T.ext E).at_ rfl (by array_get_dec) (s_farthest (T.ext E) (fun _ _ _ _=>q H' (.refl _)) (fun z=>absurd ⟨i0,i1⟩ z) fun _ _ z=>absurd ⟨a0,a1⟩ z)
  have G3:=G.ext E3
  refine w_compG G3 (fun i=> .int (lead g stops i at_)) (by array_get_dec) (fun i i0 i1=>Ev.call (by array_get_dec) fun Q X q=>s_reach (G3.row i i0 i1) p2 a0 q) fun c2 hc2=>?_
  have E4:=Ext.new (.lst ((rangeL 0 seats 1).map fun i=>MV.int (lead g stops i at_))) hc2
  exact ⟨true,ints_eq (by rw [←int_comp];exact E4 _ _ h3) (by rw [←int_comp];exact MH.set_selfE _ _ _),h _ (((E1.trans E2).trans E3).trans E4)⟩
theorem s_tells (T:Trn H Z t rd hl ra seats stops coming R g)(W:Wd H O wd ro so rw rb seats stops coming R g){c:Int}(h:∀ H',Ext H H'→Q (.bool true) H'):callW theP (n+7) false "_law_tells" [.ref t,.ref wd,.int c] H Q X:=by
 refine call_of (d:=f__law_tells) rfl rfl ?_
 refine s_let (w_sub (w_listw (w_cons (w_list (vs:=[0,1,2,3].map .int) (by show Evs _ _ _ _ _ [.int 0,.int 1,.int 2,.int 3];array_get_dec) fun a1 h1=>w_cons (w_list (vs:=[3,1,0,2].map .int) (by show Evs _ _ _ _ _ [.int 3,.int 1,.int 0,.int 2];array_get_dec) fun a2 h2=>w_cons (w_list (vs:=[2,0,3,1].map .int) (by show Evs _ _ _ _ _ [.int 2,.int 0,.int 3,.int 1];array_get_dec) fun a3 h3=>w_cons (w_list (vs:=[1,2,3,0].map .int) (by show Evs _ _ _ _ _ [.int 1,.int 2,.int 3,.int 0];array_get_dec) fun a4 h4=>w_evs Evs.nil fun a5 h5=>?_)))))))
 have E1:=Ext.new (.lst ([0,1,2,3].map MV.int)) h1
 have E2:=Ext.new (.lst ([3,1,0,2].map MV.int)) h2
 have E3:=Ext.new (.lst ([2,0,3,1].map MV.int)) h3
 have E4:=Ext.new (.lst ([1,2,3,0].map MV.int)) h4
 have E5:=Ext.new (.lst [.ref a1,.ref a2,.ref a3,.ref a4]) h5
 have i5:=MH.set_selfE ((((H.set a1 (.lst ([0,1,2,3].map MV.int))).set a2 (.lst ([3,1,0,2].map MV.int))).set a3 (.lst ([2,0,3,1].map MV.int))).set a4 (.lst ([1,2,3,0].map MV.int))) a5 (.lst [.ref a1,.ref a2,.ref a3,.ref a4])
 have i1:=E5 _ _ (E4 _ _ (E3 _ _ (E2 _ _ (MH.set_selfE H a1 (.lst ([0,1,2,3].map MV.int))))))
 have i2:=E5 _ _ (E4 _ _ (E3 _ _ (MH.set_selfE (H.set a1 (.lst ([0,1,2,3].map MV.int))) a2 (.lst ([3,1,0,2].map MV.int)))))
 have i3:=E5 _ _ (E4 _ _ (MH.set_selfE ((H.set a1 (.lst ([0,1,2,3].map MV.int))).set a2 (.lst ([3,1,0,2].map MV.int))) a3 (.lst ([2,0,3,1].map MV.int))))
 have i4:=E5 _ _ (MH.set_selfE (((H.set a1 (.lst ([0,1,2,3].map MV.int))).set a2 (.lst ([3,1,0,2].map MV.int))).set a3 (.lst ([2,0,3,1].map MV.int))) a4 (.lst ([1,2,3,0].map MV.int)))
 have E:=(((E1.trans E2).trans E3).trans E4).trans E5
 generalize MH.set _ a5 _=H5 at E i1 i2 i3 i4 i5
 clear E1 E2 E3 E4 E5 h1 h2 h3 h4 h5
 refine w_call (by array_get_dec) (s_mixed (by decide) (by decide) fun v H6 v0 v1 E6=>?_)
 obtain ⟨a,is,hi,hl,ha,hat⟩:∃(a:Addr) (is:List Int),(∀ i∈is,i=0∨i=1∨i=2∨i=3)∧is.length=4∧H5 a=some (.lst (is.map .int))∧atIdx [MV.ref a1,.ref a2,.ref a3,.ref a4] v=some (.ref a):=by
  have:v=0∨v=1∨v=2∨v=3:=by lia
  rcases this with rfl|rfl|rfl|rfl
  ·exact ⟨a1,_,by decide,rfl,i1,rfl⟩
  ·exact ⟨a2,_,by decide,rfl,i2,rfl⟩
  ·exact ⟨a3,_,by decide,rfl,i3,rfl⟩
  ·exact ⟨a4,_,by decide,rfl,i4,rfl⟩
 refine ⟨.ref a,.lst (.inl (E6 _ _ i5)) hat,s_retw (w_bi1 (w_compE (l:=is) .int (fun _=> .bool true) (by array_get_dec) (fun H' E'=> .lst (.inl ((E6.trans E') _ _ ha))) (by rw [hl];decide) (fun i hi' H' Q' E' q=>?_) fun c1 H7 _ E7 h7=> .allL (bs:=is.map fun _=>true) rfl (.inl (by rw [h7,List.map_map];rfl)) ?_))⟩
 ·have W':=W.ext (E.trans (E6.trans E'))
  exact w_call (Evs.cons (by array_get_dec) (Evs.cons (W'.ev0 (by array_get_dec)) (Evs.cons (Ev.add (by array_get_dec) (Ev.mul Ev.int (by array_get_dec) (.inl (by decide)))) (by array_get_dec)))) (s_told_of (T.ext (E.trans (E6.trans E'))) W'.gd (hi i hi') q)
 ·rw [List.all_map,show (is.all (id∘fun _=>true))=true from List.all_eq_true.mpr fun _ _=>rfl]
  exact h _ ((E.trans E6).trans E7)
end
end Mine
end
section
namespace Mine
open PySem
abbrev Str3:=Int×Int×Int
theorem nodup_le {l:List Int}:∀{m:List Int},l.Nodup→(∀ x∈l,x∈m)→l.length≤m.length:=by
 induction l with
 |nil=>intro m _ _;exact Nat.zero_le _
 |cons x l ih=>
  intro m hn hs
  obtain ⟨h1,h2⟩:=List.nodup_cons.mp hn
  have hx:=hs x (.head _)
  have:=ih (m:=m.erase x) h2 fun y hy=>(List.mem_erase_of_ne (show y≠x from fun q=>h1 (q▸hy))).mpr (hs y (.tail _ hy))
  rw [List.length_erase_of_mem hx] at this
  have:=List.length_pos_of_mem hx
  rw [List.length_cons]
  lia
structure Pk (M:Int)(dn L:List Str3)(cs:List Nat):Prop where
 len:cs.length=dn.length
 sub:∀ x∈L,x∈dn
 nd:(L.map fun x=>x.2.2).Nodup
 fit:∀(i:Nat) (x:Str3) (c:Nat),dn[i]? =some x→cs[i]? =some c→∃ y,L[c]? =some y∧x.2.1≤y.2.1
 dis:∀(i j:Nat) (x y:Str3) (c:Nat),i<j→dn[i]? =some x→dn[j]? =some y→cs[i]? =some c→cs[j]? =some c→x.2.1≤y.1
 use:(L.length:Int)≤M
theorem get_snoc {α:Type}{l:List α}{a x:α}{i:Nat}(h:(l++ [a])[i]? =some x):l[i]? =some x∨(i=l.length∧a=x):=by
 by_cases q:i<l.length
 ·rw [List.getElem?_append_left q] at h;exact .inl h
 ·rw [List.getElem?_append_right (Nat.le_of_not_lt q)] at h
  have hi:i-l.length=0:=by
   cases hk:i-l.length with
   |zero=>rfl
   |succ k=>rw [hk] at h;cases h
  rw [hi] at h
  exact .inr ⟨by lia,Option.some.inj h⟩
theorem Pk.again {M:Int}{dn L:List Str3}{cs:List Nat}{x y:Str3}{j:Nat}(P:Pk M dn L cs)(hj:L[j]? =some y)(hle:y.2.1≤x.1)(hxe:x.1≤x.2.1)(hn:∀ z∈dn,z.2.2≠x.2.2):Pk M (dn++ [x]) (L.set j x) (cs++ [j]):=by
 have jl:j<L.length:=(List.getElem?_eq_some_iff.mp hj).1
 refine ⟨by rw [List.length_append,List.length_append,P.len];rfl,fun z hz=>?_,?_,fun i z c h1 h2=>?_,fun i k z u c hik h1 h2 h3 h4=>?_,by rw [List.length_set];exact P.use⟩
 ·rcases List.mem_or_eq_of_mem_set hz with hz|rfl
  ·exact List.mem_append_left _ (P.sub z hz)
  ·exact List.mem_append_right _ (.head _)
 ·rw [List.map_set]
  have hnx:x.2.2 ∉ L.map fun x=>x.2.2:=fun q=>by
   obtain ⟨z,hz,e⟩:=List.mem_map.mp q
   exact hn z (P.sub z hz) e
  have nd:=P.nd
  generalize (L.map fun x=>x.2.2)=l at hnx nd
  clear hj hle hxe hn P jl
  induction l generalizing j with
  |nil=>exact .nil
  |cons a l ih=>
   obtain ⟨n1,n2⟩:=List.nodup_cons.mp nd
   cases j with
   |zero=>rw [List.set_cons_zero];exact List.nodup_cons.mpr ⟨fun q=>hnx (.tail _ q),n2⟩
   |succ j=>
    rw [List.set_cons_succ]
    refine List.nodup_cons.mpr ⟨fun q=>?_,ih (fun q=>hnx (.tail _ q)) n2⟩
    rcases List.mem_or_eq_of_mem_set q with q|q
    ·exact n1 q
    ·exact hnx (q▸ .head _)
 ·rcases get_snoc h2 with h2|⟨hi,rfl⟩
  ·rcases get_snoc h1 with h1|⟨hi,_⟩
   ·obtain ⟨u,hu,hle2⟩:=P.fit i z c h1 h2
    by_cases q:j=c
    ·subst q
     rw [hj] at hu
     obtain rfl:=Option.some.inj hu
     exact ⟨x,by rw [List.getElem?_set_self jl],by lia⟩
    ·exact ⟨u,by rw [List.getElem?_set_ne q];exact hu,hle2⟩
   ·have:=(List.getElem?_eq_some_iff.mp h2).1;rw [P.len] at this;lia
  ·rcases get_snoc h1 with h1|⟨_,rfl⟩
   ·have:=(List.getElem?_eq_some_iff.mp h1).1;rw [P.len] at hi;lia
   ·exact ⟨x,by rw [List.getElem?_set_self jl],Int.le_refl _⟩
 ·rcases get_snoc h4 with h4|⟨hk,rfl⟩
  ·have hk:=(List.getElem?_eq_some_iff.mp h4).1
   have hk2:k<dn.length:=P.len▸hk
   rw [List.getElem?_append_left hk2] at h2
   rw [List.getElem?_append_left (by lia)] at h1
   rw [List.getElem?_append_left (by lia)] at h3
   exact P.dis i k z u c hik h1 h2 h3 h4
  ·have hk2:k=dn.length:=P.len▸hk
   rw [hk2,List.getElem?_append_right (Nat.le_refl _),Nat.sub_self] at h2
   obtain rfl:x=u:=Option.some.inj h2
   rw [List.getElem?_append_left (by lia)] at h1
   rw [List.getElem?_append_left (by lia)] at h3
   obtain ⟨v,hv,hle2⟩:=P.fit i z j h1 h3
   rw [hj] at hv
   obtain rfl:=Option.some.inj hv
   lia
theorem Pk.fresh {M:Int}{dn L:List Str3}{cs:List Nat}{x:Str3}(P:Pk M dn L cs)(hall:∀ y∈L,x.1<y.2.1)(hb:∀ y∈dn,y.1≤x.1)(hxe:x.1<x.2.1)(hn:∀ z∈dn,z.2.2≠x.2.2)
  (hM:∀ ks:List Int,ks.Nodup→(∀ k∈ks,∃ z∈dn++ [x],z.2.2=k∧z.1≤x.1∧x.1<z.2.1)→(ks.length:Int)≤M):Pk M (dn++ [x]) (L++ [x]) (cs++ [L.length]):=by
 have nd2:((L++ [x]).map fun x=>x.2.2).Nodup:=by
  rw [List.map_append,List.nodup_append]
  refine ⟨P.nd,List.pairwise_singleton _ _,fun a ha b hb'=>?_⟩
  obtain rfl:=List.mem_singleton.mp hb'
  obtain ⟨z,hz,rfl⟩:=List.mem_map.mp ha
  exact hn z (P.sub z hz)
 refine ⟨by rw [List.length_append,List.length_append,P.len];rfl,fun z hz=>?_,nd2,fun i z c h1 h2=>?_,fun i k z u c hik h1 h2 h3 h4=>?_,?_⟩
 ·rcases List.mem_append.mp hz with hz|hz
  ·exact List.mem_append_left _ (P.sub z hz)
  ·exact List.mem_append_right _ hz
 ·rcases get_snoc h2 with h2|⟨hi,rfl⟩
  ·rcases get_snoc h1 with h1|⟨hi,_⟩
   ·obtain ⟨u,hu,hle2⟩:=P.fit i z c h1 h2
    exact ⟨u,by rw [List.getElem?_append_left (List.getElem?_eq_some_iff.mp hu).1];exact hu,hle2⟩
   ·have:=(List.getElem?_eq_some_iff.mp h2).1;rw [P.len] at this;lia
  ·rcases get_snoc h1 with h1|⟨_,rfl⟩
   ·have:=(List.getElem?_eq_some_iff.mp h1).1;rw [P.len] at hi;lia
   ·exact ⟨x,by rw [List.getElem?_append_right (Nat.le_refl _),Nat.sub_self];rfl,Int.le_refl _⟩
 ·rcases get_snoc h4 with h4|⟨hk,rfl⟩
  ·have hk:=(List.getElem?_eq_some_iff.mp h4).1
   have hk2:k<dn.length:=P.len▸hk
   rw [List.getElem?_append_left hk2] at h2
   rw [List.getElem?_append_left (by lia)] at h1
   rw [List.getElem?_append_left (by lia)] at h3
   exact P.dis i k z u c hik h1 h2 h3 h4
  ·have hk2:k=dn.length:=P.len▸hk
   rw [List.getElem?_append_left (by lia)] at h1
   rw [List.getElem?_append_left (by lia)] at h3
   obtain ⟨v,hv,_⟩:=P.fit i z L.length h1 h3
   exact absurd (List.getElem?_eq_some_iff.mp hv).1 (Nat.lt_irrefl _)
 ·have:=hM _ nd2 fun k hk=>by
   obtain ⟨z,hz,rfl⟩:=List.mem_map.mp hk
   rcases List.mem_append.mp hz with hz|hz
   ·exact ⟨z,List.mem_append_left _ (P.sub z hz),rfl,hb z (P.sub z hz),hall z hz⟩
   ·obtain rfl:=List.mem_singleton.mp hz
    exact ⟨z,List.mem_append_right _ (.head _),rfl,Int.le_refl _,hxe⟩
  rwa [List.length_map] at this
noncomputable def bOf (ps:List Part):Int:=((ps[0]?).map fun p=>p.2.1).getD 0
noncomputable def eOf (ps:List Part):Int:=((ps[ps.length-1]?).map fun p=>p.2.2).getD 0
theorem goes_span {seats b e:Int}{ps:List Part}(G:Goes seats b ps e):bOf ps=b∧eOf ps=e:=by
 obtain ⟨p,h1,h2⟩:=goes_first G
 obtain ⟨q,k1,k2⟩:=goes_last G
 unfold bOf eOf
 rw [h1,k1]
 exact ⟨h2,k2⟩
noncomputable def spanOf (x:Int×List Part):Str3:=(bOf x.2,eOf x.2,x.1)
theorem load_ge {seats stops coming:Int}{R:Rides}{g:Grid}(I:Inv seats stops coming R g){l:Int}{ks:List Int}(hn:ks.Nodup)(h0:0≤l)(h1:l<stops-1)(h:∀ k∈ks,∃ x∈R,x.1=k∧bOf x.2≤l∧l<eOf x.2):(ks.length:Int)≤cnt g seats l:=by
 unfold cnt
 have:ks.length≤(((rangeL 0 seats 1).filter fun i=>(g i l).isSome).map fun i=>(g i l).getD 0).length:=nodup_le hn fun k hk=>by
  obtain ⟨⟨k',ps⟩,hx,rfl,hb,he⟩:=h k hk
  obtain ⟨b,e,b0,e0,G⟩:=I.goes _ hx
  obtain ⟨s1,s2⟩:=goes_span G
  dsimp only at hb he s1 s2
  obtain ⟨s,hc⟩:=goes_leg G (l:=l) (s1▸hb) (s2▸he)
  obtain ⟨c1,c2,_,_⟩:=G.cov hc
  have hg:g s l=some k':=(I.cov s l k' c1 c2 h0 h1).mpr ⟨ps,hx,hc⟩
  refine List.mem_map.mpr ⟨s,List.mem_filter.mpr ⟨?_,by rw [hg];rfl⟩,by rw [hg];rfl⟩
  rw [rng_eq]
  exact List.mem_map.mpr ⟨s.toNat,List.mem_range.mpr (tnK c1 c2),Int.toNat_of_nonneg c1⟩
 rw [List.length_map] at this
 exact Int.ofNat_le.mpr this
end Mine
end
section
namespace Mine
open PySem
theorem asc_key {R:Rides}(h:R.Pairwise fun x y=>x.1<y.1){x y:Int×List Part}(hx:x∈R)(hy:y∈R)(e:x.1=y.1):x=y:=by
 induction R with
 |nil=>cases hx
 |cons z R ih=>
  obtain ⟨a1,a2⟩:=List.pairwise_cons.mp h
  cases hx with
  |head=>
   cases hy with
   |head=>rfl
   |tail _ hy=>exact absurd e (Int.ne_of_lt (a1 _ hy))
  |tail _ hx=>
   cases hy with
   |head=>exact absurd e.symm (Int.ne_of_lt (a1 _ hx))
   |tail _ hy=>exact ih a2 hx hy
section
variable {n:Nat}{hd:Bool}{H H':MH}{Z:Addr→Prop}{Q:MV→MH→Prop}{X:String→MH→Prop}{t rd hl:Addr}{ra:Int→Addr}{seats stops coming:Int}{R:Rides}{g:Grid}
theorem s_seat_for {en:Addr}{es:List Int}{b:Int}(he:H en=some (.lst (es.map .int)))(hl:es.length≤100000)(h:∀ j:Nat,j≤es.length→(∀ i y,i<j→es[i]? =some y→b<y)→(∀ y,es[j]? =some y→y≤b)→Q (.int j) H):callW theP (n+1) false "seat_for" [.ref en,.int b] H Q X:=by
 refine call_of (d:=f_seat_for) rfl rfl ?_
 have le:∀{ρ:Sto},ρ "ends"=some (.ref en)→Ev (callW theP n) false (.bi "len" (.cons (.var "ends") .nil)) ρ H (.int (es.length:Nat)):=fun {ρ} hρ=>by
  have:=Ev.lenL (Δ:=callW theP n) (hd:=false) (Ev.var hρ) he
  rwa [List.length_map] at this
 refine s_range (fun i ρ H'=>H'=H∧0≤i∧i≤(es.length:Nat)∧ρ "ends"=some (.ref en)∧ρ "begin"=some (.int b)∧∀ k y,k<i.toNat→es[k]? =some y→b<y) (Ev.range1 (le rfl) (smallOf (by lia) (by lia))) ⟨rfl,Int.le_refl _,Int.natCast_nonneg _,rfl,rfl,fun k y hk=>absurd hk (Nat.not_lt_zero _)⟩ ?_ ?_
 ·rintro i ρ H' k i0 i1 ⟨rfl,_,_,g1,g2,hb⟩ hk
  have hi:i.toNat<es.length:=by lia
  have e1:es[i.toNat]? =some es[i.toNat]:=List.getElem?_eq_getElem hi
  have a1:atIdx (es.map MV.int) i=some (.int es[i.toNat]):=atIdx_nn i0 (by rw [List.getElem?_map,e1];rfl)
  refine s_ite (Ev.cmp (Ev.item (by array_get_dec) (by array_get_dec) he a1) (by array_get_dec) .le) (fun q=>?_) (fun q=>s_done (s_done (hk _ _ ⟨rfl,by lia,by lia,by sizeOf_list_dec,by sizeOf_list_dec,fun j y hj hy=>?_⟩)))
  ·have fin:=h i.toNat (by lia) hb fun y hy=>by rw [e1] at hy;obtain rfl:=Option.some.inj hy;exact of_decide_eq_true q
   rw [Int.toNat_of_nonneg i0] at fin
   exact s_ret (by array_get_dec) fin
  ·by_cases q2:j<i.toNat
   ·exact hb j y q2 hy
   ·obtain rfl:j=i.toNat:=by lia
    rw [e1] at hy;obtain rfl:=Option.some.inj hy
    exact Int.not_le.mp (of_decide_eq_false q)
 ·rintro i ρ H' hi ⟨rfl,i0,i1,g1,g2,hb⟩
  have ei:i.toNat=es.length:=by lia
  refine s_ret (le g1) (h es.length (Nat.le_refl _) (fun k y hk hy=>hb k y (by lia) hy) fun y hy=>?_)
  rw [List.getElem?_eq_none (Nat.le_refl _)] at hy;cases hy
noncomputable def l3 (x:Str3):List Int:=[x.1,x.2.1,x.2.2]
noncomputable def un3:List Int→Str3
 | [a,b,c]=>(a,b,c)
 |_=>(0,0,0)
noncomputable def un2:List Int→Int×Int
 | [a,b]=>(a,b)
 |_=>(0,0)
theorem back3 {ls:List (List Int)}{S:List Str3}(h:∀ x∈ls,x∈S.map l3):ls=(ls.map un3).map l3:=by
 rw [List.map_map]
 conv=>lhs;rw [←List.map_id ls]
 refine List.map_congr_left fun x hx=>?_
 obtain ⟨y,_,rfl⟩:=List.mem_map.mp (h x hx)
 rfl
theorem back2 {ls:List (List Int)}{S:List (Int×Int)}(h:∀ x∈ls,x∈S.map fun p=>[p.1,p.2]):ls=(ls.map un2).map fun p=>[p.1,p.2]:=by
 rw [List.map_map]
 conv=>lhs;rw [←List.map_id ls]
 refine List.map_congr_left fun x hx=>?_
 obtain ⟨y,_,rfl⟩:=List.mem_map.mp (h x hx)
 rfl
theorem lex_head {a b:Int}{x y:List Int}(h:lexLt (a::x) (b::y)=false):b≤a:=by
 have h':(if a=b then lexLt x y else decide (a<b))=false:=h
 by_cases q:a=b
 ·exact Int.le_of_eq q.symm
 ·rw [if_neg q] at h';exact Int.not_lt.mp (of_decide_eq_false h')
inductive StrI (H:MH)(t st ct:Addr)(R:Rides)(vs:List MV)(ρ:Sto)(H':MH):Prop
 |mk (g1:ρ "train"=some (.ref t))(g2:ρ "stretches"=some (.ref st))(E:Ext H H')(h:H' ct=some (.lst ((R.map Prod.fst).map .int)))(dn rs:Rides)(e1:R=dn++rs)(e2:vs=(rs.map Prod.fst).map .int)(h3:H' st=some (.lst ((dn.map fun x=>l3 (spanOf x)).map tupI)))
inductive PkI (H:MH)(en fo cS:Addr)(S:List Str3)(M:Int)(vs:List MV)(ρ:Sto)(H':MH):Prop
 |mk (g1:ρ "ends"=some (.ref en))(g2:ρ "found"=some (.ref fo))(E:Ext H H')(h:H' cS=some (.lst ((S.map l3).map tupI)))(dn rs:List Str3)(L:List Str3)(cs:List Nat)(e1:S=dn++rs)(e2:vs=rs.map (fun x=>tupI (l3 x)))(h1:H' en=some (.lst ((L.map fun x=>x.2.1).map .int)))(h2:H' fo=some (.lst ((dn.zip cs).map fun p=>tupI [p.1.2.2,(p.2:Nat)])))(P:Pk M dn L cs)
theorem s_packed (T:Trn H Z t rd hl ra seats stops coming R g) {M:Int} (hM:∀ l,0≤l→l<stops-1→cnt g seats l≤M) (hM0:0≤M) (h:∀ c H' (fs:List (Int×Int)),H c=none→Ext H H'→H' c=some (.lst (fs.map fun p=>tupI [p.1,p.2]))→fs.map Prod.fst=R.map Prod.fst→(∀ p∈fs,0≤p.2∧p.2<M)→
   (∀ p∈fs,∀ q∈fs,p.1≠q.1→p.2=q.2→∀ x∈R,∀ y∈R,x.1=p.1→y.1=q.1→eOf x.2≤bOf y.2∨eOf y.2≤bOf x.2)→Q (.ref c) H'):callW theP (n+3) false "packed" [.ref t] H Q X:=by
 refine call_of (d:=f_packed) rfl rfl ?_
 have I:=T.inv
 have hlen:=T.len
 refine s_let (w_list Evs.nil fun st hst=>?_)
 have E0:=Ext.new (.lst []) hst
 have T0:=T.ext E0
 refine ⟨rfl,w_meth (by array_get_dec) T0.at_ rfl Evs.nil (s_tickets T0 fun ct H1 hct E1 h1=>?_)⟩
 have nst:ct≠st:=fun q=>mne hct (MH.set_selfE H st (.lst [])) q.symm
 refine ⟨_,.lst (.inl h1),for_inv (StrI H t st ct R) (fun vs ρ H' z=>by obtain ⟨_,_,_,q,_⟩:=z;exact .lst (.inl q)) ?_ ?_ ⟨rfl,rfl,E0.trans E1,h1,[],R,rfl,rfl,E1 _ _ (MH.set_selfE _ _ _)⟩⟩
 ·rintro v vs ρ H2 k ⟨g1,g2,E2,h2,dn,rs,e1,e2,h3⟩ hk
  cases rs with
  |nil=>cases e2
  |cons x rs=>
   obtain ⟨rfl,rfl⟩:=List.cons.inj e2
   obtain ⟨kx,ps⟩:=x
   have hx:(kx,ps)∈R:=e1▸List.mem_append_right _ (.head _)
   obtain ⟨b,e,b0,he,Go⟩:=I.goes _ hx
   refine s_let (w_meth (Ev.var (Sto.gn rfl g1)) (T.ext E2).at_ rfl (Evs.cons (Ev.var (Sto.gets _ _ _)) Evs.nil) (s_parts (T.ext E2) hx fun c H3 hc E3 h4=>?_))
   have dl:dn.length≤5000:=by have:=congrArg List.length e1;rw [List.length_append,List.length_cons] at this;lia
   refine s_expr (w_append (v:=tupI (l3 (spanOf (kx,ps)))) (by array_get_dec) (E3 _ _ h3) ?_ (by rw [List.length_map,List.length_map];unfold bigList;lia) (s_done (hk _ _ ⟨by sizeOf_list_dec,by sizeOf_list_dec,(E2.trans E3).newer _ hst,(MH.set_neE _ _ nst).trans (E3 _ _ h2),dn++ [(kx,ps)],rs,by rw [e1,List.append_assoc];rfl,rfl,?_⟩)))
   ·obtain ⟨s1,s2⟩:=goes_span Go
    show Ev _ _ _ _ _ (.tup [.int (bOf ps),.int (eOf ps),.int kx])
    rw [s1,s2]
    exact Ev.tup (Evs.cons (ev_first Go (by array_get_dec) h4) (Evs.cons (ev_last Go (by array_get_dec) h4) (by array_get_dec)))
   ·rw [MH.set_selfE,List.map_append,List.map_append];rfl
 rintro ρ H2 ⟨g1,g2,E2,_,dn,rs,e1,e2,h3⟩
 cases rs with
 |cons x rs=>cases e2
 |nil=>
 rw [List.append_nil] at e1
 subst e1
 clear nst h1 hct E1
 refine s_let (w_list Evs.nil fun en hen=>s_let (w_list Evs.nil fun fo hfo=>?_))
 have E3:=(Ext.new (.lst []) hen).trans (Ext.new (.lst []) hfo)
 have hen3:((H2.set en (.lst [])).set fo (.lst [])) en=some (.lst []):=Ext.new _ hfo _ _ (MH.set_selfE _ _ _)
 have hfo3:=MH.set_selfE (H2.set en (.lst [])) fo (.lst [])
 have nef:en≠fo:=mne hfo (MH.set_selfE _ _ _)
 have en0:H en=none:=none_of_ext E2 hen
 have fo0:H fo=none:=none_of_ext (E2.trans (Ext.new _ hen)) hfo
 generalize MH.set _ fo _=H3 at E3 hen3 hfo3
 have E3':=E2.trans E3
 refine ⟨rfl,w_bi1 (w_ev (v:=.ref st) (by array_get_dec) (.sortedT (ls:=R.map fun x=>l3 (spanOf x)) (n:=3) (.inl (E3 _ _ h3)) (by decide) (fun is hi=>by obtain ⟨_,_,rfl⟩:=List.mem_map.mp hi;rfl) fun ls' hp hs cS hcS=>⟨_,.lst (.inl (MH.set_selfE _ _ _)),?_⟩))⟩
 have el:ls'=(ls'.map un3).map l3:=back3 (S:=R.map spanOf) fun x hx=>by rw [List.map_map];exact hp.mem_iff.mp hx
 have hp2:(ls'.map un3).Perm (R.map spanOf):=by
  have:=hp.map un3
  rw [List.map_map] at this
  exact this
 generalize ls'.map un3=S at el hp2
 subst el
 have hpS:=hp2
 have nkeys:(S.map fun x=>x.2.2).Nodup:=by
  have:(S.map fun x=>x.2.2).Perm (R.map Prod.fst):=by
   have:=hp2.map fun x=>x.2.2
   rw [List.map_map] at this;exact this
  exact this.nodup_iff.mpr (List.pairwise_map.mpr (I.asc.imp fun q=>Int.ne_of_lt q))
 have spn:∀ x∈S,∃ y∈R,spanOf y=x∧0≤x.1∧x.1<x.2.1∧x.2.1≤stops-1:=fun x hx=>by
  obtain ⟨y,hy,rfl⟩:=List.mem_map.mp (hp2.mem_iff.mp hx)
  obtain ⟨b,e,b0,he,Go⟩:=I.goes _ hy
  obtain ⟨s1,s2⟩:=goes_span Go
  have:=Go.lt
  exact ⟨y,hy,rfl,by show 0≤bOf y.2;lia,by show bOf y.2<eOf y.2;lia,by show eOf y.2≤_;lia⟩
 have sl:S.length≤5000:=by rw [hp2.length_eq,List.length_map];exact hlen
 have E4:=Ext.new (.lst ((S.map l3).map tupI)) hcS
 have n1:cS≠en:=fun q=>mne hcS hen3 q.symm
 have n2:cS≠fo:=fun q=>mne hcS hfo3 q.symm
 refine for_inv (PkI H en fo cS S M) (fun vs ρ H' z=>by obtain ⟨_,_,_,q,_⟩:=z;exact .lst (.inl q)) ?_ ?_
  ⟨by sizeOf_list_dec,by sizeOf_list_dec,E3'.trans E4,MH.set_selfE _ _ _,[],S,[],[],rfl,by rw [List.map_map];rfl,E4 _ _ hen3,E4 _ _ hfo3,⟨rfl,fun _ h=>(by cases h),.nil,fun _ _ _ h=>(by cases h),fun _ _ _ _ _ _ h=>(by cases h),hM0⟩⟩
 ·rintro v vs ρ H5 k ⟨g1,g2,E5,h5,dn,rs,L,cs,e1,e2,k1,k2,P⟩ hk
  cases rs with
  |nil=>cases e2
  |cons x rs=>
   obtain ⟨rfl,rfl⟩:=List.cons.inj e2
   have hx:x∈S:=e1▸List.mem_append_right _ (.head _)
   obtain ⟨_,_,_,x0,x1,x2⟩:=spn x hx
   have nd:=nkeys
   rw [e1,List.map_append] at nd
   have hn:∀ z∈dn,z.2.2≠x.2.2:=fun z hz=>(List.nodup_append.mp nd).2.2 _ (List.mem_map.mpr ⟨z,hz,rfl⟩) _ (.head _)
   have hb:∀ y∈dn,y.1≤x.1:=fun y hy=>by
    have hs':=hs
    rw [e1,List.map_append] at hs'
    exact lex_head ((List.pairwise_append.mp hs').2.2 _ (List.mem_map.mpr ⟨y,hy,rfl⟩) _ (.head _))
   have dl:dn.length≤5000:=by have:=congrArg List.length e1;rw [List.length_append] at this;lia
   have cl:cs.length≤5000:=P.len▸dl
   refine ⟨_,_,rfl,.cons (.cons (.cons .nil)),?_⟩
   have Ll:L.length≤5000:=by
    have:=nodup_le (m:=dn.map fun x=>x.2.2) P.nd fun k hk=>by
     obtain ⟨z,hz,rfl⟩:=List.mem_map.mp hk
     exact List.mem_map.mpr ⟨z,P.sub z hz,rfl⟩
    rw [List.length_map,List.length_map] at this
    lia
   refine s_let (w_call (by array_get_dec) (s_seat_for k1 (by rw [List.length_map];lia) fun j hj j1 j2=>?_))
   rw [List.length_map] at hj
   have zl:(dn.zip cs).length=dn.length:=by rw [List.length_zip,P.len,Nat.min_self]
   have fin:∀{H6:MH} {L':List Str3} {ρ':Sto},ρ' "ends"=some (.ref en)→ρ' "found"=some (.ref fo)→ρ' "ticket"=some (.int x.2.2)→ρ' "seat"=some (.int (j:Nat))→Ext H H6→H6 cS=some (.lst ((S.map l3).map tupI))→H6 en=some (.lst ((L'.map fun x=>x.2.1).map .int))→H6 fo=some (.lst ((dn.zip cs).map fun p=>tupI [p.1.2.2,(p.2:Nat)]))→Pk M (dn++ [x]) L' (cs++ [j])→
     wSs (callW theP (n+2)) false (.cons (.expr (.bm (.var "found") "append" (.cons (.tup (.cons (.var "ticket") (.cons (.var "seat") .nil))) .nil))) .nil) ρ' H6 k Q (fun c _ H'=>X c H'):=fun {H6 L' ρ'} r1 r2 r3 r4 E6 h6 q1 q2 P'=>by
    refine s_expr (w_append (v:=tupI [x.2.2,(j:Nat)]) (by array_get_dec) q2 (by show Ev _ _ _ _ _ (.tup [.int _,.int _]);array_get_dec) (by rw [List.length_map,zl];unfold bigList;lia) (s_done (hk _ _ ⟨r1,r2,E6.newer _ fo0,(MH.set_neE _ _ n2).trans h6,dn++ [x],rs,L',cs++ [j],by rw [e1,List.append_assoc];rfl,rfl,(MH.set_neE _ _ nef).trans q1,?_,P'⟩)))
    rw [MH.set_selfE,List.zip_append P.len.symm,List.map_append];rfl
   have evl:∀{ρ':Sto},ρ' "ends"=some (.ref en)→Ev (callW theP (n+2)) false (.bi "len" (.cons (.var "ends") .nil)) ρ' H5 (.int (L.length:Nat)):=fun {ρ'} hρ=>by
    have:=Ev.lenL (Δ:=callW theP (n+2)) (hd:=false) (Ev.var hρ) k1
    rwa [List.length_map,List.length_map] at this
   refine s_ite (Ev.cmp (by array_get_dec) (evl (by sizeOf_list_dec)) .eqi) (fun q=>?_) (fun q=>?_)
   ·have ej:j=L.length:=Int.ofNat_inj.mp (of_decide_eq_true q)
    have P':Pk M (dn++ [x]) (L++ [x]) (cs++ [j]):=by
     rw [ej]
     refine P.fresh (fun y hy=>?_) hb x1 hn fun ks hks hcov=>?_
     ·obtain ⟨i,hi,rfl⟩:=List.getElem_of_mem hy
      exact j1 i _ (by lia) (by rw [List.getElem?_map,List.getElem?_eq_getElem hi];rfl)
     ·refine Int.le_trans (load_ge I hks x0 (by lia) fun k hk=>?_) (hM x.1 x0 (by lia))
      obtain ⟨z,hz,rfl,z1,z2⟩:=hcov k hk
      have hzS:z∈S:=by
       rw [e1]
       rcases List.mem_append.mp hz with hz|hz
       ·exact List.mem_append_left _ hz
       ·obtain rfl:=List.mem_singleton.mp hz;exact List.mem_append_right _ (.head _)
      obtain ⟨y,hy,rfl,_⟩:=spn z hzS
      exact ⟨y,hy,rfl,z1,z2⟩
    refine s_expr (w_append (v:=.int x.2.1) (by array_get_dec) k1 (by array_get_dec) (by rw [List.length_map,List.length_map];unfold bigList;lia) (s_done ?_))
    refine fin (by sizeOf_list_dec) (by sizeOf_list_dec) (by sizeOf_list_dec) (by sizeOf_list_dec) (E5.newer _ en0) ((MH.set_neE _ _ n1).trans h5) ?_ ((MH.set_neE _ _ nef.symm).trans k2) P'
    rw [MH.set_selfE,List.map_append,List.map_append];rfl
   ·have nj:j≠L.length:=fun z=>of_decide_eq_false q (by rw [z])
    have jl:j<L.length:=by lia
    have P':=P.again (x:=x) (j:=j) (List.getElem?_eq_getElem jl) (j2 _ (by rw [List.getElem?_map,List.getElem?_eq_getElem jl];rfl)) (Int.le_of_lt x1) hn
    refine s_setIdx (x:=.int x.2.1) (by array_get_dec) (by array_get_dec) (by array_get_dec) k1 (Int.natCast_nonneg _) (by rw [List.length_map,List.length_map];exact Int.ofNat_lt.mpr jl) (s_done ?_)
    refine fin (by sizeOf_list_dec) (by sizeOf_list_dec) (by sizeOf_list_dec) (by sizeOf_list_dec) (E5.newer _ en0) ((MH.set_neE _ _ n1).trans h5) ?_ ((MH.set_neE _ _ nef.symm).trans k2) P'
    rw [MH.set_selfE,List.map_set,List.map_set];rfl
 ·rintro ρ H5 ⟨g1,g2,E5,h5,dn,rs,L,cs,e1,e2,k1,k2,P⟩
  cases rs with
  |cons x rs=>cases e2
  |nil=>
  rw [List.append_nil] at e1
  subst e1
  have el2:((S.zip cs).map fun p=>tupI [p.1.2.2,(p.2:Nat)])=(((S.zip cs).map fun p=>(p.1.2.2,((p.2:Nat):Int))).map fun p:Int×Int=>[p.1,p.2]).map tupI:=by rw [List.map_map,List.map_map];rfl
  rw [el2] at k2
  refine s_retw (w_bi1 (w_ev (v:=.ref fo) (by array_get_dec) (.sortedT (n:=2) (.inl k2) (by decide) (fun is hi=>by obtain ⟨_,_,rfl⟩:=List.mem_map.mp hi;rfl) fun ls hp hs' c hc=>?_)))
  have e5:ls=(ls.map un2).map fun p=>[p.1,p.2]:=back2 (S:=(S.zip cs).map fun p=>(p.1.2.2,((p.2:Nat):Int))) fun x hx=>hp.mem_iff.mp hx
  have hpf:(ls.map un2).Perm ((S.zip cs).map fun p=>(p.1.2.2,((p.2:Nat):Int))):=by
   have:=hp.map un2
   rw [List.map_map] at this
   refine this.trans (List.Perm.of_eq ?_)
   conv=>rhs;rw [←List.map_id ((S.zip cs).map fun p=>(p.1.2.2,((p.2:Nat):Int)))]
   exact List.map_congr_left fun _ _=>rfl
  generalize ls.map un2=fs at e5 hpf
  subst e5
  have at_:∀ p∈fs,∃(i:Nat) (x:Str3) (cc:Nat),S[i]? =some x∧cs[i]? =some cc∧p=(x.2.2,(cc:Int)):=fun p hp'=>by
   obtain ⟨z,hz,rfl⟩:=List.mem_map.mp (hpf.mem_iff.mp hp')
   obtain ⟨i,hi,rfl⟩:=List.getElem_of_mem hz
   rw [List.length_zip] at hi
   have i1:i<S.length:=by lia
   have i2:i<cs.length:=by lia
   exact ⟨i,S[i],cs[i],List.getElem?_eq_getElem i1,List.getElem?_eq_getElem i2,by rw [List.getElem_zip]⟩
  refine h c _ fs (none_of_ext E5 hc) (E5.trans (Ext.new _ hc)) ((MH.set_selfE _ _ _).trans (by rw [List.map_map];rfl)) ?_ (fun p hp'=>?_) fun p hp1 q hq1 hne heq x hx y hy ex ey=>?_
  ·have p1:(fs.map Prod.fst).Perm (R.map Prod.fst):=by
    have a1:=hpf.map Prod.fst
    rw [List.map_map] at a1
    have a2:((S.zip cs).map (Prod.fst∘fun p=>(p.1.2.2,((p.2:Nat):Int))))=S.map fun x=>x.2.2:=by
     rw [show (Prod.fst∘fun p:Str3×Nat=>(p.1.2.2,((p.2:Nat):Int)))=(fun x:Str3=>x.2.2)∘Prod.fst from rfl,←List.map_map,List.map_fst_zip (Nat.le_of_eq P.len.symm)]
    rw [a2] at a1
    refine a1.trans ?_
    have a3:=hpS.map fun x=>x.2.2
    rw [List.map_map] at a3
    exact a3
   refine p1.eq_of_pairwise (fun a b _ _ u v=>Int.le_antisymm u v) ?_ I.keys
   refine List.pairwise_map.mpr ((List.pairwise_map.mp hs').imp fun z=>lex_head z)
  ·obtain ⟨i,x,cc,s1,s2,rfl⟩:=at_ p hp'
   obtain ⟨y,hy,_⟩:=P.fit i x cc s1 s2
   have:=(List.getElem?_eq_some_iff.mp hy).1
   have:=P.use
   exact ⟨Int.natCast_nonneg _,by show ((cc:Nat):Int)<M;lia⟩
  ·obtain ⟨i,u,cc,s1,s2,rfl⟩:=at_ p hp1
   obtain ⟨j,v,cd,r1,r2,rfl⟩:=at_ q hq1
   have ecc:cc=cd:=Int.ofNat_inj.mp heq
   subst ecc
   have hu:u=spanOf x:=by
    obtain ⟨x',hx',rfl,_⟩:=spn u (List.mem_of_getElem? s1)
    rw [asc_key I.asc hx hx' ex]
   have hv:v=spanOf y:=by
    obtain ⟨y',hy',rfl,_⟩:=spn v (List.mem_of_getElem? r1)
    rw [asc_key I.asc hy hy' ey]
   have nij:i≠j:=fun z=>by
    subst z
    rw [s1] at r1
    exact hne (by rw [Option.some.inj r1])
   rcases Nat.lt_or_gt_of_ne nij with z|z
   ·have:=P.dis i j u v cc z s1 r1 s2 r2
    rw [hu,hv] at this
    exact .inl this
   ·have:=P.dis j i v u cc z r1 s1 r2 s2
    rw [hu,hv] at this
    exact .inr this
end
end Mine
end
section
namespace Mine
open PySem
noncomputable def bRow (tk:Int→Int→Bool)(i:Int)(m:Nat):List MV:=(List.range m).map fun (j:Nat)=> .bool (tk i (j:Int))
noncomputable def updB (tk:Int→Int→Bool)(s l:Int):Int→Int→Bool:=fun s' l'=>if s'=s∧l'=l then true else tk s' l'
theorem bRow_len {tk:Int→Int→Bool}{i:Int}{m:Nat}:(bRow tk i m).length=m:=by rw [bRow,List.length_map,List.length_range]
theorem bRow_at {tk:Int→Int→Bool}{i j m:Int}(h0:0≤j)(h1:j<m):atIdx (bRow tk i m.toNat) j=some (.bool (tk i j)):=atIdx_nn h0 (tab_at (f:=fun j=> .bool (tk i j)) h0 h1)
theorem bRow_set {tk:Int→Int→Bool}{i j:Int}{m:Nat}(h0:0≤j):(bRow tk i m).set j.toNat (.bool true)=bRow (updB tk i j) i m:=by
 apply List.ext_getElem?
 intro k
 rw [List.getElem?_set,bRow_len]
 unfold bRow updB
 rw [List.getElem?_map,List.getElem?_map]
 by_cases q:j.toNat=k
 ·subst q
  rw [if_pos rfl]
  by_cases h:j.toNat<m
  ·rw [if_pos h,List.getElem?_range h,Option.map_some,Int.toNat_of_nonneg h0,if_pos ⟨rfl,rfl⟩]
  ·rw [if_neg h,List.getElem?_eq_none (by rw [List.length_range];exact Nat.le_of_not_lt h)];rfl
 ·rw [if_neg q]
  refine Option.map_congr fun x hx=>?_
  have:x=k:=by
   rw [List.getElem?_eq_some_iff] at hx;obtain ⟨_,hx⟩:=hx;rw [List.getElem_range] at hx;exact hx.symm
  subst this
  rw [if_neg fun z=>q (by rw [←z.2];rfl)]
structure Tk (H:MH)(c:Addr)(rb:Int→Addr)(m k:Int)(tk:Int→Int→Bool):Prop where
 hl_:H c=some (.lst (refsOf rb m.toNat))
 row:∀ i,0≤i→i<m→H (rb i)=some (.lst (bRow tk i k.toNat))
 inj:∀ i j,0≤i→i<m→0≤j→j<m→rb i=rb j→i=j
 nhl:∀ i,0≤i→i<m→rb i≠c
section
variable {n:Nat}{hd:Bool}{H H':MH}{Z:Addr→Prop}{Q:MV→MH→Prop}{X:String→MH→Prop}{t rd hl so ke:Addr}{ra rb:Int→Addr}{seats stops coming:Int}{R:Rides}{g:Grid}{c:Addr}{m k:Int}{tk:Int→Int→Bool}
variable {Δ:CallT}{ρ:Sto}{Y:String→MH→Prop}
theorem Tk.set (T:Tk H c rb m k tk){s l:Int}(h0:0≤s)(h1:s<m)(h2:0≤l):Tk (H.set (rb s) (.lst ((bRow tk s k.toNat).set l.toNat (.bool true)))) c rb m k (updB tk s l):=by
 refine ⟨(MH.set_neE _ _ (T.nhl s h0 h1).symm).trans T.hl_,fun i hi0 hi1=>?_,T.inj,T.nhl⟩
 by_cases q:i=s
 ·subst q;rw [MH.set_selfE,bRow_set h2]
 ·rw [MH.set_neE _ _ fun z=>q (T.inj i s hi0 hi1 h0 h1 z)]
  refine (T.row i hi0 hi1).trans ?_
  congr 2
  exact List.map_congr_left fun j _=>congrArg MV.bool (if_neg fun z=>q z.1).symm
theorem w_tgrid {x:String}{it mE:ME}(hit:Ev Δ false it ρ H (.rng 0 m 1))(m0:m≤1000)(k0:0≤k)(k1:k≤1000)(hm:∀ v H',Ext H H'→Ev Δ false mE (ρ.set x v) H' (.int k))
  (h:∀ c rb H',Ext H H'→Tk H' c rb m k (fun _ _=>false)→(∀ i,0≤i→i<m→H (rb i)=none)→Q (.ref c) H'):wE Δ false (.comp (.bin .mul (.list (.cons (.bool false) .nil)) mE) x it (.bool true)) ρ H Q Y:=by
 refine ⟨rfl,hit _ _ ⟨_,.rng,comp_inv (fun vs acc H'=>∃ rows:List Addr,acc=rows.map .ref∧rows.length+vs.length=m.toNat∧rows.Nodup∧(∀ x∈rows,H x=none∧H' x=some (.lst (List.replicate k.toNat (.bool false))))∧Ext H H') (fun _ _ _ _=> .rng) (fun _ _ _ h=>h) ?_ ?_ _ _ _ ?_ ⟨[],rfl,?_,.nil,⟨fun _ h=>(by cases h),Ext.refl _⟩⟩⟩⟩
 ·rintro v vs acc H' kk ⟨rows,e1,e2,e0,e3,E⟩ hk c1 hc1
  refine hm _ _ (E.trans (Ext.new _ hc1)) _ _ (BinR.rep (MH.set_selfE _ _ _) k0 (by unfold bigList;lia) fun c2 hc2=>?_)
  have hE:Ext H' ((H'.set c1 (.lst [MV.bool false])).set c2 (.lst (List.replicate k.toNat (.bool false)))):=(Ext.new _ hc1).trans (Ext.new _ hc2)
  have c0:H c2=none:=none_of_ext (E.trans (Ext.new _ hc1)) hc2
  refine hk _ _ ⟨rows++ [c2],by rw [e1,List.map_append];rfl,by rw [List.length_cons] at e2;rw [List.length_append,List.length_singleton];lia,?_,fun y hy=>?_,E.trans hE⟩
  ·rw [List.nodup_append]
   exact ⟨e0,List.pairwise_singleton _ _,fun y hy z hz=>List.mem_singleton.mp hz▸ext_ne hc1 hc2 (e3 y hy).2⟩
  ·rcases List.mem_append.mp hy with hy|hy
   ·exact ⟨(e3 y hy).1,hE _ _ (e3 y hy).2⟩
   ·obtain rfl:=List.mem_singleton.mp hy;exact ⟨c0,MH.set_selfE _ _ _⟩
 ·rintro acc H' c ⟨rows,e1,e2,e0,e3,E⟩ hc
  have e2:rows.length=m.toNat:=e2
  have E2:=Ext.new (.lst acc) hc
  have lt:∀ i,0≤i→i<m→i<rows.length:=fun i h0 h1=>by rw [e2];lia
  have mem:∀ i,0≤i→i<m→rows.getD i.toNat 0∈rows:=fun i h0 h1=>by obtain ⟨q,e⟩:=rows_at (rows:=rows) h0 (lt i h0 h1);rw [e];exact List.getElem_mem q
  refine h c (fun i=>rows.getD i.toNat 0) _ (E.trans E2) ⟨(MH.set_selfE _ _ _).trans (by rw [e1,rows_refs e2]),fun i h0 h1=>(E2 _ _ (e3 _ (mem i h0 h1)).2).trans ?_,fun i j h0 h1 h2 h3 q=>?_,fun i h0 h1=>mne hc (e3 _ (mem i h0 h1)).2⟩ fun i h0 h1=>(e3 _ (mem i h0 h1)).1
  ·unfold bRow;rw [List.map_const',List.length_range]
  ·obtain ⟨i2,i3⟩:=rows_at (rows:=rows) h0 (lt i h0 h1)
   obtain ⟨j2,j3⟩:=rows_at (rows:=rows) h2 (lt j h2 h3)
   have q':rows[i.toNat]=rows[j.toNat]:=i3.symm.trans (q.trans j3)
   have:=(List.getElem_inj e0).mp q'
   lia
 ·rw [List.length_map,rangeL_len1,List.length_nil,Nat.zero_add];unfold bigList;lia
 ·rw [List.length_map,rangeL_len1,List.length_nil,Nat.zero_add,Int.sub_zero]
theorem max_ex:∀{l:List Int},l≠ []→∃ m∈l,∀ x∈l,x≤m
 | [],h=>absurd rfl h
 | [a],_=>⟨a,.head _,fun x hx=>by obtain rfl:=List.mem_singleton.mp hx;exact Int.le_refl _⟩
 |a::b::l,_=>by
  obtain ⟨m,hm,hx⟩:=max_ex (l:=b::l) (by intro z;cases z)
  by_cases q:a≤m
  ·exact ⟨m,.tail _ hm,fun x h=>by rcases List.mem_cons.mp h with rfl|h;exact q;exact hx x h⟩
  ·exact ⟨a,.head _,fun x h=>by rcases List.mem_cons.mp h with rfl|h;exact Int.le_refl _;exact Int.le_trans (hx x h) (by lia)⟩
end
end Mine
end
section
namespace Mine
open PySem
noncomputable def shown (i:Int):Str:=Str.ofString (toString i)
noncomputable def isFig (c:Nat):Bool:=decide (48≤c)&&decide (c≤57)
theorem figs:(Str.ofString "0123456789").cps.toList=[48,49,50,51,52,53,54,55,56,57]:=by decide+kernel
theorem fig_in (c:Nat):Txt.contains (Str.ofString "0123456789") ⟨#[c]⟩=isFig c:=by
 unfold Txt.contains
 rw [StrLaws.found_one,figs]
 show decide (c∈List.range' 48 10)=_
 unfold isFig
 rw [←Bool.decide_and]
 exact decide_eq_decide.mpr (List.mem_range'_1.trans (and_congr_right fun _=>Nat.lt_succ_iff))
theorem digit_no:∀ d:Nat,d<10→0<d→(Nat.digitChar d).toNat≠48:=by decide
theorem lead_no (m:Nat):0<m→∃ c r,Nat.toDigits 10 m=c::r∧c.toNat≠48:=by
 induction m using Nat.strongRecOn with
 |_ m ih=>
  intro h0
  by_cases h:m<10
  ·exact ⟨_,[],Nat.toDigits_of_lt_base h,digit_no m h h0⟩
  ·have hp:0<m/10:=Nat.div_pos (Nat.not_lt.mp h) (by decide)
   obtain ⟨c,r,e,hc⟩:=ih (m/10) (Nat.div_lt_self h0 (by decide)) hp
   have t:Nat.toDigits 10 (m/10)++Nat.toDigits 10 (m%10)=Nat.toDigits 10 (10*(m/10)+m%10):=Nat.toDigits_append_toDigits (by decide) hp (Nat.mod_lt m (by decide))
   rw [Nat.div_add_mod] at t
   exact ⟨c,_,by rw [←t,e];rfl,hc⟩
theorem shown_cps {i:Int}(h0:0≤i):(shown i).cps.toList=(Nat.toDigits 10 i.toNat).map Char.toNat:=by
 obtain ⟨m,rfl⟩:=Int.eq_ofNat_of_zero_le h0
 exact PySem.W.KIN.signs_num m
theorem shown_len {i:Int}(h0:0≤i){k:Nat}(hk:1≤k)(h1:i<10^k):(shown i).length≤k:=by
 show (shown i).cps.toList.length≤k
 rw [shown_cps h0,List.length_map]
 obtain ⟨m,rfl⟩:=Int.eq_ofNat_of_zero_le h0
 have:((m:Nat):Int)<((10^k:Nat):Int):=by rw [Int.natCast_pow];exact h1
 exact PyProof.Rows.digits10_le hk (Int.ofNat_lt.mp this)
theorem shown_ne {i:Int}(h0:0≤i):1≤(shown i).length:=by
 show 1≤(shown i).cps.toList.length
 rw [shown_cps h0,List.length_map]
 exact PyProof.Rows.tDigits_len_ge 10 _
theorem shown_fig {i:Int}(h0:0≤i):∀ c∈(shown i).cps.toList,isFig c=true:=fun c hc=>by
 rw [shown_cps h0] at hc
 obtain ⟨ch,hch,rfl⟩:=List.mem_map.mp hc
 obtain ⟨a,b⟩:=PyProof.Rows.digit_range (Nat.isDigit_of_mem_toDigits (by decide) (by decide) hch)
 exact Bool.and_eq_true_iff.mpr ⟨decide_eq_true a,decide_eq_true b⟩
theorem shown_lead {i:Int}(h0:0≤i)(h:1<(shown i).length):∀ c,(shown i).cps[0]? =some c→c≠48:=fun c hc=>by
 rw [←Array.getElem?_toList,shown_cps h0] at hc
 have h:1<(shown i).cps.toList.length:=h
 rw [shown_cps h0,List.length_map] at h
 have hp:0<i.toNat:=by
  cases q:i.toNat with
  |zero=>rw [q] at h;exact absurd h (by decide)
  |succ=>exact Nat.succ_pos _
 obtain ⟨d,r,e,hd⟩:=lead_no i.toNat hp
 rw [e] at hc
 exact Option.some.inj hc▸hd
noncomputable def sp:Str:=Str.ofString " "
noncomputable def nl:Str:=Str.ofString "\n"
theorem sp_is:sp=⟨#[32]⟩:=by decide+kernel
theorem nl_is:nl=⟨#[10]⟩:=by decide+kernel
theorem cut_one {c:Nat}{x y X Y:List Nat}(hx:c ∉ x)(hy:c ∉ y)(h:x++c::X=y++c::Y):x=y∧X=Y:=by
 induction x generalizing y with
 |nil=>
  cases y with
  |nil=>exact ⟨rfl,(List.cons.inj h).2⟩
  |cons b y=>exact absurd (.head _) ((List.cons.inj h).1▸hy)
 |cons a x ih=>
  cases y with
  |nil=>exact absurd (.head _) ((List.cons.inj h).1▸hx)
  |cons b y=>
   obtain ⟨h1,h2⟩:=List.cons.inj h
   obtain ⟨e1,e2⟩:=ih (fun z=>hx (.tail _ z)) (fun z=>hy (.tail _ z)) h2
   exact ⟨by rw [h1,e1],e2⟩
theorem join_cps {c:Nat}{w u:Str}{us:List Str}:(Str.join ⟨#[c]⟩ (w::u::us)).cps.toList=w.cps.toList++c::(Str.join ⟨#[c]⟩ (u::us)).cps.toList:=by
 show (w++⟨#[c]⟩++Str.join ⟨#[c]⟩ (u::us)).cps.toList=_
 show ((w.cps++ #[c])++(Str.join ⟨#[c]⟩ (u::us)).cps).toList=_
 rw [Array.toList_append,Array.toList_append,List.append_assoc];rfl
theorem join_one {c:Nat}:∀{ts us:List Str},ts≠ []→us≠ []→(∀ t∈ts,c ∉ t.cps.toList)→(∀ u∈us,c ∉ u.cps.toList)→Str.join ⟨#[c]⟩ ts=Str.join ⟨#[c]⟩ us→ts=us:=by
 intro ts
 induction ts with
 |nil=>intro us h;exact absurd rfl h
 |cons t ts ih=>
  intro us _ hu ht hus h
  cases us with
  |nil=>exact absurd rfl hu
  |cons u us=>
   have h':(Str.join ⟨#[c]⟩ (t::ts)).cps.toList=(Str.join ⟨#[c]⟩ (u::us)).cps.toList:=by rw [h]
   have eqs:∀{a b:Str},a.cps.toList=b.cps.toList→a=b:=fun {a b} e=>Str.ext' (Array.toList_inj.mp e)
   cases ts with
   |nil=>
    cases us with
    |nil=>exact congrArg (· :: []) h
    |cons u' us=>
     rw [join_cps] at h'
     have:c∈t.cps.toList:=by show c∈(Str.join ⟨#[c]⟩ [t]).cps.toList;rw [h'];exact List.mem_append.mpr (.inr (.head _))
     exact absurd this (ht t (.head _))
   |cons t' ts=>
    cases us with
    |nil=>
     rw [join_cps] at h'
     have:c∈u.cps.toList:=by show c∈(Str.join ⟨#[c]⟩ [u]).cps.toList;rw [←h'];exact List.mem_append.mpr (.inr (.head _))
     exact absurd this (hus u (.head _))
    |cons u' us=>
     rw [join_cps,join_cps] at h'
     obtain ⟨e1,e2⟩:=cut_one (ht t (.head _)) (hus u (.head _)) h'
     rw [eqs e1,ih (List.cons_ne_nil _ _) (List.cons_ne_nil _ _) (fun x hx=>ht x (.tail _ hx)) (fun x hx=>hus x (.tail _ hx)) (eqs e2)]
theorem split_back {c:Nat}{ts:List Str}(hn:ts≠ [])(h:∀ t∈ts,c ∉ t.cps.toList):Txt.split (Txt.join ⟨#[c]⟩ ts) ⟨#[c]⟩=ts:=by
 have e:Txt.join ⟨#[c]⟩ ts=Str.join ⟨#[c]⟩ ts:=StrLaws.glued_eq_join _ _
 have p:Txt.split (Txt.join ⟨#[c]⟩ ts) ⟨#[c]⟩≠ []:=fun z=>by have:=PyProof.Rows.split_pos (Txt.join ⟨#[c]⟩ ts) ⟨#[c]⟩;rw [z] at this;exact absurd this (by decide)
 exact join_one p hn (StrLaws.split_free _ _) h ((StrLaws.join_split _ _).trans e)
noncomputable def lineOf (w:Str)(is:List Int):Str:=Txt.join sp (w::is.map shown)
theorem shown_free {i:Int}(h0:0≤i){c:Nat}(hc:isFig c=false):c ∉(shown i).cps.toList:=fun z=>by rw [shown_fig h0 c z] at hc;cases hc
theorem line_split {w:Str}{is:List Int}(hw:32 ∉ w.cps.toList)(h:∀ i∈is,0≤i):Txt.split (lineOf w is) sp=w::is.map shown:=by
 unfold lineOf
 rw [sp_is]
 refine split_back (List.cons_ne_nil _ _) fun t ht=>?_
 cases ht with
 |head=>exact hw
 |tail _ ht=>
  obtain ⟨i,hi,rfl⟩:=List.mem_map.mp ht
  exact shown_free (h i hi) rfl
theorem line_free {w:Str}{is:List Int}(hw:10 ∉ w.cps.toList)(h:∀ i∈is,0≤i):10 ∉(lineOf w is).cps.toList:=by
 unfold lineOf
 rw [sp_is]
 show 10 ∉(Builtin.Str.glued ⟨#[32]⟩ (w::is.map shown)).cps.toList
 rw [StrLaws.glued_eq_join]
 induction is generalizing w with
 |nil=>exact hw
 |cons i is ih=>
  rw [List.map_cons,join_cps]
  intro z
  rcases List.mem_append.mp z with z|z
  ·exact hw z
  ·cases z with
   |tail _ z=>exact ih (shown_free (h i (.head _)) rfl) (fun j hj=>h j (.tail _ hj)) z
end Mine
end
section
namespace Mine
open PySem
section
variable {n:Nat}{hd:Bool}{H H':MH}{Q:MV→MH→Prop}{X:String→MH→Prop}
noncomputable def signs (w:Str):List MV:=w.cps.toList.map fun c=> .str ⟨#[c]⟩
theorem s_forS {Δ:CallT}{N:Sto→MH→Prop}{R:MV→MH→Prop}{Y:String→Sto→MH→Prop}{ss:MSs}{x:String}{it:ME}{b:MSs}{w:Str}{ρ:Sto}(I:List MV→Sto→MH→Prop)(hit:Ev Δ false it ρ H (.str w))(h:I (signs w) ρ H)
  (step:∀ v vs ρ H k,I (v::vs) ρ H→(∀ ρ' H',I vs ρ' H'→k ρ' H')→wSs Δ false b (ρ.set x v) H k R Y) (fin:∀ ρ H,I [] ρ H→wSs Δ false ss ρ H N R Y):wSs Δ false (.cons (.for_ x it b) ss) ρ H N R Y:=
 ⟨rfl,hit _ _ ⟨_,.str,for_inv I (fun vs ρ H i=> .str) step fin h⟩⟩
theorem item_zero {w:Str}(h:1≤w.length):Txt.charAt w 0=w.cps[0]? ∧∃ c,w.cps[0]? =some c:=by
 have h':0<w.cps.size:=h
 refine ⟨?_,⟨_,getElem?_pos w.cps 0 h'⟩⟩
 unfold Txt.charAt
 rw [seqIndex_pos (by decide) h];rfl
theorem ev_f {Δ:CallT}{ρ:Sto}{e:ME}{b:Bool}(he:Ev Δ hd e ρ H (.bool b))(h:b=false):Ev Δ hd e ρ H (.bool false):=h▸he
theorem zero_is:Str.ofString "0"=⟨#[48]⟩:=by decide+kernel
theorem s_number_of {i:Int}(h0:0≤i)(h1:i<1000000000)(h:Q (.int i) H):callW theP (n+1) false "number_of" [.str (shown i)] H Q X:=by
 refine call_of (d:=f_number_of) rfl rfl ?_
 have l9:(shown i).length≤9:=shown_len h0 (by decide) h1
 have l1:=shown_ne h0
 have hlen:∀{ρ:Sto},ρ "word"=some (.str (shown i))→Ev (callW theP n) false (.bi "len" (.cons (.var "word") .nil)) ρ H (.int (shown i).length):=fun h=>Ev.lenS (Ev.var h) (Nat.le_trans l9 (by decide))
 obtain ⟨e1,c,e2⟩:=item_zero l1
 refine s_skip (Ev.or (EvO.f (Ev.not (b:=true) (Ev.chain Ev.int (EvC.t (hlen rfl) (?_:CmpR H .le _ _ true) (EvC.one Ev.gconst (?_:CmpR H .le _ (.int 9) true))))) (EvO.one (ev_f (Ev.and (EvA.any (Ev.cmp (Ev.sign (Ev.var rfl) Ev.int ⟨by decide,by decide⟩ (by rw [e1,e2];rfl)) Ev.str .eqs) (EvA.one (Ev.cmp (hlen rfl) Ev.int .gt)))) ?_)))) ?_
 ·have:=CmpR.le (H:=H) (x:=1) (y:=(shown i).length);rwa [decide_eq_true (show (1:Int)≤((shown i).length:Int) from Int.ofNat_le.mpr l1)] at this
 ·have:=CmpR.le (H:=H) (x:=(shown i).length) (y:=9);rwa [decide_eq_true (show ((shown i).length:Int)≤9 from Int.ofNat_le.mpr l9)] at this
 ·by_cases q:1<(shown i).length
  ·have:¬ Txt.item (shown i) 0=Str.ofString "0":=fun z=>by
    unfold Txt.item at z
    rw [e1,e2,zero_is] at z
    have z:c=48:=by have:=congrArg (fun s=>s.cps.toList) z;exact (List.cons.inj this).1
    exact shown_lead h0 q c e2 z
   rw [decide_eq_false this];rfl
  ·rw [decide_eq_false (show ¬(1:Int)<((shown i).length:Int) from fun z=>q (Int.ofNat_lt.mp z)),Bool.and_false]
 refine s_forS (fun vs ρ H'=>H'=H∧ρ "word"=some (.str (shown i))∧∀ v∈vs,v∈signs (shown i)) (Ev.var rfl) ⟨rfl,rfl,fun v hv=>hv⟩ ?_ fun ρ H' z=>s_ret (Ev.intS (Ev.var z.2.1) (Nat.le_trans l9 (by decide)) (PySem.W.KIN.num_reads h0 (Int.lt_trans h1 (by decide)))) (z.1▸h)
 rintro v vs ρ H' k ⟨rfl,hρ,hv⟩ hk
 obtain ⟨d,hd',rfl⟩:=List.mem_map.mp (hv v (.head _))
 have cc:CmpR H' .notin (.str ⟨#[d]⟩) (.str (Str.ofString "0123456789")) false:=by
  have:=CmpR.notins (H:=H') (x:=⟨#[d]⟩) (y:=Str.ofString "0123456789");rwa [fig_in,shown_fig h0 d hd'] at this
 exact s_skip (Ev.cmp (by array_get_dec) Ev.gconst cc) (s_done (hk _ _ ⟨rfl,by sizeOf_list_dec,fun u hu=>hv u (.tail _ hu)⟩))
theorem cut_tail {α:Type}(x:α)(l:List α):cut (x::l) (some 1) none=l:=by
 unfold cut
 simp [clipAt]
 have e:(max 0 (min 1 ((l.length:Int)+1))).toNat=1:=by rw [Int.min_eq_left (Int.le_add_of_nonneg_left (Int.natCast_nonneg _))];rfl
 rw [e];simp
noncomputable def numMV:MV→MV
 | .str w=>(match intText? w with|some i=> .int i|none=> .none)
 |_=> .none
theorem num_back {i:Int}(h0:0≤i)(h1:i<1000000000):numMV (.str (shown i))=.int i:=by
 show (match intText? (shown i) with|some i=>MV.int i|none=> .none)=_
 rw [show intText? (shown i)=some i from PySem.W.KIN.num_reads h0 (Int.lt_trans h1 (by decide))]
theorem s_numbers_of {w:Str}{is:List Int}(hw:32 ∉ w.cps.toList)(h0:∀ i∈is,0≤i∧i<1000000000)(hl:(lineOf w is).length<bigList)(hi:is.length≤100000)(h:∀ c H',H c=none→Ext H H'→H' c=some (.lst (is.map .int))→Q (.ref c) H'):callW theP (n+2) false "numbers_of" [.str (lineOf w is),.str w] H Q X:=by
 refine call_of (d:=f_numbers_of) rfl rfl ?_
 have sp1:(sp.length==0)=false:=by decide+kernel
 refine s_let (w_split (y:=sp) (Ev.var rfl) Ev.str sp1 hl ?_)
 rw [line_split hw fun i hi=>(h0 i hi).1]
 intro c hc
 have E1:=Ext.new (H:=H) (.lst ((w::is.map shown).map MV.str)) hc
 have h1:(H.set c (.lst ((w::is.map shown).map MV.str))) c=some (.lst (MV.str w::(is.map shown).map .str)):=MH.set_selfE _ _ _
 generalize H.set c (.lst ((w::is.map shown).map MV.str))=H1 at E1 h1
 refine s_skip (Ev.cmp (Ev.item (by array_get_dec) Ev.int h1 rfl) (by array_get_dec) str_ne) (s_retw ⟨rfl,w_slice (Ev.var (by sizeOf_list_dec)) (.inl h1) Ev.int Ev.none .int .none ?_⟩)
 rw [cut_tail]
 intro c2 hc2
 have E2:=Ext.new (H:=H1) (.lst ((is.map shown).map MV.str)) hc2
 have h2:(H1.set c2 (.lst ((is.map shown).map MV.str))) c2=some (.lst ((is.map shown).map MV.str)):=MH.set_selfE _ _ _
 generalize H1.set c2 (.lst ((is.map shown).map MV.str))=H2 at E2 h2
 refine ⟨_,.lst (.inl h2),comp_pure (fun _=>true) numMV (.lst (.inl h2)) _ _ (fun v hv k hk=>hk) (fun v hv _ k hk=>?_) (by rw [List.length_nil,List.length_map,List.length_map,Nat.zero_add];exact Nat.le_trans hi (by decide)) ?_⟩
 ·obtain ⟨u,hu,rfl⟩:=List.mem_map.mp hv
  obtain ⟨i,hi,rfl⟩:=List.mem_map.mp hu
  obtain ⟨a,b⟩:=h0 i hi
  rw [num_back a b] at hk
  exact w_call (Evs.cons (by array_get_dec) Evs.nil) (s_number_of a b hk)
 ·have e:([]++(((is.map shown).map MV.str).filter fun _=>true).map numMV)=is.map MV.int:=by
   rw [List.filter_eq_self.mpr fun _ _=>rfl,List.nil_append,List.map_map,List.map_map]
   exact List.map_congr_left fun i hi=>num_back (h0 i hi).1 (h0 i hi).2
  rw [e]
  exact fun c3 hc3=>h c3 _ (none_of_ext (E1.trans E2) hc3) ((E1.trans E2).trans (Ext.new _ hc3)) (MH.set_selfE _ _ _)
end
end Mine
end
section
namespace Mine
open PySem
theorem goes_mid {seats e:Int}{p:Part}{rest:List Part}:∀{ah:List Part} {b:Int},Goes seats b (ah++p::rest) e→(0≤p.1∧p.1<seats∧b≤p.2.1∧p.2.1<p.2.2∧p.2.2≤e)∧(∀ q,ah.getLast? =some q→q.2.2=p.2.1∧q.1≠p.1)∧∀ q∈ah,q.2.2≤p.2.1:=by
 intro ah
 induction ah with
 |nil=>exact fun G=>⟨G.mem p (.head _),fun q h=>(by cases h),fun q h=>(by cases h)⟩
 |cons a ah ih=>
  intro b G
  cases ah with
  |nil=>
   cases G with
   |cons h0 h1 h2 hs t=>
    obtain ⟨a0,a1,a2,a3,a4⟩:=t.mem p (.head _)
    have hm:=goes_first t
    obtain ⟨q,hq,e1⟩:=hm
    obtain rfl:=Option.some.inj hq
    exact ⟨⟨a0,a1,Int.le_trans (Int.le_of_lt h2) a2,a3,a4⟩,fun q hq=>by cases hq;exact ⟨e1.symm,hs⟩,fun q hq=>by obtain rfl:=List.mem_singleton.mp hq;exact a2⟩
  |cons a' ah=>
   cases G with
   |cons h0 h1 h2 hs t=>
    obtain ⟨⟨a0,a1,a2,a3,a4⟩,b1,b2⟩:=ih t
    refine ⟨⟨a0,a1,Int.le_trans (Int.le_of_lt h2) a2,a3,a4⟩,fun q hq=>b1 q (by rw [List.getLast?_cons_cons] at hq;exact hq),fun q hq=>?_⟩
    cases hq with
    |head=>exact a2
    |tail _ hq=>exact b2 q hq
noncomputable def rowIs (x:Int×List Part):List Int:=x.1::x.2.flatMap fun p=>[p.1,p.2.1,p.2.2]
theorem flat_len (ps:List Part):(ps.flatMap fun p=>[p.1,p.2.1,p.2.2]).length=3*ps.length:=by
 induction ps with
 |nil=>rfl
 |cons p ps ih=>rw [List.flatMap_cons,List.length_append,ih];exact Nat.add_comm 3 _
theorem row_at {k:Int}{ah rest:List Part}{p:Part}{j:Nat}{x:Int}(h: [p.1,p.2.1,p.2.2][j]? =some x):atIdx ((rowIs (k,ah++p::rest)).map MV.int) ((1+3*ah.length+j:Nat):Int)=some (.int x):=by
 refine atIdx_nn (Int.natCast_nonneg _) ?_
 have hj:j<3:=(List.getElem?_eq_some_iff.mp h).1
 rw [Int.toNat_natCast,List.getElem?_map]
 unfold rowIs
 rw [List.flatMap_append,Nat.add_assoc,Nat.add_comm,List.getElem?_cons_succ,List.getElem?_append_right (by rw [flat_len];exact Nat.le_add_right _ _),flat_len,Nat.add_sub_cancel_left,List.flatMap_cons,List.getElem?_append_left hj,h];rfl
theorem range3 {j m:Nat}(h:j<m):rangeL ((1+3*j:Nat):Int) ((1+3*m:Nat):Int) 3=((1+3*j:Nat):Int)::rangeL ((1+3*(j+1):Nat):Int) ((1+3*m:Nat):Int) 3:=by
 rw [rangeL_cons (by decide) (by lia)]
 exact congrArg (fun x=>_::rangeL x _ 3) (by lia)
section
variable {n:Nat}{hd:Bool}{H H':MH}{Q:MV→MH→Prop}{X:String→MH→Prop}{t rd hl:Addr}{ra:Int→Addr}{seats stops coming:Int}{rides:List (Int×MV)}{g:Grid}
theorem le_b {x y:Int}{b:Bool}(h:decide (x≤y)=b):CmpR H .le (.int x) (.int y) b:=h▸ .le
theorem lt_b {x y:Int}{b:Bool}(h:decide (x<y)=b):CmpR H .lt (.int x) (.int y) b:=h▸ .lt
theorem s_sizeT (T:Tr H t rd hl ra seats stops coming rides g)(h:Q (.tup [.int seats,.int stops]) H):callW theP (n+1) hd "size" [.ref t] H Q X:=by
 have a1:=T.at_
 exact call_of (d:=f_Train_size) rfl rfl (s_ret (by array_get_dec) h)
theorem s_holderT (T:Tr H t rd hl ra seats stops coming rides g){s l:Int}(s0:0≤s)(s1:s<seats)(l0:0≤l)(l1:l<stops-1)(h:Q (mvo (g s l)) H):callW theP (n+2) false "holder" [.ref t,.int s,.int l] H Q X:=by
 have a1:=T.at_
 refine call_of (d:=f_Train_holder) rfl rfl ?_
 refine s_expr (w_meth (by array_get_dec) a1 rfl (by array_get_dec) (call_of (d:=f_Train_need_seat) rfl rfl (s_skip (Ev.not (b:=true) (Ev.chain Ev.int (EvC.t (by array_get_dec) (le_b (decide_eq_true s0)) (EvC.one (by array_get_dec) (lt_b (decide_eq_true s1)))))) (s_done ?_))))
 refine s_expr (w_meth (by array_get_dec) a1 rfl (by array_get_dec) (call_of (d:=f_Train_need_leg) rfl rfl (s_skip (Ev.not (b:=true) (Ev.chain Ev.int (EvC.t (by array_get_dec) (le_b (decide_eq_true l0)) (EvC.one (by array_get_dec) (lt_b (decide_eq_true l1)))))) (s_done ?_))))
 have a2:=T.hl_
 have a3:=T.row _ s0 s1
 have a4:=refsOf_at (ra:=ra) s0 s1
 have a5:=rowOf_at (g:=g) (i:=s) l0 l1
 exact s_ret (by array_get_dec) h
theorem s_unpack3 {Δ:CallT}{ρ:Sto}{e:ME}{x y z:String}{a b c:MV}{ss:MSs}{N:Sto→MH→Prop}{R:MV→MH→Prop}{Y:String→Sto→MH→Prop}(he:Ev Δ false e ρ H (.tup [a,b,c]))(h:wSs Δ false ss (((ρ.set x a).set y b).set z c) H N R Y):wSs Δ false (.cons (.unpack [x,y,z] e) ss) ρ H N R Y:=
 ⟨rfl,he _ _ ⟨_,_,rfl,.cons (.cons (.cons .nil)),h⟩⟩
theorem last_at {ah:List Part}{q:Part}(h:ah.getLast? =some q):atIdx (ah.map partMV) (-1)=some (partMV q):=by
 rw [List.getLast?_eq_getElem?] at h
 have hl:0<ah.length:=by
  cases ah with
  |nil=>cases h
  |cons=>exact Nat.succ_pos _
 unfold atIdx
 rw [if_neg (by decide),if_pos (by rw [List.length_map];lia),List.length_map,show (-1+(ah.length:Int)).toNat=ah.length-1 by lia,List.getElem?_map,h];rfl
theorem ne_nil {a c:Addr}{ah:List Part}(ha:H a=some (.lst (ah.map partMV)))(hc:H c=some (.lst [])):CmpR H .ne (.ref a) (.ref c) (!ah.isEmpty):=by
 have hx:DR H 8 (.ref a) (.list (ah.map fun p=> .tuple [.int p.1,.int p.2.1,.int p.2.2])):=⟨a,_,rfl,.inl ha,All2.maps fun p _=>⟨_,rfl,.cons rfl (.cons rfl (.cons rfl .nil))⟩⟩
 have hy:DR H 8 (.ref c) (.list []):=⟨c,[],rfl,.inl hc,.nil⟩
 have:=CmpR.ned hx hy
 have e:PyData.eqv (.list (ah.map fun p=>PyData.tuple [.int p.1,.int p.2.1,.int p.2.2])) (.list [])=ah.isEmpty:=by
  cases ah with
  |nil=>rfl
  |cons p l=>simp [PyData.eqv,PyData.eqvAll]
 rwa [e] at this
theorem w_cmpL {Δ:CallT}{ρ:Sto}{l r:ME}{op:COp}{a:MV}{Y:String→MH→Prop}(hl:Ev Δ hd l ρ H a)(h:wE Δ hd r ρ H (fun b H₁=>∃ c,CmpR H₁ op a b c∧Q (.bool c) H₁) Y):wE Δ hd (.cmp l (.cons op r .nil)) ρ H Q Y:=hl _ _ h
theorem int_ne {x y:Int}(h:x≠y):CmpR H .eq (.int x) (.int y) false:=by have:=CmpR.eqi (H:=H) (x:=x) (y:=y);rwa [decide_eq_false h] at this
theorem s_need_part (T:Tr H t rd hl ra seats stops coming rides g){ta:Addr}{ah:List Part}{p:Part}(ha:H ta=some (.lst (ah.map partMV)))(p0:0≤p.1)(p1:p.1<seats)(p2:0≤p.2.1)(p3:p.2.1<p.2.2)(p4:p.2.2≤stops-1)(hq:∀ q,ah.getLast? =some q→q.2.2=p.2.1∧q.1≠p.1)(hf:∀ l,p.2.1≤l→l<p.2.2→g p.1 l=none)(h:∀ H',Ext H H'→Q .none H'):callW theP (n+3) false "need_part" [.ref t,.ref ta,partMV p] H Q X:=by
 have a1:=T.at_
 have p5:p.2.2<stops:=Int.lt_of_le_sub_one p4
 refine call_of (d:=f_need_part) rfl rfl ?_
 refine s_unpack3 (Ev.var rfl) (s_let (w_meth (by array_get_dec) a1 rfl Evs.nil (s_sizeT T ?_)))
 refine s_skip (Ev.not (b:=true) (Ev.chain Ev.int (EvC.t (by array_get_dec) (le_b (decide_eq_true p0)) (EvC.one (by array_get_dec) (lt_b (decide_eq_true p1)))))) (s_skip (Ev.not (b:=true) (Ev.chain Ev.int (EvC.t (by array_get_dec) (le_b (decide_eq_true p2)) (EvC.t (by array_get_dec) (lt_b (decide_eq_true p3)) (EvC.one (by array_get_dec) (lt_b (decide_eq_true p5))))))) ?_)
 refine s_join (fun ρ H'=>(ρ "train"=some (.ref t)∧ρ "seat"=some (.int p.1)∧ρ "begin"=some (.int p.2.1)∧ρ "end"=some (.int p.2.2))∧Ext H H') (fun k hk=>?_) ?_
 ·refine s_itew (w_and2 (w_cmpL (by array_get_dec) (w_list Evs.nil fun c hc=>⟨_,ne_nil (Ext.new _ hc _ _ ha) (MH.set_selfE _ _ _),?_⟩)))
  have E1:=Ext.new (H:=H) (.lst []) hc
  have ha1:=E1 _ _ ha
  have fin:=hk ((((((Sto.ofArgs ["train","told","part"] [.ref t,.ref ta,partMV p]).set "seat" (.int p.1)).set "begin" (.int p.2.1)).set "end" (.int p.2.2)).set "size" (.tup [.int seats,.int stops]))) _ ⟨⟨by sizeOf_list_dec,by sizeOf_list_dec,by sizeOf_list_dec,by sizeOf_list_dec⟩,E1⟩
  cases ez:ah.getLast? with
  |none=>
   obtain rfl:=List.getLast?_eq_none_iff.mp ez
   exact it_f rfl (it_f rfl (s_done (s_done fin)))
  |some q=>
   obtain ⟨z1,z2⟩:=hq q ez
   have lq:=last_at ez
   have hne:(!ah.isEmpty)=true:=by
    cases ah with
    |nil=>cases ez
    |cons=>rfl
   exact it_t hne (Ev.or (EvO.f (Ev.cmp (Ev.itemT (vs:=[.int q.1,.int q.2.1,.int q.2.2]) (Ev.item (by array_get_dec) (Ev.neg Ev.int) ha1 lq) Ev.int rfl) (by array_get_dec) (by rw [z1];exact nz)) (EvO.one (Ev.cmp (Ev.itemT (vs:=[.int q.1,.int q.2.1,.int q.2.2]) (Ev.item (by array_get_dec) (Ev.neg Ev.int) ha1 lq) Ev.int rfl) (by array_get_dec) (int_ne z2)))) _ _ (it_f rfl (s_done (s_done fin))))
 rintro ρ H1 ⟨⟨r1,r2,r3,r4⟩,E1⟩
 have T1:=T.ext E1
 have sm:=T.hstops
 refine s_range (fun i ρ H'=>H'=H1∧ρ "train"=some (.ref t)∧ρ "seat"=some (.int p.1)) (Ev.range2 (Ev.var r3) (Ev.var r4) (smallOf p2 (by lia)) (smallOf (by lia) (by lia))) ⟨rfl,r1,r2⟩ ?_ fun i ρ H' _ z=>s_done (z.1▸h _ E1)
 rintro i ρ H' k i0 i1 ⟨rfl,q1,q2⟩ hk
 refine s_itew (w_meth (by array_get_dec) T1.at_ rfl (by array_get_dec) (s_holderT T1 p0 p1 (Int.le_trans p2 i0) (Int.lt_of_lt_of_le i1 p4) ⟨_,.isnotN,?_⟩))
 rw [hf i i0 i1]
 exact it_f rfl (s_done (s_done (hk _ _ ⟨rfl,by sizeOf_list_dec,by sizeOf_list_dec⟩)))
end
end Mine
end
section
namespace Mine
open PySem
section
variable {n:Nat}{hd:Bool}{H H':MH}{Q:MV→MH→Prop}{X:String→MH→Prop}{t rd hl:Addr}{ra:Int→Addr}{seats stops coming:Int}{rides:List (Int×MV)}{g:Grid}
theorem w_get {Δ:CallT}{ρ:Sto}{e x d:ME}{a:Addr}{es:List (Int×MV)}{k:Int}{Y:String→MH→Prop}(he:Ev Δ hd e ρ H (.ref a))(ha:H a=some (.dct es))(hx:Ev Δ hd x ρ H (.int k))(h:wE Δ hd d ρ H (fun v H₁=>H₁ a=some (.dct es)∧Q ((dGet es k).getD v) H₁) Y)(hm:∀(P P':MV→MH→Prop),(∀ v H,P v H→P' v H)→wE Δ hd d ρ H P Y→wE Δ hd d ρ H P' Y):wE Δ hd (.bm e "get" (.cons x (.cons d .nil))) ρ H Q Y:=
 he _ _ ⟨0,.dct ha rfl,hx _ _ (hm _ _ (fun v H₁ z=>⟨.dct z.1 rfl,.get z.1 z.2⟩) h)⟩
theorem w_methw {Δ:CallT}{ρ:Sto}{e:ME}{m:String}{es:MEs}{a:Addr}{fs:List (String×MV)}{Y:String→MH→Prop}(he:Ev Δ hd e ρ H (.ref a))(ha:H a=some (.inst fs))(hm:fsGet fs m=none)(h:wEs Δ hd es ρ H (fun vs H₂=>Δ hd m (.ref a::vs) H₂ Q Y) Y):wE Δ hd (.meth e m es) ρ H Q Y:=
 he _ _ ⟨a,fs,rfl,ha,hm,h⟩
theorem s_hold (T:Tr H t rd hl ra seats stops coming rides g)(hr:rides.length<1000000){k:Int}{ah:List Part}{p:Part}(hx:(dGet rides k=none∧ah=[])∨∃ c,dGet rides k=some (.ref c)∧H c=some (.lst (ah.map partMV)))(hal:ah.length≤1000000)(hp:PartsIn seats stops [p])
  (h:∀ c H',H c=none→Frm (Own t rd hl ra seats) H H'→H' c=some (.lst ((ah++ [p]).map partMV))→Tr H' t rd hl ra seats stops coming (dSet rides k (.ref c)) (markP g p (some k))→Q .none H'):callW theP (n+2) false "hold" [.ref t,.int k,partMV p] H Q X:=by
 refine call_of (d:=f_Train_hold) rfl rfl ?_
 have a1:=T.at_
 refine s_setIdxw (w_bin (w_get (Ev.attr (by array_get_dec) a1 rfl) T.rd_ (by array_get_dec) (w_list Evs.nil fun c0 hc0=>?_) fun P P' hPP z c hc=>hPP _ _ (z c hc)))
 have E0:=Ext.new (H:=H) (.lst []) hc0
 have h0:(H.set c0 (.lst [])) c0=some (.lst []):=MH.set_selfE _ _ _
 refine ⟨E0 _ _ T.rd_,?_⟩
 generalize H.set c0 (.lst [])=H0 at E0 h0
 obtain ⟨x,ex,hx'⟩:∃ x,(dGet rides k).getD (.ref c0)=.ref x∧H0 x=some (.lst (ah.map partMV)):=by
  rcases hx with ⟨e1,rfl⟩|⟨c,e1,e2⟩
  ·exact ⟨c0,by rw [e1];rfl,h0⟩
  ·exact ⟨c,by rw [e1];rfl,E0 _ _ e2⟩
 rw [ex]
 refine w_list (Evs.cons (by array_get_dec) Evs.nil) fun c1 hc1=>?_
 have E1:=Ext.new (H:=H0) (.lst [partMV p]) hc1
 have h1:(H0.set c1 (.lst [partMV p])) c1=some (.lst [partMV p]):=MH.set_selfE _ _ _
 generalize H0.set c1 (.lst [partMV p])=H1 at E1 h1
 refine .app (E1 _ _ hx') h1 (by rw [List.length_map,List.length_cons,List.length_nil];unfold bigList;lia) fun c2 hc2=>?_
 have E01:=E0.trans E1
 have hc2':=none_of_ext E01 hc2
 have E2:=E01.trans (Ext.new (H:=H1) (.lst (ah.map partMV++ [partMV p])) hc2)
 have h2:(H1.set c2 (.lst (ah.map partMV++ [partMV p]))) c2=some (.lst ((ah++ [p]).map partMV)):=by rw [MH.set_selfE,List.map_append];rfl
 generalize H1.set c2 (.lst (ah.map partMV++ [partMV p]))=H2 at E2 h2
 have T2:=T.ext E2
 have hno:=T.not_own hc2'
 have T3:=T2.setRides (dSet rides k (.ref c2))
 refine w_ev (v:=.ref rd) (Ev.attr (by array_get_dec) T2.at_ rfl) (w_ev (v:=.int k) (by array_get_dec) (.dct T2.rd_ (by unfold bigList;lia) ?_))
 have f3:Frm (Own t rd hl ra seats) H (H2.set rd (.dct (dSet rides k (.ref c2)))):=E2.frm.trans (frm_set (.inr (.inl rfl)))
 have h3:(H2.set rd (.dct (dSet rides k (.ref c2)))) c2=some (.lst ((ah++ [p]).map partMV)):=frm_set (own:=Own t rd hl ra seats) (.inr (.inl rfl)) _ _ hno h2
 generalize H2.set rd (.dct (dSet rides k (.ref c2)))=H3 at T3 f3 h3
 refine s_expr (w_methw (by array_get_dec) T3.at_ rfl (w_cons (w_list (Evs.cons (by array_get_dec) Evs.nil) fun c4 hc4=>w_evs (vs:=[mvo (some k)]) (Evs.cons (Ev.var (by sizeOf_list_dec)) Evs.nil) ?_)))
 have E4:=Ext.new (H:=H3) (.lst [partMV p]) hc4
 have T4:=T3.ext E4
 refine s_mark T4 (ps:=[p]) (kv:=some k) (MH.set_selfE _ _ _) (T3.not_own hc4) hp fun H5 T5 f5=>?_
 exact s_done (h c2 H5 hc2' ((f3.trans E4.frm).trans f5.cel) (f5.cel _ _ hno (E4 _ _ h3)) T5)
end
theorem d_none {es:List (Int×MV)}{k:Int}(h:dGet es k=none):∀ e∈es,e.1≠k:=by
 induction es with
 |nil=>exact fun _ h=>by cases h
 |cons x es ih=>
  have h':(if k=x.1 then some x.2 else dGet es k)=none:=h
  split at h'
  ·cases h'
  ·rename_i q
   intro e he
   cases he with
   |head=>exact fun z=>q z.symm
   |tail _ he=>exact ih h' e he
theorem d_any {es:List (Int×MV)}{k:Int}(h:dGet es k=none):(es.any fun e=>decide (e.1=k))=false:=by
 rw [List.any_eq_false]
 exact fun e he z=>d_none h e he (of_decide_eq_true z)
theorem d_new {es:List (Int×MV)}{k:Int}{v:MV}(h:dGet es k=none):dSet es k v=es++ [(k,v)]:=by
 unfold dSet;rw [d_any h];rfl
theorem d_again {es:List (Int×MV)}{k:Int}{v u:MV}(h:dGet es k=none):dSet (es++ [(k,v)]) k u=es++ [(k,u)]:=by
 unfold dSet
 rw [if_pos (by rw [List.any_append];simp),List.map_append]
 have:es.map (fun e=>if e.1=k then (e.1,u) else e)=es:=by
  refine (List.map_congr_left fun e he=>if_neg (d_none h e he)).trans (List.map_id _)
 rw [this];simp
theorem d_got {es:List (Int×MV)}{k:Int}{v:MV}(h:dGet es k=none):dGet (es++ [(k,v)]) k=some v:=by
 induction es with
 |nil=>exact if_pos rfl
 |cons x es ih=>
  have h':(if k=x.1 then some x.2 else dGet es k)=none:=h
  split at h'
  ·cases h'
  ·rename_i q;exact (if_neg q).trans (ih h')
section
variable {n:Nat}{hd:Bool}{H H':MH}{Q:MV→MH→Prop}{X:String→MH→Prop}{t rd hl:Addr}{ra:Int→Addr}{seats stops coming:Int}{rides:List (Int×MV)}{g:Grid}
noncomputable def SeatG (H0 H:MH)(t rd hl:Addr)(ra:Int→Addr)(seats stops coming:Int)(rides:List (Int×MV))(g:Grid)(k:Int)(ah:List Part)(ta:Addr):Prop:=
 (ah=[]∧Tr H t rd hl ra seats stops coming rides g)∨∃ c,Tr H t rd hl ra seats stops coming (rides++ [(k,.ref c)]) (marks g ah (some k))∧H c=some (.lst (ah.map partMV))∧¬ Own t rd hl ra seats c∧c≠ta∧H0 c=none
theorem SeatG.tr {H0:MH}{k:Int}{ah:List Part}{ta:Addr}(h:SeatG H0 H t rd hl ra seats stops coming rides g k ah ta):∃ r,Tr H t rd hl ra seats stops coming r (marks g ah (some k)):=h.elim (fun z=>by obtain ⟨rfl,z⟩:=z;exact ⟨_,z⟩) fun z=>z.elim fun c y=>⟨_,y.1⟩
inductive TickG (H0:MH)(t rd hl na ta:Addr)(ra:Int→Addr)(seats stops coming k:Int)(rides:List (Int×MV))(g:Grid)(ps:List Part)(vs:List MV)(ρ:Sto)(H':MH):Prop
 |mk (ah rest:List Part)(e:ps=ah++rest)(ev:vs=(rangeL ((1+3*ah.length:Nat):Int) ((1+3*ps.length:Nat):Int) 3).map .int)(r1:ρ "train"=some (.ref t))(r2:ρ "numbers"=some (.ref na))(r3:ρ "told"=some (.ref ta))(ht:H' ta=some (.lst (ah.map partMV)))(S:SeatG H0 H' t rd hl ra seats stops coming rides g k ah ta)(f:Frm (Own t rd hl ra seats) H0 H')
theorem ar_small {m:Nat}(h:m≤59):smallI ((1+3*m:Nat):Int):=smallOf (Int.natCast_nonneg _) (by lia)
theorem s_seat_ticket (T:Tr H t rd hl ra seats stops coming rides g)(hr:rides.length<900000){na:Addr}{k b e:Int}{ps:List Part}(hna:H na=some (.lst ((rowIs (k,ps)).map .int)))(hno:¬ Own t rd hl ra seats na)(hk:dGet rides k=none)(G:Goes seats b ps e)(b0:0≤b)(he:e≤stops-1)(hf:∀ s l,Covs ps s l→g s l=none)
  (hok:∀ c H',Tr H' t rd hl ra seats stops coming (rides++ [(k,.ref c)]) (marks g ps (some k))→H' c=some (.lst (ps.map partMV))→¬ Own t rd hl ra seats c→H c=none→Frm (Own t rd hl ra seats) H H'→Q .none H'):callW theP (n+4) false "seat_ticket" [.ref t,.ref na] H Q X:=by
 refine call_of (d:=f_seat_ticket) rfl rfl ?_
 have l59:ps.length≤59:=by have:=goes_len G;have:=T.hstops;lia
 refine s_let (w_list Evs.nil fun ta hta=>?_)
 have E1:=Ext.new (H:=H) (.lst []) hta
 have hnt:=T.not_own hta
 have h1:(H.set ta (.lst [])) ta=some (.lst []):=MH.set_selfE _ _ _
 generalize H.set ta (.lst [])=H1 at E1 h1
 have hlen:((rowIs (k,ps)).map MV.int).length=1+3*ps.length:=by rw [List.length_map];unfold rowIs;rw [List.length_cons,flat_len,Nat.add_comm]
 refine ⟨rfl,Ev.range3 Ev.int (Ev.lenL (by array_get_dec) (E1 _ _ hna)) Ev.int (smallOf (by decide) (by decide)) (by rw [hlen];exact ar_small l59) (smallOf (by decide) (by decide)) (by decide) _ _ ⟨_,.rng,?_⟩⟩
 rw [hlen]
 refine for_inv (TickG H t rd hl na ta ra seats stops coming k rides g ps) (fun vs ρ H i=> .rng) ?_ ?_ ⟨[],ps,rfl,rfl,by sizeOf_list_dec,by sizeOf_list_dec,by sizeOf_list_dec,h1,.inl ⟨rfl,T.ext E1⟩,E1.frm⟩
 ·rintro v vs ρ H2 kk ⟨ah,rest,ep,ev,r1,r2,r3,ht2,S2,f2⟩ hkk
  cases rest with
  |nil=>rw [List.append_nil] at ep;rw [←ep,rangeL_nil (by decide) (Int.le_refl _)] at ev;cases ev
  |cons p rest=>
   have al:ah.length<ps.length:=by rw [ep,List.length_append];exact Nat.lt_add_of_pos_right (Nat.succ_pos _)
   rw [range3 al,List.map_cons] at ev
   obtain ⟨rfl,rfl⟩:=List.cons.inj ev
   obtain ⟨⟨q0,q1,q2,q3,q4⟩,q5,q6⟩:=goes_mid (ep▸G)
   have hna2:=f2 na _ hno hna
   rw [ep] at hna2
   have x1:atIdx ((rowIs (k,ah++p::rest)).map MV.int) ((1+3*ah.length:Nat):Int)=some (.int p.1):=row_at (j:=0) rfl
   have x2:atIdx ((rowIs (k,ah++p::rest)).map MV.int) (((1+3*ah.length:Nat):Int)+1)=some (.int p.2.1):=row_at (j:=1) rfl
   have x3:atIdx ((rowIs (k,ah++p::rest)).map MV.int) (((1+3*ah.length:Nat):Int)+2)=some (.int p.2.2):=row_at (j:=2) rfl
   refine s_assign (v:=partMV p) (Ev.tup (Evs.cons (Ev.item (by array_get_dec) (by array_get_dec) hna2 x1) (Evs.cons (Ev.item (by array_get_dec) (by array_get_dec) hna2 x2) (Evs.cons (Ev.item (by array_get_dec) (by array_get_dec) hna2 x3) Evs.nil)))) ?_
   obtain ⟨r,T2⟩:=S2.tr
   have q4':=Int.le_trans q4 he
   refine s_expr (w_call (vs:=[.ref t,.ref ta,partMV p]) (by array_get_dec) (s_need_part T2 ht2 q0 q1 (Int.le_trans b0 q2) q3 q4' q5 (fun l l0 l1=>?_) fun H3 E3=>?_))
   ·rw [marks_out fun z=>by obtain ⟨q,hq,_,_,z2⟩:=z;exact absurd (Int.lt_of_lt_of_le z2 (Int.le_trans (q6 q hq) l0)) (Int.lt_irrefl _)]
    exact hf _ _ ⟨p,by rw [ep];exact List.mem_append.mpr (.inr (.head _)),rfl,l0,l1⟩
   have ht3:=E3 _ _ ht2
   have f3:=f2.trans E3.frm
   have T3:=T2.ext E3
   have hp:PartsIn seats stops [p]:=fun x hx=>by rw [List.mem_singleton.mp hx];exact ⟨q0,q1,Int.le_trans b0 q2,Int.le_of_lt q3,q4'⟩
   have al6:ah.length≤1000000:=Nat.le_trans (Nat.le_of_lt (Nat.lt_of_lt_of_le al l59)) (by decide)
   have hold:∀(Q':MV→MH→Prop) (X':String→MH→Prop),(∀ c4 H4,H3 c4=none→Frm (Own t rd hl ra seats) H3 H4→H4 c4=some (.lst ((ah++ [p]).map partMV))→Tr H4 t rd hl ra seats stops coming (rides++ [(k,.ref c4)]) (marks g (ah++ [p]) (some k))→Q' .none H4)→callW theP (n+3) false "hold" [.ref t,.int k,partMV p] H3 Q' X':=fun Q' X' hq=>by
    rw [marks_snoc] at hq
    rcases S2 with ⟨e,T4⟩|⟨c',T4,hc',_⟩
    ·subst e
     exact s_hold (T4.ext E3) (Nat.lt_trans hr (by decide)) (.inl ⟨hk,rfl⟩) al6 hp fun c4 H4 n4 f4 h4 T4=>hq c4 H4 n4 f4 h4 (d_new (v:=.ref c4) hk▸T4)
    ·exact s_hold (T4.ext E3) (by rw [List.length_append];exact Nat.lt_of_le_of_lt (Nat.succ_le_of_lt hr) (by decide)) (.inr ⟨c',d_got hk,E3 _ _ hc'⟩) al6 hp fun c4 H4 n4 f4 h4 T4=>hq c4 H4 n4 f4 h4 (d_again (u:=.ref c4) hk▸T4)
   refine s_expr (w_meth (vs:=[.int k,partMV p]) (by array_get_dec) T3.at_ rfl (Evs.cons (Ev.item (by array_get_dec) Ev.int (E3 _ _ hna2) rfl) (by array_get_dec)) (hold _ _ fun c4 H4 n4 f4 h4 T4=>?_))
   have ht4:=f4 _ _ hnt ht3
   have c4t:c4≠ta:=fun z=>by rw [z] at n4;rw [n4] at ht3;cases ht3
   refine s_expr (w_append (by array_get_dec) ht4 (by array_get_dec) (by rw [List.length_map];exact Nat.lt_of_le_of_lt al6 (by decide)) (s_done (hkk _ _ ⟨ah++ [p],rest,by rw [ep,List.append_assoc];rfl,by rw [List.length_append];rfl,by sizeOf_list_dec,by sizeOf_list_dec,by sizeOf_list_dec,by rw [MH.set_selfE,List.map_append];rfl,.inr ⟨c4,T4.keep fun a o' ho ea=>(MH.set_neE _ _ fun (z:a=ta)=>hnt (z▸ho)).trans ea,(MH.set_neE _ _ c4t).trans h4,T3.not_own n4,c4t,fresh_frm T3 f3 n4⟩,fun x o hx ex=>(MH.set_neE _ _ (mne hta ex)).trans ((f3.trans f4) x o hx ex)⟩)))
 ·rintro ρ H2 ⟨ah,rest,ep,ev,r1,r2,r3,ht2,S2,f2⟩
  cases rest with
  |cons p rest=>
   have al:ah.length<ps.length:=by rw [ep,List.length_append];exact Nat.lt_add_of_pos_right (Nat.succ_pos _)
   rw [range3 al] at ev;cases ev
  |nil=>
   rw [List.append_nil] at ep
   subst ep
   rcases S2 with ⟨e,_⟩|⟨c,T2,hc,n1,_,n2⟩
   ·exact absurd e G.ne
   ·exact s_done (hok c H2 T2 hc n1 n2 f2)
end
end Mine
end
section
namespace Mine
open PySem
noncomputable def tot (ws:List Str):Nat:=(ws.map fun w=>w.length).sum
theorem tot_mem {ws:List Str}{w:Str}(h:w∈ws):w.length≤tot ws:=by
 induction ws with
 |nil=>cases h
 |cons x ws ih=>
  unfold tot;rw [List.map_cons,List.sum_cons]
  cases h with
  |head=>exact Nat.le_add_right _ _
  |tail _ h=>exact Nat.le_trans (ih h) (Nat.le_add_left _ _)
theorem nl_len:nl.length=1:=by decide+kernel
theorem sp_len:sp.length=1:=by decide+kernel
theorem join_len {y t:Str}{ts:List Str}(hy:y.length=1):(Txt.join y (t::ts)).length=tot (t::ts)+ts.length:=by
 show (Builtin.Str.glued y (t::ts)).length=_
 rw [StrLaws.glued_eq_join,PyProof.Rows.len_join_cons,hy,Nat.mul_one];rfl
theorem join_ok {y:Str}{ts:List Str}(hy:y.length=1)(h:tot ts+ts.length≤1048576):JoinOk y ts=true:=PyProof.Rows.joinOk_of_weight h (by rw [hy];decide)
theorem tot_cons {w:Str}{ws:List Str}:tot (w::ws)=w.length+tot ws:=rfl
theorem tot_le {ws:List Str}{B:Nat}(h:∀ w∈ws,w.length≤B):tot ws≤ws.length*B:=StrLaws.sumLen_le ws h
noncomputable def textOf (seats stops coming:Int)(R:Rides):Str:=Txt.join nl (lineOf (Str.ofString "train") [seats,stops,coming]::R.map fun x=>lineOf (Str.ofString "ticket") (rowIs x))
theorem flat_mem {ps:List Part}{i:Int}(h:i∈ps.flatMap fun p=>[p.1,p.2.1,p.2.2]):∃ p∈ps,i=p.1∨i=p.2.1∨i=p.2.2:=by
 obtain ⟨p,hp,hi⟩:=List.mem_flatMap.mp h
 simp only [List.mem_cons,List.not_mem_nil,or_false] at hi
 exact ⟨p,hp,hi⟩
section
variable {n:Nat}{hd:Bool}{H H':MH}{Z:Addr→Prop}{Q:MV→MH→Prop}{X:String→MH→Prop}{t rd hl:Addr}{ra:Int→Addr}{seats stops coming:Int}{R:Rides}{g g':Grid}
theorem len_train:(Str.ofString "train").length=5:=by decide+kernel
theorem len_ticket:(Str.ofString "ticket").length=6:=by decide+kernel
theorem Inv.flat (I:Inv seats stops coming R g)(hs:seats≤60)(ht:stops≤60){x:Int×List Part}(hx:x∈R):x.2.length≤59∧∀ i∈x.2.flatMap (fun p=>[p.1,p.2.1,p.2.2]),0≤i∧i<100:=by
 obtain ⟨b,e,h0,he,G⟩:=I.goes x hx
 have l:=goes_len G
 refine ⟨by lia,fun i hi=>?_⟩
 obtain ⟨p,hp,hi⟩:=flat_mem hi
 obtain ⟨a1,a2,a3,a4,a5⟩:=G.mem p hp
 rcases hi with rfl|rfl|rfl<;>lia
theorem line_len {w:Str}{is:List Int}:(lineOf w is).length=w.length+tot (is.map shown)+is.length:=by
 unfold lineOf
 rw [join_len sp_len,tot_cons,List.length_map]
theorem text_len:(textOf seats stops coming R).length=(lineOf (Str.ofString "train") [seats,stops,coming]).length+tot (R.map fun x=>lineOf (Str.ofString "ticket") (rowIs x))+R.length:=by
 unfold textOf
 rw [join_len nl_len,tot_cons,List.length_map]
structure Fits (seats stops coming:Int)(R:Rides):Prop where
 nums:∀ x∈R,∀ i∈rowIs x,i.natAbs<2^64
 com:coming.natAbs<2^64
 parts:∀ x∈R,x.2.length≤10000
 line:∀ x∈R,JoinOk sp (Str.ofString "ticket"::(rowIs x).map shown)=true
 head:JoinOk sp (Str.ofString "train":: [seats,stops,coming].map shown)=true
 all:JoinOk nl (lineOf (Str.ofString "train") [seats,stops,coming]::R.map fun x=>lineOf (Str.ofString "ticket") (rowIs x))=true
theorem fits_of (I:Inv seats stops coming R g)(hs:seats≤60)(ht:stops≤60)(hc:0≤coming∧coming<1000000000)(hl:(textOf seats stops coming R).length≤1000000):Fits seats stops coming R:=by
 have L:=text_len (seats:=seats) (stops:=stops) (coming:=coming) (R:=R)
 have lo:∀{w:Str} {is:List Int},(lineOf w is).length≤1000000→JoinOk sp (w::is.map shown)=true:=fun {w is} h=>by
  have:=line_len (w:=w) (is:=is)
  exact join_ok sp_len (by rw [tot_cons,List.length_cons,List.length_map];lia)
 refine ⟨fun x hx i hi=>?_,by lia,fun x hx=>?_,fun x hx=>lo ?_,lo (by lia),join_ok nl_len ?_⟩
 ·obtain ⟨_,f2⟩:=I.flat hs ht hx
  have r:=I.rng x hx
  unfold rowIs at hi
  cases hi with
  |head=>lia
  |tail _ hi=>have:=f2 i hi;lia
 ·exact Nat.le_trans (I.flat hs ht hx).1 (by decide)
 ·have:=tot_mem (List.mem_map_of_mem (f:=fun x=>lineOf (Str.ofString "ticket") (rowIs x)) hx)
  lia
 ·rw [tot_cons,List.length_cons,List.length_map];lia
theorem tot_shown {is:List Int}{k:Nat}(hk:1≤k)(h:∀ i∈is,0≤i∧i<10^k):tot (is.map shown)≤is.length*k:=by
 have:=tot_le (ws:=is.map shown) (B:=k) fun w hw=>by
  obtain ⟨i,hi,rfl⟩:=List.mem_map.mp hw
  exact shown_len (h i hi).1 hk (h i hi).2
 rwa [List.length_map] at this
theorem run_text (I:Inv seats stops coming R g)(hs:1≤seats∧seats≤60)(ht:2≤stops∧stops≤60)(hc:0≤coming)(hR:R.length≤400∧coming≤400):2≤(textOf seats stops coming R).length∧(textOf seats stops coming R).length≤250000:=by
 rw [text_len,line_len,len_train]
 have a:tot ([seats,stops,coming].map shown)≤3*3:=tot_shown (k:=3) (by decide) fun i hi=>by
  simp only [List.mem_cons,List.not_mem_nil,or_false] at hi
  have e:(10:Int)^3=1000:=by decide
  rw [e]
  rcases hi with rfl|rfl|rfl<;>lia
 have b:tot (R.map fun x=>lineOf (Str.ofString "ticket") (rowIs x))≤(R.map fun x=>lineOf (Str.ofString "ticket") (rowIs x)).length*541:=tot_le fun w hw=>by
  obtain ⟨x,hx,rfl⟩:=List.mem_map.mp hw
  obtain ⟨f1,f2⟩:=I.flat hs.2 ht.2 hx
  have r:=I.rng x hx
  have e:(10:Int)^3=1000:=by decide
  have s1:(shown x.1).length≤3:=shown_len r.1 (by decide) (by rw [e];lia)
  have s2:=tot_shown (k:=2) (by decide) f2
  rw [flat_len] at s2
  rw [line_len,len_ticket]
  unfold rowIs
  rw [List.map_cons,tot_cons,List.length_cons,flat_len]
  lia
 rw [List.length_map] at b
 show 2≤5+_+3+_+_∧5+_+3+_+_≤250000
 lia
theorem w_joinE {Δ:CallT}{ρ:Sto}{e s:ME}{x:Str}{Y:String→MH→Prop}(he:Ev Δ hd e ρ H (.str x))(h:wE Δ hd s ρ H (fun v H₁=>KindR H₁ (.str x) "join" 2∧BmR H₁ Q "join" (.str x) [v]) Y):wE Δ hd (.bm e "join" (.cons s .nil)) ρ H Q Y:=he _ _ ⟨2,.str rfl,h⟩
theorem s_line_of {word:Str}{na:Addr}{is:List Int}(hn:H na=some (.lst (is.map .int)))(hl:is.length≤500000)(hb:∀ i∈is,i.natAbs<2^64)(hj:JoinOk sp (word::is.map shown)=true)(h:∀ H',Ext H H'→Q (.str (lineOf word is)) H'):callW theP (n+1) false "line_of" [.str word,.ref na] H Q X:=by
 refine call_of (d:=f_line_of) rfl rfl (s_retw (w_joinE (x:=sp) Ev.str (w_bin (w_list (Evs.cons (by array_get_dec) Evs.nil) fun c1 hc1=>?_))))
 have E1:=Ext.new (H:=H) (.lst [.str word]) hc1
 have h1:(H.set c1 (.lst [.str word])) c1=some (.lst [.str word]):=MH.set_selfE _ _ _
 generalize H.set c1 (.lst [.str word])=H1 at E1 h1
 refine w_compL (fun _=>true) (fun v=>match v with| .int i=> .str (shown i)|_=> .none) (by array_get_dec) (E1 _ _ hn) (by rw [List.length_map];unfold bigList;lia) (fun v hv=>Ev.bool) (fun v hv _=>?_) fun c2 hc2=>?_
 ·obtain ⟨i,hi,rfl⟩:=List.mem_map.mp hv
  exact Ev.strI (by array_get_dec) (hb i hi)
 rw [List.filter_eq_self.mpr fun _ _=>rfl,List.map_map]
 have E2:=Ext.new (H:=H1) (.lst (is.map fun i=>MV.str (shown i))) hc2
 have h2:(H1.set c2 (.lst (is.map fun i=>MV.str (shown i)))) c2=some (.lst (is.map fun i=>MV.str (shown i))):=MH.set_selfE _ _ _
 show BinR (H1.set c2 (.lst (is.map fun i=>MV.str (shown i)))) _ _ _ _
 generalize H1.set c2 (.lst (is.map fun i=>MV.str (shown i)))=H2 at E2 h2
 refine .app (E2 _ _ h1) h2 (by rw [List.length_cons,List.length_nil,List.length_map];unfold bigList;lia) fun c3 hc3=>⟨.str rfl,.join (ts:=word::is.map shown) (.inl ?_) hj (h _ ((E1.trans E2).trans (Ext.new _ hc3)))⟩
 rw [MH.set_selfE,List.map_cons,List.map_map];rfl
theorem w_bmA {Δ:CallT}{ρ:Sto}{e:ME}{es:MEs}{a:Addr}{l:List MV}{Y:String→MH→Prop}(he:Ev Δ hd e ρ H (.ref a))(ha:H a=some (.lst l))(h:wEs Δ hd es ρ H (fun vs H₂=>KindR H₂ (.ref a) "append" 1∧BmR H₂ Q "append" (.ref a) vs) Y):wE Δ hd (.bm e "append" es) ρ H Q Y:=he _ _ ⟨1,.lst ha rfl,h⟩
theorem part_loop {m:Nat}{pa na:Addr}{k:Int}{ps:List Part}{ss:MSs}{ρ₀:Sto}{H1:MH}{lines train:MV}{N:Sto→MH→Prop}{RR:MV→MH→Prop}{Y:String→Sto→MH→Prop}(hp:H1 pa=some (.lst (ps.map partMV)))(hn:H1 na=some (.lst [.int k]))(hl:ps.length≤10000)(r1:ρ₀ "numbers"=some (.ref na))(r2:ρ₀ "lines"=some lines)(r3:ρ₀ "train"=some train)
  (hok:∀ ρ H' c,Ext H1 H'→H' c=some (.lst ((rowIs (k,ps)).map .int))→ρ "numbers"=some (.ref c)→ρ "lines"=some lines→ρ "train"=some train→wSs (callW theP m) false ss ρ H' N RR Y):
  forW (.ref pa) (ps.map partMV) (fun v ρ H k=>wSs (callW theP m) false (.cons (.assign "numbers" (.bin .add (.var "numbers") (.bi "list" (.cons (.var "part") .nil)))) .nil) (ρ.set "part" v) H k RR Y) (fun ρ H=>wSs (callW theP m) false ss ρ H N RR Y) (ps.map partMV) ρ₀ H1:=by
 refine for_inv (fun vs ρ H'=>∃ pre rest c,ps=pre++rest∧vs=rest.map partMV∧Ext H1 H'∧H' c=some (.lst ((rowIs (k,pre)).map .int))∧ρ "numbers"=some (.ref c)∧ρ "lines"=some lines∧ρ "train"=some train)
  (fun vs ρ H' z=>by obtain ⟨_,_,_,_,_,q,_⟩:=z;exact .lst (.inl (q _ _ hp))) ?_ ?_ ⟨[],ps,na,rfl,rfl,.refl _,hn,r1,r2,r3⟩
 ·rintro v vs ρ H' kk ⟨pre,rest,c,e,ev,E,hc,q1,q2,q3⟩ hk
  cases rest with
  |nil=>cases ev
  |cons p rest=>
   obtain ⟨rfl,rfl⟩:=List.cons.inj ev
   refine s_let (w_bin (w_ev (v:=.ref c) (by array_get_dec) (w_bi1 (w_ev (v:=partMV p) (by array_get_dec) (.listT rfl fun c2 hc2=>?_)))))
   have E2:=Ext.new (H:=H') (.lst [.int p.1,.int p.2.1,.int p.2.2]) hc2
   have el:pre.length≤10000:=by have:=congrArg List.length e;rw [List.length_append] at this;lia
   have lf:=flat_len pre
   refine .app (E2 _ _ hc) (MH.set_selfE _ _ _) (by rw [List.length_map];unfold rowIs;rw [List.length_cons,lf];simp only [List.length_cons,List.length_nil];unfold bigList;lia) fun c3 hc3=>s_done (hk _ _ ⟨pre++ [p],rest,c3,by rw [e,List.append_assoc];rfl,rfl,(E.trans E2).trans (Ext.new _ hc3),?_,by sizeOf_list_dec,by sizeOf_list_dec,by sizeOf_list_dec⟩)
   rw [MH.set_selfE]
   unfold rowIs
   rw [List.flatMap_append,List.map_cons,List.map_cons,List.map_append];rfl
 ·rintro ρ H' ⟨pre,rest,c,e,ev,E,hc,q1,q2,q3⟩
  have hr:rest=[]:=by cases rest with|nil=>rfl|cons=>cases ev
  subst hr
  rw [List.append_nil] at e
  subst e
  exact hok ρ H' c E hc q1 q2 q3
inductive LineI (H:MH)(c6 la t:Addr)(l0:Str)(R:Rides)(vs:List MV)(ρ:Sto)(H':MH):Prop
 |mk (pre rest:Rides)(e:R=pre++rest)(ev:vs=(rest.map Prod.fst).map MV.int)(E:Ext H H')(q6:H' c6=some (.lst ((R.map Prod.fst).map .int)))(q5:H' la=some (.lst ((l0::pre.map fun x=>lineOf (Str.ofString "ticket") (rowIs x)).map .str)))(r1:ρ "lines"=some (.ref la))(r2:ρ "train"=some (.ref t))
theorem s_written (T:Trn H Z t rd hl ra seats stops coming R g)(F:Fits seats stops coming R)(h:∀ H',Ext H H'→Q (.str (textOf seats stops coming R)) H'):callW theP (n+3) false "written" [.ref t] H Q X:=by
 have a1:=T.at_
 have s1:=T.hseats
 have s2:=T.hstops
 refine call_of (d:=f_written) rfl rfl ?_
 refine s_let (w_cons (w_callw (w_cons (w_ev Ev.str (w_cons (w_bin (w_bi1 (w_meth (by array_get_dec) a1 rfl Evs.nil (s_size T (.listT rfl fun c1 hc1=>?_))))))))))
 have E1:=Ext.new (H:=H) (.lst [.int seats,.int stops]) hc1
 have h1:(H.set c1 (.lst [.int seats,.int stops])) c1=some (.lst [.int seats,.int stops]):=MH.set_selfE _ _ _
 generalize H.set c1 (.lst [.int seats,.int stops])=H1 at E1 h1
 refine w_list (Evs.cons (Ev.attr (by array_get_dec) (E1 _ _ a1) rfl) Evs.nil) fun c2 hc2=>?_
 have E2:=Ext.new (H:=H1) (.lst [.int coming]) hc2
 refine .app (E2 _ _ h1) (MH.set_selfE _ _ _) (by show 2+1≤bigList;decide) fun c3 hc3=>w_evs Evs.nil ?_
 have E3:=(E1.trans E2).trans (Ext.new (H:=H1.set c2 (.lst [.int coming])) (.lst ([.int seats,.int stops]++ [.int coming])) hc3)
 refine s_line_of (is:=[seats,stops,coming]) (MH.set_selfE _ _ _) (by show 3≤500000;decide) (fun i hi=>?_) F.head fun H4 E4=>w_evs Evs.nil fun la hla=>?_
 ·simp only [List.mem_cons,List.not_mem_nil,or_false] at hi
  have:=F.com
  rcases hi with rfl|rfl|rfl<;>lia
 have E4':=E3.trans E4
 have E5:=Ext.new (H:=H4) (.lst [.str (lineOf (Str.ofString "train") [seats,stops,coming])]) hla
 have h5:(H4.set la (.lst [.str (lineOf (Str.ofString "train") [seats,stops,coming])])) la=some (.lst [.str (lineOf (Str.ofString "train") [seats,stops,coming])]):=MH.set_selfE _ _ _
 generalize H4.set la (.lst [.str (lineOf (Str.ofString "train") [seats,stops,coming])])=H5 at E5 h5
 have hla0:=none_of_ext E4' hla
 have E05:=E4'.trans E5
 have T5:=T.ext E05
 refine ⟨rfl,w_meth (by array_get_dec) T5.at_ rfl Evs.nil (s_tickets T5 fun c6 H6 hc6 E6 h6=>⟨_,.lst (.inl h6),?_⟩)⟩
 have n6:c6≠la:=fun z=>by rw [z,h5] at hc6;cases hc6
 refine for_inv (LineI H c6 la t (lineOf (Str.ofString "train") [seats,stops,coming]) R)
  (fun vs ρ H' z=>by obtain ⟨_,_,_,_,_,q,_⟩:=z;exact .lst (.inl q)) ?_ ?_ ⟨[],R,rfl,rfl,E05.trans E6,h6,E6 _ _ h5,by sizeOf_list_dec,by sizeOf_list_dec⟩
 ·rintro v vs ρ H' kk ⟨pre,rest,e,ev,E,q6,q5,r1,r2⟩ hk
  cases rest with
  |nil=>cases ev
  |cons x rest=>
   obtain ⟨k,ps⟩:=x
   obtain ⟨rfl,rfl⟩:=List.cons.inj ev
   have hx:(k,ps)∈R:=by rw [e];exact List.mem_append.mpr (.inr (.head _))
   have T':=T.ext E
   refine s_let (w_list (Evs.cons (by array_get_dec) Evs.nil) fun na hna=>?_)
   have En:=Ext.new (H:=H') (.lst [.int k]) hna
   have hn':(H'.set na (.lst [.int k])) na=some (.lst [.int k]):=MH.set_selfE _ _ _
   generalize H'.set na (.lst [.int k])=Hn at En hn'
   have Tn:=T'.ext En
   refine ⟨rfl,w_meth (vs:=[.int k]) (by array_get_dec) Tn.at_ rfl (by array_get_dec) (s_parts Tn hx fun pa Hp hpa Ep hp=>⟨_,.lst (.inl hp),part_loop (lines:=.ref la) (train:=.ref t) hp (Ep _ _ hn') (F.parts _ hx) (by sizeOf_list_dec) (by sizeOf_list_dec) (by sizeOf_list_dec) fun ρ2 H2 c2 E2 hc2 u1 u2 u3=>?_⟩)⟩
   have Ef:=(En.trans Ep).trans E2
   refine s_expr (w_bmA (Ev.var u2) (Ef _ _ q5) (w_cons (w_call (vs:=[.str (Str.ofString "ticket"),.ref c2]) (Evs.cons Ev.str (Evs.cons (Ev.var u1) Evs.nil)) (s_line_of hc2 (by unfold rowIs;rw [List.length_cons,flat_len];have:=F.parts _ hx;have this:ps.length≤10000:=this;show 3*ps.length+1≤_;lia) (F.nums _ hx) (F.line _ hx) fun H3 E3'=>w_evs Evs.nil ⟨.lst (E3' _ _ (Ef _ _ q5)) rfl,.append (E3' _ _ (Ef _ _ q5)) ?_ (s_done (hk _ _ ⟨pre++ [(k,ps)],rest,by rw [e,List.append_assoc];rfl,rfl,fun y o ey=>(MH.set_neE _ _ (mne hla0 ey)).trans (E3' _ _ (Ef _ _ (E _ _ ey))),(MH.set_neE _ _ n6).trans (E3' _ _ (Ef _ _ q6)),?_,u2,u3⟩))⟩))))
   ·have:=T.len
    have l2:=congrArg List.length e
    rw [List.length_append] at l2
    rw [List.length_map,List.length_cons,List.length_map];unfold bigList;lia
   ·rw [MH.set_selfE,List.map_append,←List.cons_append,List.map_append];rfl
 ·rintro ρ H' ⟨pre,rest,e,ev,E,q6,q5,r1,r2⟩
  have hr:rest=[]:=by cases rest with|nil=>rfl|cons=>cases ev
  subst hr
  rw [List.append_nil] at e
  subst e
  exact s_ret (Ev.join (x:=nl) Ev.str (by array_get_dec) (.inl q5) F.all) (h _ E)
end
end Mine
end
section
namespace Mine
open PySem
noncomputable def laid (g:Grid)(R:Rides):Grid:=R.foldl (fun g x=>marks g x.2 (some x.1)) g
theorem laid_out {s l:Int}:∀{R:Rides} {g:Grid},(∀ x∈R,¬ Covs x.2 s l)→laid g R s l=g s l
 | [],_,_=>rfl
 |x::R,g,h=>(laid_out (R:=R) (g:=marks g x.2 (some x.1)) fun y hy=>h y (.tail _ hy)).trans (marks_out (h x (.head _)))
theorem laid_in {s l k:Int}:∀{R:Rides} {g:Grid},(∃ x∈R,Covs x.2 s l)→(∀ x∈R,Covs x.2 s l→x.1=k)→laid g R s l=some k
 | [],_,h,_=>by obtain ⟨_,h,_⟩:=h;cases h
 |x::R,g,h,hu=>by
  by_cases q:∃ y∈R,Covs y.2 s l
  ·exact laid_in (R:=R) (g:=marks g x.2 (some x.1)) q fun y hy=>hu y (.tail _ hy)
  ·refine (laid_out (R:=R) (g:=marks g x.2 (some x.1)) fun y hy hc=>q ⟨y,hy,hc⟩).trans ?_
   have hx:Covs x.2 s l:=by
    obtain ⟨y,hy,hc⟩:=h
    rcases List.mem_cons.mp hy with rfl|hy
    ·exact hc
    ·exact absurd ⟨y,hy,hc⟩ q
   rw [marks_in hx,hu x (.head _) hx]
theorem laid_snoc {g:Grid}{R:Rides}{x:Int×List Part}:laid g (R++ [x])=marks (laid g R) x.2 (some x.1):=List.foldl_append
theorem laid_all {seats stops coming:Int}{R:Rides}{g:Grid}(I:Inv seats stops coming R g){s l:Int}(h0:0≤s)(h1:s<seats)(h2:0≤l)(h3:l<stops-1):laid (fun _ _=>none) R s l=g s l:=by
 cases hg:g s l with
 |some k=>
  obtain ⟨ps,hp,hc⟩:=(I.cov s l k h0 h1 h2 h3).mp hg
  exact laid_in ⟨_,hp,hc⟩ fun x hx hc'=>I.apart (k:=x.1) (a:=x.2) hx hp hc' hc
 |none=>
  refine laid_out fun x hx hc=>?_
  have:=(I.cov s l x.1 h0 h1 h2 h3).mpr ⟨x.2,hx,hc⟩
  rw [hg] at this;cases this
section
variable {n:Nat}{hd:Bool}{H H':MH}{Z:Addr→Prop}{Q:MV→MH→Prop}{X:String→MH→Prop}{t rd hl ro:Addr}{ra rb:Int→Addr}{seats stops coming:Int}{R:Rides}{g g':Grid}
theorem Gd.congr (G:Gd H ro rb seats stops g)(h:∀ i j,0≤i→i<seats→0≤j→j<stops-1→g i j=g' i j):Gd H ro rb seats stops g':=by
 refine ⟨G.hseats,G.hstops,G.hl_,fun i h0 h1=>?_,G.inj,G.nhl⟩
 rw [G.row i h0 h1]
 have e:rowOf g i (stops-1).toNat=rowOf g' i (stops-1).toNat:=List.map_congr_left fun j hj=>by
  have:=List.mem_range.mp hj
  rw [h i j h0 h1 (Int.natCast_nonneg _) (Int.lt_toNat.mp this)]
 rw [e]
theorem row_ok {m:Nat}(h:1≤m):(decide (((1+3*m:Nat):Int)<4)|| !decide (Int.fmod ((1+3*m:Nat):Int) 3=1))=false:=by
 rw [decide_eq_false (by lia),Int.fmod_eq_emod_of_nonneg _ (by decide),decide_eq_true (by lia)];rfl
theorem row_len {x:Int×List Part}:((rowIs x).map MV.int).length=1+3*x.2.length:=by rw [List.length_map];unfold rowIs;rw [List.length_cons,flat_len,Nat.add_comm]
noncomputable abbrev lineT (x:Int×List Part):Str:=lineOf (Str.ofString "ticket") (rowIs x)
theorem text_split (hs:0≤seats)(ht:0≤stops)(hc:0≤coming)(h:∀ x∈R,∀ i∈rowIs x,0≤i):Txt.split (textOf seats stops coming R) nl=lineOf (Str.ofString "train") [seats,stops,coming]::R.map lineT:=by
 unfold textOf
 rw [nl_is]
 refine split_back (List.cons_ne_nil _ _) fun u hu=>?_
 cases hu with
 |head=>
  refine line_free (by decide+kernel) fun i hi=>?_
  simp only [List.mem_cons,List.not_mem_nil,or_false] at hi
  rcases hi with rfl|rfl|rfl<;>assumption
 |tail _ hu=>
  obtain ⟨x,hx,rfl⟩:=List.mem_map.mp hu
  exact line_free (by decide+kernel) (h x hx)
inductive RowG (H1:MH)(c3 c4 head:Addr)(R:Rides)(vs:List MV)(ρ:Sto)(H':MH):Prop
 |mk (dn rs:Rides)(as:List Addr)(e:R=dn++rs)(ev:vs=(rs.map lineT).map MV.str)(h4:H' c4=some (.lst ((R.map lineT).map MV.str)))(h3:H' c3=some (.lst (as.map .ref)))(qa:All2 (fun a x=>H' a=some (.lst ((rowIs x).map .int))) as dn)(qn:∀ a∈as,a≠c3)(p1:ρ "head"=some (.ref head))(p2:ρ "rows"=some (.ref c3))(E:Ext H1 H')
theorem all2_mem {α β:Type}{P T:α→β→Prop}{l:List α}{r:List β}(h:All2 P l r)(k:∀ a b,a∈l→P a b→T a b):All2 T l r:=by
 induction h with
 |nil=>exact .nil
 |cons h _ ih=>exact .cons (k _ _ (.head _) h) (ih fun a b ha=>k a b (.tail _ ha))
inductive SeatL (H0:MH)(t rd hl head:Addr)(ra:Int→Addr)(seats stops:Int)(R:Rides)(vs:List MV)(ρ:Sto)(H':MH):Prop
 |mk (dn rs:Rides)(as':List Addr)(rides:List (Int×MV))(last:Int)(e:R=dn++rs)(ev:vs=as'.map MV.ref)(qa:All2 (fun a x=>H0 a=some (.lst ((rowIs x).map .int))) as' rs)(p1:ρ "train"=some (.ref t))(p2:ρ "head"=some (.ref head))(p3:ρ "last"=some (.int last))(T:Tr H' t rd hl ra seats stops 0 rides (laid (fun _ _=>none) dn))(RA:RidesAt H' (fun a=>Own t rd hl ra seats a∨H0 a≠none) rides dn)(ql:∀ x∈rs,last<x.1)(E:Ext H0 H')
theorem s_read (I:Inv seats stops coming R g)(q1:1≤seats∧seats≤60)(q2:2≤stops∧stops≤60)(hc:0≤coming∧coming<1000000000)(hR:R.length≤5000)(hl0:(textOf seats stops coming R).length≤1000000)
  (h:∀ t rd hl ra H',Trn H' (fun a=>H a≠none) t rd hl ra seats stops coming R g→(∀ x,Own t rd hl ra seats x→H x=none)→Ext H H'→Q (.ref t) H'):callW theP (n+5) false "read" [.str (textOf seats stops coming R)] H Q X:=by
 refine call_of (d:=f_read) rfl rfl ?_
 refine s_skip (Ev.not (b:=true) (Ev.isi (Ev.var rfl) .ss)) ?_
 have hrow:∀ x∈R,∀ i∈rowIs x,0≤i∧i<1000000000:=fun x hx i hi=>by
  have r:=I.rng x hx
  have f:=(I.flat q1.2 q2.2 hx).2
  unfold rowIs at hi
  cases hi with
  |head=>exact ⟨r.1,Int.lt_trans r.2 hc.2⟩
  |tail _ hi=>exact ⟨(f i hi).1,Int.lt_trans (f i hi).2 (by decide)⟩
 have L:=text_len (seats:=seats) (stops:=stops) (coming:=coming) (R:=R)
 have lrow:∀ x∈R,(lineT x).length<bigList:=fun x hx=>by
  have:=tot_mem (List.mem_map_of_mem (f:=lineT) hx)
  have this:(lineT x).length≤1000000:=by unfold lineT at*;lia
  exact Nat.lt_of_le_of_lt this (by decide)
 have lhead:(lineOf (Str.ofString "train") [seats,stops,coming]).length<bigList:=Nat.lt_of_le_of_lt (show _≤1000000 by lia) (by decide)
 have nl1:(nl.length==0)=false:=by decide+kernel
 refine s_let (w_split (y:=nl) (Ev.var rfl) Ev.str nl1 (Nat.lt_of_le_of_lt hl0 (by decide)) ?_)
 rw [text_split (by lia) (by lia) hc.1 fun x hx i hi=>(hrow x hx i hi).1]
 intro c1 hc1
 have E1:=Ext.new (H:=H) (.lst ((lineOf (Str.ofString "train") [seats,stops,coming]::R.map lineT).map MV.str)) hc1
 have h1:(H.set c1 (.lst ((lineOf (Str.ofString "train") [seats,stops,coming]::R.map lineT).map MV.str))) c1=some (.lst (MV.str (lineOf (Str.ofString "train") [seats,stops,coming])::(R.map lineT).map .str)):=MH.set_selfE _ _ _
 generalize H.set c1 (.lst ((lineOf (Str.ofString "train") [seats,stops,coming]::R.map lineT).map MV.str))=H1 at E1 h1
 refine s_let (w_call (vs:=[.str (lineOf (Str.ofString "train") [seats,stops,coming]),.str (Str.ofString "train")]) (Evs.cons (Ev.item (by array_get_dec) Ev.int h1 rfl) (Evs.cons Ev.str Evs.nil)) (s_numbers_of (by decide+kernel) (fun i hi=>?_) lhead (by show 3≤_;decide) fun c2 H2 hc2 E2 h2=>?_))
 ·simp only [List.mem_cons,List.not_mem_nil,or_false] at hi
  rcases hi with rfl|rfl|rfl
  ·lia
  ·lia
  ·exact hc
 refine s_skip (Ev.cmp (Ev.lenL (by array_get_dec) h2) Ev.int nz) (s_let (w_list Evs.nil fun c3 hc3=>?_))
 have E3:=Ext.new (H:=H2) (.lst []) hc3
 have h3:(H2.set c3 (.lst [])) c3=some (.lst []):=MH.set_selfE _ _ _
 have E12:=E1.trans E2
 generalize H2.set c3 (.lst [])=H3 at E3 h3
 refine ⟨rfl,w_slice (Ev.var (by sizeOf_list_dec)) (.inl (E3 _ _ (E2 _ _ h1))) Ev.int Ev.none .int .none ?_⟩
 rw [cut_tail]
 intro c4 hc4
 have E4:=Ext.new (H:=H3) (.lst ((R.map lineT).map MV.str)) hc4
 have h4:(H3.set c4 (.lst ((R.map lineT).map MV.str))) c4=some (.lst ((R.map lineT).map MV.str)):=MH.set_selfE _ _ _
 have n43:c4≠c3:=fun z=>by rw [z,h3] at hc4;cases hc4
 generalize H3.set c4 (.lst ((R.map lineT).map MV.str))=H4 at E4 h4
 refine ⟨_,.lst (.inl h4),for_inv (RowG H2 c3 c4 c2 R) (fun vs ρ H' z=>by obtain ⟨_,_,_,_,_,q,_⟩:=z;exact .lst (.inl q)) ?_ ?_ ⟨[],R,[],rfl,rfl,h4,E4 _ _ h3,.nil,fun _ z=>(by cases z),by sizeOf_list_dec,by sizeOf_list_dec,E3.trans E4⟩⟩
 ·rintro v vs ρ H' k ⟨dn,rs,as,e,ev,q4,q3,qa,qn,p1,p2,E⟩ hk
  cases rs with
  |nil=>cases ev
  |cons x rs=>
   obtain ⟨rfl,rfl⟩:=List.cons.inj ev
   have hx:x∈R:=by rw [e];exact List.mem_append.mpr (.inr (.head _))
   obtain ⟨b,e',b0,he,Go⟩:=I.goes x hx
   have lx:=(I.flat q1.2 q2.2 hx).1
   have al:=qa.length_eq
   have el:=congrArg List.length e
   rw [List.length_append] at el
   refine s_let (w_call (vs:=[.str (lineT x),.str (Str.ofString "ticket")]) (by array_get_dec) (s_numbers_of (by decide+kernel) (hrow x hx) (lrow x hx) (by have:=row_len (x:=x);rw [List.length_map] at this;lia) fun c5 H5 hc5 E5 h5=>?_))
   refine s_skip (ev_f (Ev.or (EvO.any (Ev.cmp (Ev.lenL (by array_get_dec) h5) Ev.int .lt) (EvO.one (Ev.cmp (Ev.mod (Ev.lenL (by array_get_dec) h5) Ev.int (by decide)) Ev.int .nei)))) (by rw [row_len];exact row_ok (List.length_pos_iff.mpr Go.ne))) ?_
   have n5:c5≠c3:=fun z=>by rw [z,q3] at hc5;cases hc5
   refine s_expr (w_append (by array_get_dec) (E5 _ _ q3) (by array_get_dec) (by rw [List.length_map];unfold bigList;lia) (s_done (hk _ _ ⟨dn++ [x],rs,as++ [c5],by rw [e,List.append_assoc];rfl,rfl,(MH.set_neE _ _ n43).trans (E5 _ _ q4),by rw [MH.set_selfE,List.map_append];rfl,(all2_mem qa fun a y ha z=>(MH.set_neE _ _ (qn a ha)).trans (E5 _ _ z)).append (.cons ((MH.set_neE _ _ n5).trans h5) .nil),fun a ha=>?_,by sizeOf_list_dec,by sizeOf_list_dec,(E.trans E5).newer _ hc3⟩)))
   rcases List.mem_append.mp ha with ha|ha
   ·exact qn a ha
   ·rw [List.mem_singleton.mp ha];exact n5
 rintro ρ H5 ⟨dn,rs,as,e,ev,_,q3,qa,_,p1,p2,E⟩
 have hr:rs=[]:=by cases rs with|nil=>rfl|cons=>cases ev
 subst hr
 rw [List.append_nil] at e
 subst e
 have E05:=E12.trans E
 have hh:=E _ _ h2
 clear h1 h2 h3 h4 n43 hc1 hc3 hc4 E1 E2 E3 E4 E12 E
 refine s_let ?_
 show wEs _ _ _ _ _ _ _
 refine w_cons (w_ev (v:=.int seats) (Ev.item (by array_get_dec) Ev.int hh rfl) (w_cons (w_ev (v:=.int stops) (Ev.item (by array_get_dec) Ev.int hh rfl) (w_evs Evs.nil fun t ht=>?_))))
 refine t_init (MH.set_selfE _ _ _) q1 q2 fun H6 rd hl ra TT own6 keep6=>⟨rfl,?_⟩
 obtain ⟨rides,T6,RA6⟩:=TT.tr
 cases RA6
 have Et:=Ext.new (H:=H5) (.inst []) ht
 have hf:∀ x,Own t rd hl ra seats x→H5 x=none:=fun x z=>(own6 x z).elim (fun z=>by rw [z];exact ht) fun z=>none_of_ext Et z
 have nown:∀{x:Addr} {o:MObj},H5 x=some o→¬ Own t rd hl ra seats x:=fun e z=>by rw [hf _ z] at e;cases e
 have E6:Ext H5 H6:=fun x o ex=>keep6 x o (mne ht ex) (Et _ _ ex)
 refine s_assign (v:=.int (-1)) (Ev.neg Ev.int) ⟨rfl,(Ev.var (by sizeOf_list_dec):Ev _ _ _ _ _ (.ref c3)) _ _ ⟨as.map .ref,.lst (.inl (E6 _ _ q3)),for_inv (SeatL H5 t rd hl c2 ra seats stops R) (fun vs ρ H' z=>by obtain ⟨_,_,_,_,_,_,_,_,_,_,_,_,_,_,q⟩:=z;exact .lst (.inl (q _ _ q3))) ?_ ?_ ⟨[],R,as,[],-1,rfl,rfl,qa,by sizeOf_list_dec,by sizeOf_list_dec,by sizeOf_list_dec,T6,.nil,fun x hx=>Int.lt_of_lt_of_le (by decide) (I.rng x hx).1,E6⟩⟩⟩
 ·rintro v vs ρ H' k ⟨dn',rs,as',rides,last,e,ev,qa,p1,p2,p3,T',RA,ql,E'⟩ hk
  cases qa with
  |nil=>cases ev
  | @cons a x as' rs ha qa=>
   obtain ⟨rfl,rfl⟩:=List.cons.inj ev
   obtain ⟨kx,ps⟩:=x
   have hx:(kx,ps)∈R:=by rw [e];exact List.mem_append.mpr (.inr (.head _))
   obtain ⟨b,e',b0,he,Go⟩:=I.goes _ hx
   have asc:=I.asc
   rw [e] at asc
   obtain ⟨_,asc2,asc3⟩:=List.pairwise_append.mp asc
   have ha':=E' _ _ ha
   have l1:last<kx:=ql _ (.head _)
   have l2:kx<coming:=(I.rng _ hx).2
   have ln:=RA.len
   have el:=congrArg List.length e
   rw [List.length_append,List.length_cons] at el
   refine s_skip (Ev.not (b:=true) (Ev.chain (by array_get_dec) (EvC.t (Ev.item (x:=.int kx) (by array_get_dec) Ev.int ha' rfl) (lt_b (decide_eq_true l1)) (EvC.one (Ev.item (x:=.int coming) (by array_get_dec) Ev.int (E' _ _ hh) rfl) (lt_b (decide_eq_true l2)))))) (s_assign (v:=.int kx) (Ev.item (by array_get_dec) Ev.int ha' rfl) (s_expr (w_call (vs:=[.ref t,.ref a]) (by array_get_dec) (s_seat_ticket T' (by lia) ha' (nown ha) (RA.miss fun qs hq=>absurd (asc3 _ hq _ (.head _)) (Int.lt_irrefl _)) Go b0 he (fun s l hcv=>laid_out fun y hy hcy=>?_) fun c7 H7 T7 h7 n7 z7 f7=>s_done (hk _ _ ⟨dn'++ [(kx,ps)],rs,as',rides++ [(kx,.ref c7)],kx,by rw [e,List.append_assoc];rfl,rfl,qa,by sizeOf_list_dec,by sizeOf_list_dec,by sizeOf_list_dec,by rw [laid_snoc];exact T7,(RA.keep fun y o hy ey=>f7 y o (fun z=>hy (.inl z)) ey).app h7 fun z=>z.elim n7 fun z=>z (none_of_ext E' z7),fun y hy=>(List.pairwise_cons.mp asc2).1 y hy,fun y o ey=>f7 y o (nown ey) (E' y o ey)⟩)))))
   have hy':y∈R:=by rw [e];exact List.mem_append_left _ hy
   exact absurd (I.apart (k:=y.1) (a:=y.2) hy' hx hcy hcv) (Int.ne_of_lt (asc3 _ hy _ (.head _)))
 rintro ρ H8 ⟨dn',rs,as',rides,last,e,ev,qa,p1,p2,p3,T',RA,ql,E'⟩
 cases qa with
 |cons=>cases ev
 |nil=>
  rw [List.append_nil] at e
  subst e
  refine s_expr (w_meth (vs:=[.int coming]) (by array_get_dec) T'.at_ rfl (Evs.cons (Ev.item (by array_get_dec) Ev.int (E' _ _ hh) rfl) Evs.nil) (call_of (d:=f_Train_start_at) rfl rfl (s_setAttr (by array_get_dec) (by array_get_dec) T'.at_ (by show 5<100;decide) (s_done ?_))))
  have T9:=T'.setT coming
  have own_none:∀ x,Own t rd hl ra seats x→H x=none:=fun x z=>none_of_ext E05 (hf x z)
  have E9:Ext H (H8.set t (.inst (trFs seats stops coming rd hl))):=fun x o ex=>(MH.set_neE _ _ fun (z:x=t)=>by rw [z,own_none t (.inl rfl)] at ex;cases ex).trans (E' _ _ (E05 _ _ ex))
  have RA2:RidesAt H8 (fun a=>Own t rd hl ra seats a∨H a≠none) rides R:=RA.mono' fun a o ea na z=>na (z.imp id fun z=>some_kept z (E05 a))
  exact s_ret (by array_get_dec) (h t rd hl ra _ ⟨⟨rides,⟨T9.gd.congr fun i j i0 i1 j0 j1=>laid_all I i0 i1 j0 j1,T9.at_,T9.rd_⟩,RA2.keep fun a o na ea=>(MH.set_neE _ _ fun (z:a=t)=>na (.inl (.inl z))).trans ea⟩,I,hc.1,hR,fun a z o=>z (own_none a o),fun a z=>some_kept z (E9 a)⟩ own_none E9)
end
end Mine
end
section
namespace Mine
open PySem
theorem join_snoc {c:Nat}{u:Str}:∀{ts:List Str} {t:Str},Str.join ⟨#[c]⟩ ((t::ts)++ [u])=Str.join ⟨#[c]⟩ (t::ts)++⟨#[c]⟩++u:=by
 intro ts
 induction ts with
 |nil=>intro t;rfl
 |cons t' ts ih=>
  intro t
  have e1:Str.join ⟨#[c]⟩ ((t::t'::ts)++ [u])=t++⟨#[c]⟩++Str.join ⟨#[c]⟩ ((t'::ts)++ [u]):=rfl
  have e2:Str.join ⟨#[c]⟩ (t::t'::ts)=t++⟨#[c]⟩++Str.join ⟨#[c]⟩ (t'::ts):=rfl
  have assoc:∀ a b d:Str,a++b++d=a++(b++d):=fun a b d=>Str.ext' Array.append_assoc
  rw [e1,e2,ih,assoc,assoc,assoc,assoc,assoc]
theorem line_snoc {w:Str}{is:List Int}{i:Int}:lineOf w (is++ [i])=lineOf w is++sp++shown i:=by
 have e:∀ ts:List Str,Txt.join sp ts=Str.join ⟨#[32]⟩ ts:=fun ts=>by rw [sp_is];exact StrLaws.glued_eq_join _ _
 unfold lineOf
 rw [e,e,List.map_append,sp_is]
 exact join_snoc
theorem line_small {is:List Int}(h:∀ i∈is,0≤i∧i<1000000000)(hl:is.length≤1000):(lineOf (Str.ofString "ticket") is).length≤20000:=by
 have:=tot_shown (k:=9) (by decide) h
 rw [line_len,len_ticket];lia
section
variable {n:Nat}{hd:Bool}{H H':MH}{Z O:Addr→Prop}{Q:MV→MH→Prop}{X:String→MH→Prop}{t rd hl wd ro so rw:Addr}{ra rb:Int→Addr}{seats stops coming:Int}{R:Rides}{g:Grid}
theorem ev_more {Δ:CallT}{ρ:Sto}{e x:ME}{is:List Int}{i:Int}(he:Ev Δ hd e ρ H (.str (lineOf (Str.ofString "ticket") is)))(hx:Ev Δ hd x ρ H (.int i))(hl:(lineOf (Str.ofString "ticket") is).length≤20000)(h0:0≤i)(h1:i<1000000000):Ev Δ hd (.bin .add (.bin .add e (.str " ")) (.bi "str" (.cons x .nil))) ρ H (.str (lineOf (Str.ofString "ticket") (is++ [i]))):=by
 have l1:(shown i).length≤9:=shown_len h0 (by decide) h1
 have l2:(lineOf (Str.ofString "ticket") is).length+sp.length+(shown i).length≤bigList:=by rw [sp_len];unfold bigList;lia
 rw [line_snoc]
 exact Ev.cat (Ev.cat he Ev.str (Nat.le_trans (Nat.le_add_right _ _) l2)) (Ev.strI hx (by lia)) (by rw [Str.length_append];exact l2)
theorem tick_is {k:Int}:Str.ofString "ticket "++shown k=lineOf (Str.ofString "ticket") [k]:=by
 have:Str.ofString "ticket "=Str.ofString "ticket"++sp:=by decide+kernel
 rw [this]
 exact (line_snoc (is:=[])).symm
theorem s_text_of (W:Wd H O wd ro so rw rb seats stops coming R g)(I:Inv seats stops coming R g)(F:Fits seats stops coming R)(hc:coming<1000000000)(hR:R.length≤5000)(h:∀ H',Ext H H'→Q (.str (textOf seats stops coming R)) H'):callW theP (n+1) false "_law_text_of" [.ref wd] H Q X:=by
 have p1:=W.gd.hseats
 have p2:=W.gd.hstops
 refine call_of (d:=f__law_text_of) rfl rfl ?_
 refine s_let (w_cons (w_joinE (x:=sp) Ev.str (w_list (vs:=(Str.ofString "train":: [seats,stops,coming].map shown).map .str) (Evs.cons Ev.str (Evs.cons (Ev.strI (W.gd.lenR (W.ev0 (by array_get_dec))) (by lia)) (Evs.cons (Ev.strI (i:=stops) (Ev.asI (Int.sub_add_cancel stops 1) (Ev.add (W.gd.len0 (W.ev0 (by array_get_dec))) Ev.int)) (by lia)) (Evs.cons (Ev.strI (W.ev3 (by array_get_dec)) F.com) Evs.nil)))) fun c1 hc1=>⟨.str rfl,.join (.inl (MH.set_selfE _ _ _)) F.head (w_evs Evs.nil fun la hla=>?_)⟩)))
 have E1:=Ext.new (H:=H) (.lst ((Str.ofString "train":: [seats,stops,coming].map shown).map .str)) hc1
 have hla0:=none_of_ext E1 hla
 have E2:=E1.newer (.lst [.str (lineOf (Str.ofString "train") [seats,stops,coming])]) hla0
 have e5:(((R.map Prod.fst).map MV.int).length:Int)=R.length:=by rw [List.length_map,List.length_map]
 refine s_range (fun i ρ H'=>(ρ "_law_world_here"=some (.ref wd)∧ρ "_law_rows_here"=some (.ref la))∧Ext H H'∧i≤R.length∧H' la=some (.lst ((lineOf (Str.ofString "train") [seats,stops,coming]::(R.take i.toNat).map lineT).map .str))) (Ev.range1 (e5▸Ev.lenL ((W.ext E2).ev1 (by array_get_dec)) (W.ext E2).so_) (smallOf (Int.natCast_nonneg _) (by lia))) ⟨⟨by sizeOf_list_dec,by sizeOf_list_dec⟩,E2,Int.natCast_nonneg _,MH.set_selfE _ _ _⟩ ?_ ?_
 ·rintro i ρ H3 k i0 i1 ⟨⟨r1,r2⟩,E3,_,q3⟩ hk
  have W3:=W.ext E3
  obtain ⟨rs,w1,w2⟩:=W3.rw_
  obtain ⟨kx,ps,c,x1,x2,x3⟩:=w2.nth ((Int.toNat_lt i0).mpr i1)
  have hx:(kx,ps)∈R:=List.mem_of_getElem? x1
  have r:=I.rng _ hx
  obtain ⟨l59,fl⟩:=I.flat p1.2 p2.2 hx
  have num:∀{pre:List Part},(∀ p∈pre,p∈ps)→∀ j∈rowIs (kx,pre),0≤j∧j<1000000000:=fun hp j hj=>by
   unfold rowIs at hj
   cases hj with
   |head=>exact ⟨r.1,Int.lt_trans r.2 hc⟩
   |tail _ hj=>
    obtain ⟨p,h1,h2⟩:=List.mem_flatMap.mp hj
    obtain ⟨a,b⟩:=fl j (List.mem_flatMap.mpr ⟨p,hp p h1,h2⟩)
    exact ⟨a,Int.lt_trans b (by decide)⟩
  have so3:atIdx ((R.map Prod.fst).map MV.int) i=some (.int kx):=atIdx_nn i0 (by rw [List.getElem?_map,List.getElem?_map,x1];rfl)
  have l1:(shown kx).length≤9:=shown_len r.1 (by decide) (Int.lt_trans r.2 hc)
  have l7:(Str.ofString "ticket ").length+(shown kx).length≤bigList:=Nat.le_trans (Nat.add_le_add (show (Str.ofString "ticket ").length≤7 by decide+kernel) l1) (by decide)
  refine s_assign (v:=.str (lineOf (Str.ofString "ticket") [kx])) (tick_is▸Ev.cat Ev.str (Ev.strI (Ev.item (W3.ev1 (by array_get_dec)) (by array_get_dec) W3.so_ so3) (by lia)) l7) ?_
  refine s_for (fun vs ρ' H'=>∃ pre rest,ps=pre++rest∧vs=rest.map partMV∧H'=H3∧ρ' "_law_world_here"=some (.ref wd)∧ρ' "_law_rows_here"=some (.ref la)∧ρ' "_law_row"=some (.str (lineOf (Str.ofString "ticket") (rowIs (kx,pre))))) (Ev.item (W3.ev2 (by array_get_dec)) (by array_get_dec) w1 (atIdx_nn i0 x2)) (fun vs' ρ' H' z=>by obtain ⟨_,_,_,_,rfl,_⟩:=z;exact x3) ⟨[],ps,rfl,rfl,rfl,by sizeOf_list_dec,by sizeOf_list_dec,by sizeOf_list_dec⟩ ?_ ?_
  ·rintro v vs ρ' H' k' ⟨pre,rest,e,ev,rfl,q1,q2,q3'⟩ hk'
   cases rest with
   |nil=>cases ev
   |cons p rest=>
    obtain ⟨rfl,rfl⟩:=List.cons.inj ev
    have hp:∀ q∈pre++ [p],q∈ps:=fun q hq=>by rw [e];rcases List.mem_append.mp hq with hq|hq;exact List.mem_append_left _ hq;exact List.mem_append_right _ (List.mem_singleton.mp hq▸ .head _)
    have n1:=num hp
    have er:rowIs (kx,pre++ [p])=((rowIs (kx,pre)++ [p.1])++ [p.2.1])++ [p.2.2]:=by
     unfold rowIs
     rw [List.flatMap_append,List.append_assoc,List.append_assoc];rfl
    have lp:pre.length≤58:=by have l59:ps.length≤59:=l59;have:=congrArg List.length e;rw [List.length_append,List.length_cons] at this;lia
    have lr:(rowIs (kx,pre)).length≤500:=by unfold rowIs;rw [List.length_cons,flat_len];show 3*pre.length+1≤500;lia
    rw [er] at n1
    have sm:∀{is:List Int},(∀ j∈is,j∈((rowIs (kx,pre)++ [p.1])++ [p.2.1])++ [p.2.2])→is.length≤1000→(lineOf (Str.ofString "ticket") is).length≤20000:=fun h hl=>line_small (fun j hj=>n1 j (h j hj)) hl
    have a1:=n1 p.1 (List.mem_append_left _ (List.mem_append_left _ (List.mem_append_right _ (.head _))))
    have a2:=n1 p.2.1 (List.mem_append_left _ (List.mem_append_right _ (.head _)))
    have a3:=n1 p.2.2 (List.mem_append_right _ (.head _))
    refine s_assign (v:=.str (lineOf (Str.ofString "ticket") (rowIs (kx,pre++ [p])))) (er▸ev_more (ev_more (ev_more (by array_get_dec) (Ev.itemT (vs:=[.int p.1,.int p.2.1,.int p.2.2]) (by array_get_dec) Ev.int rfl) (sm (fun j hj=>List.mem_append_left _ (List.mem_append_left _ (List.mem_append_left _ hj))) (Nat.le_trans lr (by decide))) a1.1 a1.2) (Ev.itemT (vs:=[.int p.1,.int p.2.1,.int p.2.2]) (by array_get_dec) Ev.int rfl) (sm (fun j hj=>List.mem_append_left _ (List.mem_append_left _ hj)) (by rw [List.length_append];exact Nat.le_trans (Nat.add_le_add_right lr 1) (by decide))) a2.1 a2.2) (Ev.itemT (vs:=[.int p.1,.int p.2.1,.int p.2.2]) (by array_get_dec) Ev.int rfl) (sm (fun j hj=>List.mem_append_left _ hj) (by rw [List.length_append,List.length_append];exact Nat.le_trans (Nat.add_le_add_right (Nat.add_le_add_right lr 1) 1) (by decide))) a3.1 a3.2) (s_done (hk' _ _ ⟨pre++ [p],rest,by rw [e,List.append_assoc];rfl,rfl,rfl,by sizeOf_list_dec,by sizeOf_list_dec,by sizeOf_list_dec⟩))
  ·rintro ρ' H' ⟨pre,rest,e,ev,rfl,q1,q2,q3'⟩
   have hr:rest=[]:=by cases rest with|nil=>rfl|cons=>cases ev
   subst hr
   rw [List.append_nil] at e
   subst e
   have hi:i.toNat<R.length:=(Int.toNat_lt i0).mpr i1
   refine s_expr (w_append (Ev.var q2) q3 (Ev.var q3') (by rw [List.length_map,List.length_cons,List.length_map,List.length_take];unfold bigList;lia) (s_done (hk _ _ ⟨⟨q1,q2⟩,E3.newer _ hla0,by lia,?_⟩)))
   have et:R.take (i+1).toNat=R.take i.toNat++ [(kx,ps)]:=by
    rw [Int.toNat_add i0 (by decide)]
    show R.take (i.toNat+1)=_
    rw [List.take_add_one,x1];rfl
   rw [MH.set_selfE,et,List.map_append,←List.cons_append,List.map_append];rfl
 ·rintro i ρ H3 i1 ⟨⟨r1,r2⟩,E3,i2,q3⟩
  have e:R.take i.toNat=R:=List.take_of_length_le (by lia)
  rw [e] at q3
  exact s_ret (Ev.join (x:=nl) Ev.str (Ev.var r2) (.inl q3) F.all) (h _ E3)
end
end Mine
end
section
namespace Mine
open PySem
noncomputable def Took (R:Rides)(fs:List (Int×Int))(j:Nat)(tk:Int→Int→Bool):Prop:=∀ i l,tk i l=true→∃ k p x,k<j∧fs[k]? =some p∧p.2=i∧x∈R∧x.1=p.1∧bOf x.2≤l∧l<eOf x.2
theorem Took.free {seats stops coming:Int}{R:Rides}{g:Grid}{fs:List (Int×Int)}{j:Nat}{tk:Int→Int→Bool}{p:Int×Int}{x:Int×List Part}{l:Int}(I:Inv seats stops coming R g)(hkeys:fs.map Prod.fst=R.map Prod.fst)
  (hdis:∀ p∈fs,∀ q∈fs,p.1≠q.1→p.2=q.2→∀ x∈R,∀ y∈R,x.1=p.1→y.1=q.1→eOf x.2≤bOf y.2∨eOf y.2≤bOf x.2) (hT:Took R fs j tk) (hp:fs[j]? =some p) (hx:x∈R) (hxe:x.1=p.1) (h0:bOf x.2≤l) (h1:l<eOf x.2):tk p.2 l=false:=by
 cases hv:tk p.2 l with
 |false=>rfl
 |true=>
  obtain ⟨k,q,y,hk,hq,hqi,hy,hye,hy1,hy2⟩:=hT _ _ hv
  have hne:q.1≠p.1:=fun z=>by
   have nd:(fs.map Prod.fst).Nodup:=by rw [hkeys];exact asc_nodup I.asc
   obtain ⟨a1,b1⟩:=List.getElem?_eq_some_iff.mp hq
   obtain ⟨a2,b2⟩:=List.getElem?_eq_some_iff.mp hp
   have a3:(fs.map Prod.fst)[k]'(by rw [List.length_map];exact a1)=(fs.map Prod.fst)[j]'(by rw [List.length_map];exact a2):=by
    rw [List.getElem_map,List.getElem_map,b1,b2];exact z
   exact absurd ((List.getElem_inj nd).mp a3) (Nat.ne_of_lt hk)
  rcases hdis q (List.mem_of_getElem? hq) p (List.mem_of_getElem? hp) hne hqi y hy x hx hye hxe with z|z
  ·exact absurd (Int.lt_of_lt_of_le hy2 (Int.le_trans z h0)) (Int.lt_irrefl _)
  ·exact absurd (Int.lt_of_lt_of_le h1 (Int.le_trans z hy1)) (Int.lt_irrefl _)
section
variable {n:Nat}{hd:Bool}{H H':MH}{Z O:Addr→Prop}{Q:MV→MH→Prop}{X:String→MH→Prop}{t rd hl wd ro so rw:Addr}{ra rb:Int→Addr}{seats stops coming:Int}{R:Rides}{g:Grid}
variable {Δ:CallT}{ρ:Sto}
theorem lt_f {l r:ME}{a b:Int}(q:¬ a<b)(hl:Ev Δ hd l ρ H (.int a))(hr:Ev Δ hd r ρ H (.int b)):Ev Δ hd (.cmp l (.cons .lt r .nil)) ρ H (.bool false):=by have:=Ev.cmp hl hr (.lt (H:=H));rwa [decide_eq_false q] at this
theorem ge_f {l r:ME}{a b:Int}(q:¬ b≤a)(hl:Ev Δ hd l ρ H (.int a))(hr:Ev Δ hd r ρ H (.int b)):Ev Δ hd (.cmp l (.cons .ge r .nil)) ρ H (.bool false):=by have:=Ev.cmp hl hr (.ge (H:=H));rwa [decide_eq_false q] at this
theorem cnt_le {l:Int}(hs:0≤seats):0≤cnt g seats l∧cnt g seats l≤seats:=by
 unfold cnt
 have h1:=List.length_filter_le (fun i=>(g i l).isSome) (rangeL 0 seats 1)
 rw [rangeL_len1] at h1
 lia
theorem most_ex (p1:1≤seats∧seats≤60)(p2:2≤stops∧stops≤60):∃ M∈(rangeL 0 (stops-1) 1).map (cnt g seats),(∀ x∈(rangeL 0 (stops-1) 1).map (cnt g seats),x≤M)∧(∀ l,0≤l→l<stops-1→cnt g seats l≤M)∧0≤M∧M≤60:=by
 obtain ⟨M,hMm,hMx⟩:=max_ex (l:=(rangeL 0 (stops-1) 1).map (cnt g seats)) (by intro z;have:=congrArg List.length z;rw [List.length_map,rangeL_len1] at this;exact Int.not_le.mpr (Int.sub_pos_of_lt p2.1) (tnZ this))
 refine ⟨M,hMm,hMx,fun l l0 l1=>hMx _ (List.mem_map.mpr ⟨l,by rw [rng_eq];exact List.mem_map.mpr ⟨l.toNat,List.mem_range.mpr (tnK l0 l1),Int.toNat_of_nonneg l0⟩,rfl⟩),?_⟩
 obtain ⟨l,_,rfl⟩:=List.mem_map.mp hMm
 have:=cnt_le (g:=g) (seats:=seats) (l:=l) (Int.le_trans (by decide) p1.1)
 exact ⟨this.1,Int.le_trans this.2 p1.2⟩
inductive PackN (wd fo tc:Addr)(M:Int)(ρ:Sto):Prop
 |mk (n1:ρ "_law_world_here"=some (.ref wd))(n2:ρ "_law_most"=some (.int M))(n3:ρ "_law_found_here"=some (.ref fo))(n4:ρ "_law_taken"=some (.ref tc))
inductive PackI (H3:MH)(wd fo tc:Addr)(tb:Int→Addr)(M k:Int)(R:Rides)(fs:List (Int×Int))(i:Int)(ρ:Sto)(H':MH):Prop
 |mk (N:PackN wd fo tc M ρ)(E:Ext H3 H')(tk:Int→Int→Bool)(K:Tk H' tc tb M k tk)(T:Took R fs i.toNat tk)
inductive PackL (H3:MH)(wd fo tc:Addr)(tb:Int→Addr)(M k b e:Int)(p:Int×Int)(tk:Int→Int→Bool)(l:Int)(ρ:Sto)(H':MH):Prop
 |mk (N:PackN wd fo tc M ρ)(o:ρ "_law_one"=some (.tup [.int p.1,.int p.2]))(le:l≤e)(E:Ext H3 H')(tk':Int→Int→Bool)(K:Tk H' tc tb M k tk')(hk:∀ s q,tk' s q=true→tk s q=true∨(s=p.2∧b≤q∧q<l))
theorem s_packs (S:Bx H Z O t rd hl wd ro so rw ra rb seats stops coming R g)(h:∀ H',Ext H H'→Q (.bool true) H'):callW theP (n+4) false "_law_packs" [.ref t,.ref wd] H Q X:=by
 refine call_of (d:=f__law_packs) rfl rfl ?_
 have I:=S.tn.inv
 have p1:=S.tn.hseats
 have p2:=S.tn.hstops
 have hlen:=S.tn.len
 obtain ⟨M,hMm,hMx,hM,hM0,hM60⟩:=most_ex (g:=g) p1 p2
 refine s_let (w_call (by array_get_dec) (s_packed S.tn hM hM0 fun fo H1 fs hfo E1 h1 hkeys hcol hdis=>?_))
 have W1:=S.wo.ext E1
 have fl:fs.length=R.length:=by have:=congrArg List.length hkeys;rwa [List.length_map,List.length_map] at this
 have e5:(((R.map Prod.fst).map MV.int).length:Int)=(fs.length:Nat):=by rw [List.length_map,List.length_map,fl]
 have e6:(((fs.map fun p=>tupI [p.1,p.2]).length:Nat):Int)=(fs.length:Nat):=by rw [List.length_map]
 refine s_skip (Ev.or (EvO.f (Ev.not (b:=true) (Ev.isi (by array_get_dec) (.ll (.inl h1)))) (EvO.one (Ev.cmp (e6▸Ev.lenL (by array_get_dec) h1) (e5▸Ev.lenL (W1.ev1 (by array_get_dec)) W1.so_) nz)))) ?_
 refine s_let (w_bi1 (w_compE (l:=rangeL 0 (stops-1) 1) .int (fun l=> .int (cnt g seats l)) (Ev.range1 (W1.gd.len0 (W1.ev0 (by array_get_dec))) (smallOf (by lia) (by lia))) (fun H' E=> .rng) (by rw [rangeL_len1];unfold bigList;lia) (fun l hl H' Q' E q=>?_) fun cm H2 _ E2 h2=> .maxL (m:=M) rfl (.inl (by rw [h2,int_comp])) hMm hMx ?_))
 ·obtain ⟨l0,l1⟩:=rangeL_mem (by decide) hl
  exact w_cnt (W1.ext E).gd l0 l1 ((W1.ext E).ev0 (by array_get_dec)) (fun v=>by array_get_dec) q
 refine s_let (w_tgrid (m:=M) (k:=stops-1) (Ev.range1 (by array_get_dec) (smallOf hM0 (by lia))) (by lia) (by lia) (by lia) (fun v H' E=>((W1.ext E2).ext E).gd.len0 (((W1.ext E2).ext E).ev0 (by array_get_dec))) fun tc tb H3 E3 K3 htb=>?_)
 have E13:=E2.trans E3
 have lf:∀{H':MH} {ρ:Sto},Ext H1 H'→ρ "_law_found_here"=some (.ref fo)→Ev (callW theP (n+3)) false (.bi "len" (.cons (.var "_law_found_here") .nil)) ρ H' (.int (fs.length:Nat)):=fun {H' ρ} E hρ=>e6▸Ev.lenL (Ev.var hρ) (E _ _ h1)
 refine s_range (PackI H1 wd fo tc tb M (stops-1) R fs) (Ev.range1 (lf E13 (by sizeOf_list_dec)) (smallOf (Int.natCast_nonneg _) (by lia))) ⟨⟨by sizeOf_list_dec,by sizeOf_list_dec,by sizeOf_list_dec,by sizeOf_list_dec⟩,E13,_,K3,fun _ _ q=>(by cases q)⟩ ?_ fun i ρ H' _ z=>by obtain ⟨_,E,_⟩:=z;exact s_ret Ev.bool (h _ (E1.trans E))
 rintro i ρ H5 k i0 i1 ⟨⟨m1,m2,m3,m4⟩,E5,tk,K5,hT⟩ hk
 have hi:i.toNat<fs.length:=(Int.toNat_lt i0).mpr i1
 have ei:fs[i.toNat]? =some fs[i.toNat]:=List.getElem?_eq_getElem hi
 have hmem:fs[i.toNat]∈fs:=List.getElem_mem hi
 generalize fs[i.toNat]=p at ei hmem
 have af:atIdx (fs.map fun p=>tupI [p.1,p.2]) i=some (.tup [.int p.1,.int p.2]):=atIdx_nn i0 (by rw [List.getElem?_map,ei];rfl)
 have ek:(R.map Prod.fst)[i.toNat]? =some p.1:=by rw [←hkeys,List.getElem?_map,ei];rfl
 have W5:=W1.ext E5
 obtain ⟨c0,c1⟩:=hcol p hmem
 obtain ⟨rs,w1,w2⟩:=W5.rw_
 obtain ⟨kx,ps,c,x1,x2,x3⟩:=w2.nth (fl▸hi)
 have hx:(kx,ps)∈R:=List.mem_of_getElem? x1
 have hxe:kx=p.1:=by rw [List.getElem?_map,x1] at ek;exact Option.some.inj ek
 obtain ⟨b,e,b0,he,Go⟩:=I.goes _ hx
 obtain ⟨s1,s2⟩:=goes_span Go
 have lt:=Go.lt
 have one:∀{ρ':Sto} {H':MH},ρ' "_law_one"=some (.tup [.int p.1,.int p.2])→Ev (callW theP (n+3)) false (.sub (.var "_law_one") (.int 0)) ρ' H' (.int p.1)∧Ev (callW theP (n+3)) false (.sub (.var "_law_one") (.int 1)) ρ' H' (.int p.2):=fun r=>⟨Ev.itemT (Ev.var r) Ev.int rfl,Ev.itemT (Ev.var r) Ev.int rfl⟩
 refine s_assign (v:=.tup [.int p.1,.int p.2]) (Ev.item (by array_get_dec) (by array_get_dec) (E5 _ _ h1) af) ?_
 have o1:((ρ.set "_law_k" (.int i)).set "_law_one" (.tup [.int p.1,.int p.2])) "_law_one"=some (.tup [.int p.1,.int p.2]):=Sto.gets _ _ _
 refine s_skip (Ev.or (EvO.f (Ev.not (b:=true) (Ev.isi (Ev.var o1) .tt)) (EvO.f (Ev.cmp (Ev.lenT (Ev.var o1)) Ev.int nz) (EvO.f (Ev.not (b:=true) (Ev.call (vs:=[.int p.1]) (Evs.cons (one o1).1 Evs.nil) fun Q X q=>s_whole q)) (EvO.one (Ev.not (b:=true) (Ev.call (vs:=[.int p.2]) (Evs.cons (one o1).2 Evs.nil) fun Q X q=>s_whole q))))))) (s_skip (Ev.or (EvO.f (Ev.cmp (one o1).1 (Ev.item (W5.ev1 (by array_get_dec)) (by array_get_dec) W5.so_ (atIdx_nn i0 (by rw [List.getElem?_map,ek];rfl))) nz) (EvO.f (lt_f (a:=p.2) (b:=0) (Int.not_lt.mpr c0) (one o1).2 Ev.int) (EvO.one (ge_f (a:=p.2) (b:=M) (Int.not_le.mpr c1) (one o1).2 (by array_get_dec)))))) ?_)
 have pl:∀{ρ':Sto},ρ' "_law_world_here"=some (.ref wd)→ρ' "_law_k"=some (.int i)→Ev (callW theP (n+3)) false (.sub (.sub (.var "_law_world_here") (.int 2)) (.var "_law_k")) ρ' H5 (.ref c):=fun r1 r2=>Ev.item (W5.ev2 (Ev.var r1)) (Ev.var r2) w1 (atIdx_nn i0 x2)
 refine s_range (PackL H1 wd fo tc tb M (stops-1) b e p tk) (Ev.range2 (ev_first Go (pl (by sizeOf_list_dec) (by sizeOf_list_dec)) x3) (ev_last Go (pl (by sizeOf_list_dec) (by sizeOf_list_dec)) x3) (smallOf b0 (by lia)) (smallOf (by lia) (by lia))) ⟨⟨by sizeOf_list_dec,by sizeOf_list_dec,by sizeOf_list_dec,by sizeOf_list_dec⟩,o1,Int.le_of_lt lt,E5,tk,K5,fun s q z=> .inl z⟩ ?_ ?_
 ·rintro l ρ H7 k' l0 l1 ⟨⟨m1,m2,m3,m4⟩,o7,_,E7,tk',K7,hk7⟩ hk'
  have l00:0≤l:=Int.le_trans b0 l0
  have lm:l<stops-1:=Int.lt_of_lt_of_le l1 he
  have fal:tk' p.2 l=false:=by
   cases hv:tk' p.2 l with
   |false=>rfl
   |true=>
    rcases hk7 _ _ hv with hv|⟨_,_,z⟩
    ·rw [Took.free I hkeys hdis hT ei hx hxe (s1.symm▸l0) (s2.symm▸l1)] at hv;cases hv
    ·exact absurd z (Int.lt_irrefl _)
  have rw7:=K7.row p.2 c0 c1
  have rt:∀{ρ':Sto},ρ' "_law_taken"=some (.ref tc)→ρ' "_law_one"=some (.tup [.int p.1,.int p.2])→Ev (callW theP (n+3)) false (.sub (.var "_law_taken") (.sub (.var "_law_one") (.int 1))) ρ' H7 (.ref (tb p.2)):=fun r1 r2=>Ev.item (Ev.var r1) (one r2).2 K7.hl_ (refsOf_at c0 c1)
  refine s_skip (Ev.item (rt (by sizeOf_list_dec) (by sizeOf_list_dec)) (by array_get_dec) rw7 ((bRow_at (tk:=tk') (i:=p.2) l00 lm).trans (by rw [fal]))) (s_setIdx (x:=.bool true) Ev.bool (rt (by sizeOf_list_dec) (by sizeOf_list_dec)) (by array_get_dec) rw7 l00 (by rw [bRow_len];lia) (s_done (hk' _ _ ⟨⟨by sizeOf_list_dec,by sizeOf_list_dec,by sizeOf_list_dec,by sizeOf_list_dec⟩,by sizeOf_list_dec,l1,E7.newer _ (none_of_ext E2 (htb p.2 c0 c1)),_,K7.set c0 c1 l00,fun s q z=>?_⟩)))
  unfold updB at z
  by_cases zz:s=p.2∧q=l
  ·exact .inr ⟨zz.1,zz.2▸l0,zz.2▸Int.lt_succ l⟩
  ·rw [if_neg zz] at z
   exact (hk7 _ _ z).imp id fun z=>⟨z.1,z.2.1,Int.lt_trans z.2.2 (Int.lt_succ l)⟩
 ·rintro l ρ H7 hl ⟨N7,o7,hle,E7,tk',K7,hk7⟩
  refine s_done (hk _ _ ⟨N7,E7,tk',K7,fun s q z=>?_⟩)
  have it:(i+1).toNat=i.toNat+1:=by lia
  rw [it]
  rcases hk7 _ _ z with z|⟨z1,z2,z3⟩
  ·obtain ⟨kk,q',y,hkk,hr⟩:=hT _ _ z
   exact ⟨kk,q',y,Nat.lt_succ_of_lt hkk,hr⟩
  ·exact ⟨i.toNat,p,(kx,ps),Nat.lt_succ_self _,ei,z1.symm,hx,hxe,s1.symm▸z2,s2.symm▸Int.lt_of_lt_of_le z3 hle⟩
end
end Mine
end
section
namespace Mine
open PySem
inductive RV where
 |none
 |int (k:Int)
 |lst (ps:List Part)
noncomputable def AtV (H:MH)(v:MV)(r:RV):Prop:=match r with
 | .none=>v=.none
 | .int k=>v=.int k
 | .lst ps=>∃ c,v=.ref c∧H c=some (.lst (ps.map partMV))
abbrev St3:=Int×Rides×Grid
noncomputable def sellS (seats stops:Int)(s:St3)(a b:Int):St3:=(s.1+1,s.2.1++ [(s.1,offer s.2.2 seats stops a b)],marks s.2.2 (offer s.2.2 seats stops a b) (some s.1))
noncomputable def backS (s:St3)(a:Int)(ps:List Part):St3:=(s.1,rDel s.2.1 a,marks s.2.2 ps none)
noncomputable def leaveS (s:St3)(a b:Int)(ps:List Part):St3:=(s.1,rSet s.2.1 a (keepL ps b),marks s.2.2 (goneL ps b) none)
noncomputable def seatS (s:St3)(a:Int)(ps qs:List Part):St3:=(s.1,rSet s.2.1 a qs,marks (marks s.2.2 ps none) qs (some a))
inductive Turn (seats stops:Int)(s:St3)(a b:Int)(kd w:String)(v:RV)(s':St3):Prop
 |sell (hk:kd="sell")(hw:w="")(hv:v=.int s.1)(hs:s'=sellS seats stops s a b)(h0:0≤a)(h1:a<b)(h2:b<stops)(hb:blockF s.2.2 seats (b-a).toNat a=none)
 |nosell (hk:kd="sell")(hv:v=.none)(hs:s'=s)(c:String)(hw:w=wordOf c)(h:sellFail s.2.2 seats stops a b=some c)
 |miss (hw:w="ticket")(hv:v=.none)(hs:s'=s)(hk:kd="back"∨kd="leave"∨kd="reseat")(h:∀ ps,(a,ps)∉ s.2.1)
 |back (hk:kd="back")(hw:w="")(ps:List Part)(hv:v=.lst ps)(hs:s'=backS s a ps)(hp:(a,ps)∈s.2.1)
 |leave (hk:kd="leave")(hw:w="")(ps:List Part)(hv:v=.lst (goneL ps b))(hs:s'=leaveS s a b ps)(x y:Int)(hp:(a,ps)∈s.2.1)(G:Goes seats x ps y)(h0:0≤x)(h1:y≤stops-1)(z1:x<b)(z2:b<y)
 |stop (hk:kd="leave")(hw:w="stop")(hv:v=.none)(hs:s'=s)(ps:List Part)(x y:Int)(hp:(a,ps)∈s.2.1)(G:Goes seats x ps y)(h0:0≤x)(h1:y≤stops-1)(z:¬(x<b∧b<y))
 |reseat (hk:kd="reseat")(hw:w="")(ps:List Part)(x y:Int)(hv:v=.lst (anew s.2.2 seats stops ps x y))(hs:s'=seatS s a ps (anew s.2.2 seats stops ps x y))(hp:(a,ps)∈s.2.1)(G:Goes seats x ps y)(h0:0≤x)(h1:y≤stops-1)
section
variable {n:Nat}{H H':MH}{Z O:Addr→Prop}{Q:MV→MH→Prop}{X:String→MH→Prop}{t rd hl wd ro so rw:Addr}{ra rb:Int→Addr}{seats stops a b:Int}{kd w:String}{v:RV}{s s':St3}
theorem turn_sell:∃ w v s',Turn seats stops s a b "sell" w v s'∧(v=.none∨∃ k,v=.int k):=by
 cases hf:sellFail s.2.2 seats stops a b with
 |some c=>exact ⟨_,_,_,.nosell rfl rfl rfl c rfl hf,.inl rfl⟩
 |none=>
  unfold sellFail at hf
  split at hf
  ·rename_i q
   split at hf
   ·cases hf
   ·rename_i z;exact ⟨_,_,_,.sell rfl rfl rfl rfl q.1 q.2.1 q.2.2 (Option.not_isSome_iff_eq_none.mp z),.inr ⟨_,rfl⟩⟩
  ·cases hf
theorem turn_ex (I:Inv seats stops s.1 s.2.1 s.2.2)(hk:KindOk kd):∃ w v s',Turn seats stops s a b kd w v s':=by
 rcases hk with rfl|hk
 ·obtain ⟨w,v,s',h,_⟩:=turn_sell (seats:=seats) (stops:=stops) (s:=s) (a:=a) (b:=b);exact ⟨w,v,s',h⟩
 by_cases hm:∃ ps,(a,ps)∈s.2.1
 ·obtain ⟨ps,hp⟩:=hm
  obtain ⟨x,y,h0,h1,G⟩:=I.goes _ hp
  rcases hk with rfl|rfl|rfl
  ·exact ⟨_,_,_,.back rfl rfl ps rfl rfl hp⟩
  ·by_cases z:x<b∧b<y
   ·exact ⟨_,_,_,.leave rfl rfl ps rfl rfl x y hp G h0 h1 z.1 z.2⟩
   ·exact ⟨_,_,_,.stop rfl rfl rfl rfl ps x y hp G h0 h1 z⟩
  ·exact ⟨_,_,_,.reseat rfl rfl ps x y rfl rfl hp G h0 h1⟩
 ·exact ⟨_,_,_,.miss rfl rfl rfl hk fun ps z=>hm ⟨ps,z⟩⟩
theorem Turn.len (T:Turn seats stops s a b kd w v s'):s'.2.1.length≤s.2.1.length+1∧s'.1≤s.1+1:=by
 have same:s.2.1.length≤s.2.1.length+1∧s.1≤s.1+1:=⟨Nat.le_succ _,Int.le_of_lt (Int.lt_succ _)⟩
 cases T with
 |sell _ _ _ hs=>rw [hs];exact ⟨Nat.le_of_eq List.length_append,Int.le_refl _⟩
 |back _ _ _ _ hs=>rw [hs];exact ⟨rdel_len,same.2⟩
 |leave _ _ _ _ hs=>rw [hs];exact ⟨rset_len,same.2⟩
 |reseat _ _ _ _ _ _ hs=>rw [hs];exact ⟨rset_len,same.2⟩
 |nosell _ _ hs=>rw [hs];exact same
 |miss _ _ hs=>rw [hs];exact same
 |stop _ _ _ hs=>rw [hs];exact same
theorem Turn.word (T:Turn seats stops s a b kd w v s'):PyData.strOk (Str.ofString w)=true:=by
 have e:PyData.strOk (Str.ofString "")=true:=by decide+kernel
 cases T with
 |nosell _ _ _ c hw h=>rw [hw];exact word_ok c (List.contains_iff_mem.mp (fail_exc h))
 |miss hw=>rw [hw];exact word_ok "NoTicket" (by decide)
 |stop _ hw=>rw [hw];exact word_ok "NoStop" (by decide)
 |sell _ hw=>rw [hw];exact e
 |back _ hw=>rw [hw];exact e
 |leave _ hw=>rw [hw];exact e
 |reseat _ hw=>rw [hw];exact e
theorem s_wordT (T:Turn seats stops s a b kd w v s')(A:Trn H Z t rd hl ra seats stops s.1 s.2.1 s.2.2)(hl5:s.2.1.length<5000)(h:∀ u H',AtV H' u v→(∀ c,u=.ref c→H c=none)→Frm (Own t rd hl ra seats) H H'→Trn H' Z t rd hl ra seats stops s'.1 s'.2.1 s'.2.2→Q (.tup [.str (Str.ofString w),u]) H'):callW theP (n+6) false "_law_word" [.ref t,deedMV kd a b] H Q X:=by
 have asc:=A.inv.asc
 cases T with
 |sell hk hw hv hs h0 h1 h2 hb=>subst hk hw hv hs;exact s_word_sell A hl5 (fun _ _ _ _ H' f T'=>h _ H' rfl (fun c e=>by cases e) f T') fun c H' hf _=>by rw [fail_none h0 h1 h2 hb] at hf;cases hf
 |nosell hk hv hs c hw hf=>subst hk hv hs hw;exact s_word_sell A hl5 (fun h0 h1 h2 hb _ _ _=>by rw [fail_none h0 h1 h2 hb] at hf;cases hf) fun c' H' hf' E=>by obtain rfl:=Option.some.inj (hf.symm.trans hf');exact h _ H' rfl (fun c e=>by cases e) E.frm (A.ext E)
 |miss hw hv hs hk hm=>
  subst hw hv hs
  have fin:∀ H',Ext H H'→Q (failMV "ticket") H':=fun H' E=>h _ H' rfl (fun c e=>by cases e) E.frm (A.ext E)
  rcases hk with rfl|rfl|rfl
  ·exact s_word_back A (fun ps _ _ hp=>absurd hp (hm ps)) fun _=>fin
  ·exact s_word_leave A (fun ps _ _ _ _ hp=>absurd hp (hm ps)) (fun ps _ _ hp=>absurd hp (hm ps)) fun _=>fin
  ·exact s_word_reseat A (fun ps _ _ _ _ hp=>absurd hp (hm ps)) fun _=>fin
 |back hk hw ps hv hs hp=>subst hk hw hv hs;exact s_word_back A (fun ps' c H' hp' T' f hc hc'=>by obtain rfl:=asc_uniq asc hp hp';exact h _ H' ⟨c,rfl,hc'⟩ (fun c' e=>by cases e;exact hc) f (T'.less fun _ z=> .inl z)) fun hm=>absurd hp (hm ps)
 |leave hk hw ps hv hs x y hp G h0 h1 z1 z2=>subst hk hw hv hs;exact s_word_leave A (fun ps' x' y' c H' hp' _ _ _ T' f hc hc'=>by obtain rfl:=asc_uniq asc hp hp';exact h _ H' ⟨c,rfl,hc'⟩ (fun c' e=>by cases e;exact hc) f (T'.less fun _ z=> .inl z)) (fun ps' x' y' hp' G' z=>by obtain rfl:=asc_uniq asc hp hp';obtain ⟨rfl,rfl⟩:=goes_uniq G G';exact absurd ⟨z1,z2⟩ z) fun hm=>absurd hp (hm ps)
 |stop hk hw hv hs ps x y hp G h0 h1 z=>subst hk hw hv hs;exact s_word_leave A (fun ps' x' y' c H' hp' G' q1 q2=>by obtain rfl:=asc_uniq asc hp hp';obtain ⟨rfl,rfl⟩:=goes_uniq G G';exact absurd ⟨q1,q2⟩ z) (fun _ _ _ _ _ _ H' E=>h _ H' rfl (fun c e=>by cases e) E.frm (A.ext E)) fun hm=>absurd hp (hm ps)
 |reseat hk hw ps x y hv hs hp G h0 h1=>subst hk hw hv hs;exact s_word_reseat A (fun ps' x' y' c H' hp' G' _ _ T' f hc hc'=>by obtain rfl:=asc_uniq asc hp hp';obtain ⟨rfl,rfl⟩:=goes_uniq G G';exact h _ H' ⟨c,rfl,hc'⟩ (fun c' e=>by cases e;exact hc) f (T'.less fun _ z=> .inl z)) fun hm=>absurd hp (hm ps)
theorem s_doneT (T:Turn seats stops s a b kd w v s')(I:Inv seats stops s.1 s.2.1 s.2.2)(W:Wd H O wd ro so rw rb seats stops s.1 s.2.1 s.2.2)(hl5:s.2.1.length<5000)(h:∀ u H',AtV H' u v→(∀ c,u=.ref c→¬ O c)→Frm (Wn wd ro so rw rb seats) H H'→Wd H' O wd ro so rw rb seats stops s'.1 s'.2.1 s'.2.2→Q (.tup [.str (Str.ofString w),u]) H'):callW theP (n+4) false "_law_done_by" [.ref wd,deedMV kd a b] H Q X:=by
 cases T with
 |sell hk hw hv hs h0 h1 h2 hb=>subst hk hw hv hs;exact done_sell W I hl5 (fun _ _ _ _ H' f T'=>h _ H' rfl (fun c e=>by cases e) f T') fun c H' hf _=>by rw [fail_none h0 h1 h2 hb] at hf;cases hf
 |nosell hk hv hs c hw hf=>subst hk hv hs hw;exact done_sell W I hl5 (fun h0 h1 h2 hb _ _ _=>by rw [fail_none h0 h1 h2 hb] at hf;cases hf) fun c' H' hf' E=>by obtain rfl:=Option.some.inj (hf.symm.trans hf');exact h _ H' rfl (fun c e=>by cases e) E.frm (W.ext E)
 |miss hw hv hs hk hm=>subst hw hv hs;exact done_none W (by rcases hk with rfl|rfl|rfl<;>decide) hm (h _ H rfl (fun c e=>by cases e) (fun _ _ _ q=>q) W)
 |back hk hw ps hv hs hp=>subst hk hw hv hs;exact done_back W I hp fun c H' f W' hc ho=>h _ H' ⟨c,rfl,hc⟩ (fun c' e=>by cases e;exact ho) f W'
 |leave hk hw ps hv hs x y hp G h0 h1 z1 z2=>subst hk hw hv hs;exact done_leave W I hp G h0 h1 (fun _ _ c H' f W' hc ho=>h _ H' ⟨c,rfl,hc⟩ (fun c' e=>by cases e;exact ho) f W') fun z=>absurd ⟨z1,z2⟩ z
 |stop hk hw hv hs ps x y hp G h0 h1 z=>subst hk hw hv hs;exact done_leave W I hp G h0 h1 (fun q1 q2=>absurd ⟨q1,q2⟩ z) fun _=>h _ H rfl (fun c e=>by cases e) (fun _ _ _ q=>q) W
 |reseat hk hw ps x y hv hs hp G h0 h1=>subst hk hw hv hs;exact done_reseat W I hp G h0 h1 fun c H' f W' hc ho=>h _ H' ⟨c,rfl,hc⟩ (fun c' e=>by cases e;exact ho) f W'
noncomputable def dataV:RV→PyData
 | .none=> .none
 | .int k=> .int k
 | .lst ps=> .list (ps.map fun p=> .tuple [.int p.1,.int p.2.1,.int p.2.2])
theorem lay_parts {ps:List Part}:PyData.canLayAll0 (ps.map fun p=> .tuple [.int p.1,.int p.2.1,.int p.2.2])=true:=by
 induction ps with
 |nil=>rfl
 |cons p ps ih=>simp [PyData.canLay0,PyData.canLayAll0,ih]
theorem dr_v {u:MV}(h:AtV H u v):DR H 7 u (dataV v):=by
 cases v with
 |none=>exact h
 |int k=>exact h
 |lst ps=>obtain ⟨c,rfl,hc⟩:=h;exact ⟨c,_,rfl,.inl hc,All2.maps fun p _=>⟨_,rfl,.cons rfl (.cons rfl (.cons rfl .nil))⟩⟩
theorem lay_v:PyData.canLay0 (dataV v)=true:=by
 cases v with
 |none=>rfl
 |int k=>rfl
 |lst ps=>simp [dataV,PyData.canLay0,lay_parts]
theorem dr_told {u:MV}(h:AtV H u v)(hw:PyData.strOk (Str.ofString w)=true):DR H 8 (.tup [.str (Str.ofString w),u]) (.tuple [.str (Str.ofString w),dataV v]):=⟨_,rfl,.cons ⟨rfl,hw⟩ (.cons (dr_v h) .nil)⟩
theorem told_ne {u u':MV}(h:AtV H u v)(h':AtV H u' v)(hw:PyData.strOk (Str.ofString w)=true):CmpR H .ne (.tup [.str (Str.ofString w),u]) (.tup [.str (Str.ofString w),u']) false:=by
 have:=CmpR.ned (dr_told h hw) (dr_told h' hw)
 rwa [PySem.SeqAt.eqv_refl _ (by simp [PyData.canLay0,PyData.canLayAll0,hw,lay_v])] at this
end
end Mine
end
section
namespace Mine
open PySem
structure Tn where
 t:Addr
 rd:Addr
 hl:Addr
 ra:Int→Addr
structure Wr where
 wd:Addr
 ro:Addr
 so:Addr
 rw:Addr
 rb:Int→Addr
abbrev Tn.own (A:Tn)(seats:Int):Addr→Prop:=Own A.t A.rd A.hl A.ra seats
abbrev Wr.wn (W:Wr)(seats:Int):Addr→Prop:=Wn W.wd W.ro W.so W.rw W.rb seats
abbrev TnA (H:MH)(Z:Addr→Prop)(A:Tn)(seats stops:Int)(s:St3):Prop:=Trn H Z A.t A.rd A.hl A.ra seats stops s.1 s.2.1 s.2.2
abbrev WdA (H:MH)(O:Addr→Prop)(W:Wr)(seats stops:Int)(s:St3):Prop:=Wd H O W.wd W.ro W.so W.rw W.rb seats stops s.1 s.2.1 s.2.2
structure S12 (H:MH)(A B:Tn)(W:Wr)(seats stops:Int)(sa sb sw:St3):Prop where
 a:TnA H (fun x=>W.wn seats x∨B.own seats x) A seats stops sa
 b:TnA H (fun x=>W.wn seats x∨A.own seats x) B seats stops sb
 w:WdA H (fun x=>A.own seats x∨B.own seats x) W seats stops sw
noncomputable def Ow3 (A B:Tn)(W:Wr)(seats:Int)(x:Addr):Prop:=A.own seats x∨B.own seats x∨W.wn seats x
section
variable {n:Nat}{H H':MH}{Z O F:Addr→Prop}{t rd hl wd ro so rw:Addr}{ra rb:Int→Addr}{seats stops coming:Int}{R:Rides}{g:Grid}{A B:Tn}{W:Wr}{sa sb sw s s':St3}
theorem S12.ext (S:S12 H A B W seats stops sa sb sw)(e:Ext H H'):S12 H' A B W seats stops sa sb sw:=⟨S.a.ext e,S.b.ext e,S.w.ext e⟩
theorem S12.onA (S:S12 H A B W seats stops sa sb sw)(f:Frm (A.own seats) H H')(T:TnA H' (fun x=>W.wn seats x∨B.own seats x) A seats stops s'):S12 H' A B W seats stops s' sb sw:=
 ⟨T,S.b.turn (f.mono fun _ z=> .inr z) fun x z=>z.elim (fun z=>T.there x (.inl z)) (T.own_there x),S.w.train (f.mono fun _ z=> .inl z) fun x z=>z.elim (T.own_there x) fun z=>T.there x (.inr z)⟩
theorem S12.onB (S:S12 H A B W seats stops sa sb sw)(f:Frm (B.own seats) H H')(T:TnA H' (fun x=>W.wn seats x∨A.own seats x) B seats stops s'):S12 H' A B W seats stops sa s' sw:=
 ⟨S.a.turn (f.mono fun _ z=> .inr z) fun x z=>z.elim (fun z=>T.there x (.inl z)) (T.own_there x),T,S.w.train (f.mono fun _ z=> .inr z) fun x z=>z.elim (fun z=>T.there x (.inr z)) (T.own_there x)⟩
theorem S12.onW (S:S12 H A B W seats stops sa sb sw)(f:Frm (W.wn seats) H H')(V:WdA H' (fun x=>A.own seats x∨B.own seats x) W seats stops s'):S12 H' A B W seats stops sa sb s':=
 ⟨S.a.turn (f.mono fun _ z=> .inl z) fun x z=>z.elim (V.there x) fun z=>V.oth x (.inr z),S.b.turn (f.mono fun _ z=> .inl z) fun x z=>z.elim (V.there x) fun z=>V.oth x (.inl z),V⟩
theorem Trn.grow (T:Trn H Z t rd hl ra seats stops coming R g)(E:Ext H H')(hF:∀ x,F x→H x=none)(th:∀ x,F x→H' x≠none):Trn H' (fun x=>Z x∨F x) t rd hl ra seats stops coming R g:=
 ⟨T.tr.imp fun rides z=>⟨z.1.ext E,(z.2.mono' fun a o e n q=>q.elim (fun z=>n (.inl z)) fun q=>q.elim (fun z=>n (.inr z)) fun f=>by rw [hF a f] at e;cases e).keep fun a o _=>E a o⟩,T.inv,T.co,T.len,fun a z=>z.elim (T.apart a) fun f o=>T.not_own (hF a f) o,fun a z=>z.elim (fun z=>some_kept (T.there a z) (E a)) (th a)⟩
theorem Wd.grow (V:Wd H O wd ro so rw rb seats stops coming R g)(E:Ext H H')(hF:∀ x,F x→H x=none)(th:∀ x,F x→H' x≠none):Wd H' (fun x=>O x∨F x) wd ro so rw rb seats stops coming R g:=by
 obtain ⟨rs,r1,r2⟩:=V.rw_
 refine ⟨V.gd.ext E,E _ _ V.wd_,E _ _ V.so_,⟨rs,E _ _ r1,(r2.mono' fun a o e n q=>?_).keep fun a o _=>E a o⟩,V.ne,V.nc,fun a z o=>o.elim (V.ap a z) fun f=>V.there a z (hF a f),fun a z=>z.elim (fun z=>some_kept (V.oth a z) (E a)) (th a)⟩
 rcases q with (q|q)|q
 ·exact n (.inl q)
 ·rw [hF a q] at e;cases e
 ·exact n (.inr q)
theorem AtV.keep {u:MV}{v:RV}(h:AtV H u v)(k:∀ c o,u=.ref c→H c=some o→H' c=some o):AtV H' u v:=by
 cases v with
 |none=>exact h
 |int i=>exact h
 |lst ps=>obtain ⟨c,e,hc⟩:=h;exact ⟨c,e,k c _ e hc⟩
noncomputable def Bd (s:St3)(m:Nat):Prop:=s.2.1.length≤m∧s.1≤m
theorem bd_fits {m:Nat}(T:Trn H Z t rd hl ra seats stops s.1 s.2.1 s.2.2)(h:Bd s m)(hm:m≤400):Fits seats stops s.1 s.2.1∧(textOf seats stops s.1 s.2.1).length≤1000000∧s.1<1000000000∧s.2.1.length<5000:=by
 have h1:=h.1
 have h2:=h.2
 have b:=(run_text T.inv T.hseats T.hstops T.co ⟨Nat.le_trans h1 hm,by lia⟩).2
 have c:s.1<1000000000:=by lia
 exact ⟨fits_of T.inv T.hseats.2 T.hstops.2 ⟨T.co,c⟩ (Nat.le_trans b (by decide)),Nat.le_trans b (by decide),c,Nat.lt_of_le_of_lt (Nat.le_trans h1 hm) (by decide)⟩
theorem Turn.bd {a b:Int}{kd w:String}{v:RV}{m:Nat}(T:Turn seats stops s a b kd w v s')(h:Bd s m):Bd s' (m+1):=⟨Nat.le_trans T.len.1 (Nat.succ_le_succ h.1),Int.le_trans T.len.2 (Int.add_le_add_right h.2 1)⟩
noncomputable def EvX (Δ:CallT)(e:ME)(ρ:Sto)(H:MH)(v:MV):Prop:=∀ H1,Ext H H1→∀(Q:MV→MH→Prop) (X:String→MH→Prop),(∀ H',Ext H1 H'→Q v H')→wE Δ false e ρ H1 Q X
variable {Δ:CallT}{ρ:Sto}{Q:MV→MH→Prop}{X:String→MH→Prop}
theorem EvX.of {e:ME}{v:MV}(h:∀ H',Ext H H'→Ev Δ false e ρ H' v):EvX Δ e ρ H v:=fun H1 E Q X q=>h H1 E _ _ (q _ (.refl _))
theorem EvX.not {e:ME}(h:EvX Δ e ρ H (.bool true)):EvX Δ (.not e) ρ H (.bool false):=fun H1 E Q X q=>w_not (h H1 E _ _ fun H' E'=>q H' E')
theorem EvX.cmp {l r:ME}{op:COp}{a b:MV}{c:Bool}(h1:EvX Δ l ρ H a)(h2:EvX Δ r ρ H b)(h:∀ H',Ext H H'→CmpR H' op a b c):EvX Δ (.cmp l (.cons op r .nil)) ρ H (.bool c):=fun H1 E Q X q=>w_cmpw (h1 H1 E _ _ fun H2 E2=>h2 H2 (E.trans E2) _ _ fun H3 E3=>⟨c,h H3 ((E.trans E2).trans E3),q H3 (E2.trans E3)⟩)
theorem EvX.or2 {e f:ME}(h1:EvX Δ e ρ H (.bool false))(h2:EvX Δ f ρ H (.bool false)):EvX Δ (.or (.cons e (.cons f .nil))) ρ H (.bool false):=fun H1 E Q X q=>w_or2 (h1 H1 E _ _ fun H2 E2=>h2 H2 (E.trans E2) _ _ fun H3 E3=>q H3 (E2.trans E3))
theorem s_skipX {N:Sto→MH→Prop}{RR:MV→MH→Prop}{Y:String→Sto→MH→Prop}{ss a:MSs}{c:ME}(h:EvX Δ c ρ H (.bool false))(k:∀ H',Ext H H'→wSs Δ false ss ρ H' N RR Y):wSs Δ false (.cons (.ite c a .nil) ss) ρ H N RR Y:=s_itew (h H (.refl _) _ _ fun H' E=>it_f rfl (s_done (k H' E)))
theorem x_like {x:String}(S:Bx H Z O t rd hl wd ro so rw ra rb seats stops coming R g)(r1:ρ x=some (.ref t))(r2:ρ "_law_world_here"=some (.ref wd)):EvX (callW theP (n+3)) (.call "_law_like" (.cons (.var x) (.cons (.var "_law_world_here") .nil))) ρ H (.bool true):=fun H1 E Q X q=>w_call (Evs.cons (Ev.var r1) (Evs.cons (Ev.var r2) Evs.nil)) (s_like (S.ext E) q)
theorem x_packs {x:String}(S:Bx H Z O t rd hl wd ro so rw ra rb seats stops coming R g)(r1:ρ x=some (.ref t))(r2:ρ "_law_world_here"=some (.ref wd)):EvX (callW theP (n+4)) (.call "_law_packs" (.cons (.var x) (.cons (.var "_law_world_here") .nil))) ρ H (.bool true):=fun H1 E Q X q=>w_call (Evs.cons (Ev.var r1) (Evs.cons (Ev.var r2) Evs.nil)) (s_packs (S.ext E) q)
theorem x_tells {x:String}{e:ME}(S:Bx H Z O t rd hl wd ro so rw ra rb seats stops coming R g)(r1:ρ x=some (.ref t))(r2:ρ "_law_world_here"=some (.ref wd))(he:∀ H',Ext H H'→∀(Q:MV→MH→Prop) (X:String→MH→Prop),(∀ c:Int,Q (.int c) H')→wE (callW theP (n+7)) false e ρ H' Q X):EvX (callW theP (n+7)) (.call "_law_tells" (.cons (.var x) (.cons (.var "_law_world_here") (.cons e .nil)))) ρ H (.bool true):=fun H1 E Q X q=>w_callw (w_cons (w_ev (Ev.var r1) (w_cons (w_ev (Ev.var r2) (w_cons (he H1 E _ _ fun c=>w_evs Evs.nil (s_tells (S.ext E).tn (S.ext E).wo q)))))))
theorem x_written {x:String}(T:Trn H Z t rd hl ra seats stops coming R g)(F:Fits seats stops coming R)(r1:ρ x=some (.ref t)):EvX (callW theP (n+3)) (.call "written" (.cons (.var x) .nil)) ρ H (.str (textOf seats stops coming R)):=fun H1 E Q X q=>w_call (Evs.cons (Ev.var r1) Evs.nil) (s_written (T.ext E) F q)
theorem x_text (V:Wd H O wd ro so rw rb seats stops coming R g)(I:Inv seats stops coming R g)(F:Fits seats stops coming R)(hc:coming<1000000000)(hR:R.length<5000)(r1:ρ "_law_world_here"=some (.ref wd)):EvX (callW theP (n+1)) (.call "_law_text_of" (.cons (.var "_law_world_here") .nil)) ρ H (.str (textOf seats stops coming R)):=fun H1 E Q X q=>w_call (Evs.cons (Ev.var r1) Evs.nil) (s_text_of (V.ext E) I F hc (Nat.le_of_lt hR) q)
end
end Mine
end
section
namespace Mine
open PySem
theorem w_orc {Δ:CallT}{ρ:Sto}{H:MH}{Q:MV→MH→Prop}{Y:String→MH→Prop}{e f:ME}{es:MEs}(h:wE Δ false e ρ H (asTruth fun b H₁=>if b=true then Q (.bool true) H₁ else wE Δ false (.or (.cons f es)) ρ H₁ Q Y) Y):wE Δ false (.or (.cons e (.cons f es))) ρ H Q Y:=h
theorem AtV.any {H H':MH}{u:MV}{v:RV}(h:AtV H u v)(k:v=.none∨∃ i,v=.int i):AtV H' u v:=by
 rcases k with rfl|⟨i,rfl⟩
 ·exact h
 ·exact h
inductive L1 (H4:MH)(script:Addr)(A:Tn)(W:Wr)(seats stops:Int)(vs:List MV)(ρ:Sto)(H':MH):Prop
 |mk (n1:ρ "_law_script"=some (.ref script))(n2:ρ "_law_train"=some (.ref A.t))(n3:ρ "_law_world_here"=some (.ref W.wd))(n4:ρ "_law_stops_here"=some (.int stops))(f:Frm (fun x=>A.own seats x∨W.wn seats x) H4 H')(hc:∀ v∈vs,CellOk v)(s:St3)(m:Nat)(hb:Bd s m)(hm:m+vs.length≤366)(T:TnA H' (W.wn seats) A seats stops s)(V:WdA H' (A.own seats) W seats stops s)
inductive L2 (H7:MH)(script:Addr)(A B:Tn)(W:Wr)(seats stops:Int)(i:Int)(ρ:Sto)(H':MH):Prop
 |mk (n1:ρ "_law_script"=some (.ref script))(n2:ρ "_law_train"=some (.ref A.t))(n3:ρ "_law_world_here"=some (.ref W.wd))(n4:ρ "_law_stops_here"=some (.int stops))(n5:ρ "_law_other"=some (.ref B.t))(f:Frm (Ow3 A B W seats) H7 H')(s:St3)(hb:Bd s (366+i.toNat))(hi:i≤6)(S:S12 H' A B W seats stops s s s)
theorem built12 {n:Nat}{H:MH}{Q:MV→MH→Prop}{X:String→MH→Prop}{script:Addr}{is:List Int}(hH:H script=some (.ro (is.map .int)))(h:∀ bl (A:Tn) (W:Wr) seats stops H',H' bl=some (.lst [.ref A.t,.ref W.wd])→H' script=some (.ro (is.map .int))→TnA H' (W.wn seats) A seats stops (0,[],fun _ _=>none)→WdA H' (A.own seats) W seats stops (0,[],fun _ _=>none)→Q (.ref bl) H'):callW theP (n+2) false "_law_built" [.ref script] H Q X:=
 s_built hH fun bl t rd hl wd ro so rw ra rb seats stops H' h1 h2 S=>h bl ⟨t,rd,hl,ra⟩ ⟨wd,ro,so,rw,rb⟩ seats stops H' h1 h2 S.tn S.wo
theorem read12 {n:Nat}{H:MH}{Q:MV→MH→Prop}{X:String→MH→Prop}{A:Tn}{W:Wr}{seats stops:Int}{s:St3}(T:TnA H (W.wn seats) A seats stops s)(V:WdA H (A.own seats) W seats stops s)(l2:s.1<1000000000)(l3:s.2.1.length<5000)(l1:(textOf seats stops s.1 s.2.1).length≤1000000)(h:∀(B:Tn) H',S12 H' A B W seats stops s s s→Ext H H'→Q (.ref B.t) H'):callW theP (n+5) false "read" [.str (textOf seats stops s.1 s.2.1)] H Q X:=
 s_read T.inv T.hseats T.hstops ⟨T.co,l2⟩ (Nat.le_of_lt l3) l1 fun tB rdB hlB raB H8 TB ownB E8=>h ⟨tB,rdB,hlB,raB⟩ H8 ⟨T.grow E8 ownB TB.own_there,TB.less fun x z=>z.elim (T.there x) (T.own_there x),V.grow E8 ownB TB.own_there⟩ E8
theorem law12' {n:Nat}{script:Addr}{is:List Int}(hlen:is.length≤63)(H:MH)(hH:H script=some (.ro (is.map .int))):
  wSs (callW theP (n+8)) false f_law.body (Sto.ofArgs ["_law_script"] [.ref script]) H (fun _ _=>MV.none=.bool true) (fun v _=>v=.bool true) (fun _ _ _=>False):=by
 refine s_let (w_call (by array_get_dec) (built12 hH fun bl A W seats stops H1 hbl hH1 T1 V1=>?_))
 have p2:=T1.hstops
 refine s_assign (Ev.item (by array_get_dec) Ev.int hbl rfl) (s_assign (Ev.item (by array_get_dec) Ev.int hbl rfl) (s_assign (Ev.asI (Int.sub_add_cancel stops 1) (Ev.add (V1.gd.len0 (V1.ev0 (by array_get_dec))) Ev.int)) ?_))
 refine ⟨rfl,w_call (by array_get_dec) (s_cells hH1 hlen fun cc H4 ls hcc E4 h4 hn4 hcells=>⟨ls,.lst (.inl h4),?_⟩)⟩
 have ncc:¬(A.own seats cc∨W.wn seats cc):=V1.fresh hcc
 have nsc:¬(A.own seats script∨W.wn seats script):=fun z=>z.elim (T1.not_ro hH1) (V1.not_ro hH1)
 have hH4:=E4 _ _ hH1
 refine for_inv (L1 H4 script A W seats stops) (fun vs ρ H' z=>by obtain ⟨_,_,_,_,f,_⟩:=z;exact .lst (.inl (f _ _ ncc h4))) ?_ ?_ ⟨by sizeOf_list_dec,by sizeOf_list_dec,by sizeOf_list_dec,by sizeOf_list_dec,fun _ _ _ q=>q,hcells,(0,[],fun _ _=>none),0,⟨Nat.le_refl _,Int.le_refl _⟩,by rw [Nat.zero_add];exact hn4,T1.ext E4,V1.ext E4⟩
 ·rintro v vs ρ H5 k ⟨m1,m2,m3,m4,f,hc,s,m,hb,hm,T5,V5⟩ hk
  rw [List.length_cons] at hm
  obtain ⟨_,_,_,l5⟩:=bd_fits T5 hb (by lia)
  refine s_let (w_call (vs:=[v,.ref W.so,.int stops]) (Evs.cons (by array_get_dec) (Evs.cons (V5.ev1 (by array_get_dec)) (Evs.cons (by array_get_dec) Evs.nil))) (s_deed (hc v (.head _)) p2 V5.so_ (by rw [List.length_map];exact Nat.le_of_lt l5) fun kd a b H6 kk E6=>?_))
  obtain ⟨w,r,s',D⟩:=turn_ex (a:=a) (b:=b) T5.inv kk
  refine s_itew (w_cmpw (w_sub (w_call (vs:=[.ref A.t,deedMV kd a b]) (by array_get_dec) (s_wordT D (T5.ext E6) l5 fun u H7 _ _ f7 T7=>w_ev Ev.int ⟨_,.tup rfl,w_sub (w_call (vs:=[.ref W.wd,deedMV kd a b]) (by array_get_dec) (s_doneT D T5.inv ((V5.ext E6).train f7 T7.own_there) l5 fun u' H8 _ _ f8 V8=>w_ev Ev.int ⟨_,.tup rfl,⟨false,str_ne,it_f rfl (s_done (s_done (hk _ _ ⟨by sizeOf_list_dec,by sizeOf_list_dec,by sizeOf_list_dec,by sizeOf_list_dec,((f.trans E6.frm).trans (f7.mono fun _ z=> .inl z)).trans (f8.mono fun _ z=> .inr z),fun x hx=>hc x (.tail _ hx),s',m+1,D.bd hb,by lia,T7.turn f8 V8.there,V8⟩)))⟩⟩))⟩))))
 rintro ρ H5 ⟨m1,m2,m3,m4,f,_,s,m,hb,hm,T5,V5⟩
 have hm:m≤366:=hm
 have hH5:=f _ _ nsc hH4
 obtain ⟨F5,l1,l2,l3⟩:=bd_fits T5 hb (Nat.le_trans hm (by decide))
 have hb:Bd s 366:=⟨Nat.le_trans hb.1 hm,Int.le_trans hb.2 (Int.ofNat_le.mpr hm)⟩
 refine s_let (w_call (vs:=[.ref A.t]) (by array_get_dec) (s_written T5 F5 fun H6 E6=>?_))
 refine s_skipX (EvX.or2 (.not (.of fun H' _=>Ev.isi (by array_get_dec) .ss)) (.cmp (.of fun H' _=>by array_get_dec) (x_text (V5.ext E6) T5.inv F5 l2 l3 (by sizeOf_list_dec)) fun _ _=>str_ne)) fun H7 E7=>?_
 refine s_let (w_call (vs:=[.str (textOf seats stops s.1 s.2.1)]) (by array_get_dec) (read12 ((T5.ext E6).ext E7) ((V5.ext E6).ext E7) l2 l3 l1 fun B H8 S8 E8=>?_))
 have hH8:=E8 _ _ (E7 _ _ (E6 _ _ hH5))
 clear T5 V5 E6 E7 E8 f hH5 ncc T1 V1 hbl
 have nsc8:¬ Ow3 A B W seats script:=fun z=>z.elim (S8.a.not_ro hH8) fun z=>z.elim (S8.b.not_ro hH8) (S8.w.not_ro hH8)
 refine s_skipX (EvX.or2 (.not (x_tells ⟨S8.b,S8.w⟩ (by sizeOf_list_dec) (by sizeOf_list_dec) fun H' E Q X q=>w_call (by array_get_dec) (s_cell_at (E _ _ hH8) (by decide) q))) (.not (x_packs ⟨S8.b,S8.w⟩ (by sizeOf_list_dec) (by sizeOf_list_dec)))) fun H9 E9=>?_
 have S9:=S8.ext E9
 refine s_skipX (EvX.or2 (.not (x_like ⟨S9.b,S9.w⟩ (by sizeOf_list_dec) (by sizeOf_list_dec))) (.not (x_like ⟨S9.a,S9.w⟩ (by sizeOf_list_dec) (by sizeOf_list_dec)))) fun H10 E10=>?_
 have S10:=S9.ext E10
 have hH10:=E10 _ _ (E9 _ _ hH8)
 refine ⟨rfl,w_bi1 (w_bin (w_bin (w_call (by array_get_dec) (s_cell_at hH10 (by decide) fun c0=>w_ev Ev.int (.fdiv (by decide) (by decide) (w_ev Ev.int (.mod (by decide) ?_)))))))⟩
 have f6:=fm_pos (c0.fdiv 7) (m:=6) (by decide)
 refine .range1 (smallOf f6.1 (by lia)) ⟨_,.rng,range_go (fun _=> .rng) (L2 H10 script A B W seats stops) ?_ ?_ _ _ _ _ rfl (Int.le_refl _) ⟨by sizeOf_list_dec,by sizeOf_list_dec,by sizeOf_list_dec,by sizeOf_list_dec,by sizeOf_list_dec,fun _ _ _ q=>q,s,hb,by decide,S10⟩⟩
 ·rintro i ρ H1 k i0 i1 ⟨m1,m2,m3,m4,m5,f,s,hb,_,S⟩ hk
  have hH1:=f _ _ nsc8 hH10
  have i6:i<6:=by lia
  obtain ⟨_,_,_,l5⟩:=bd_fits S.a hb (by lia)
  refine s_let (w_callw (w_cons (w_bin (w_call (by array_get_dec) (s_cell_at hH1 (by decide) fun c1=>w_ev (Ev.mul Ev.int (by array_get_dec) (.inl (by decide))) (.add (w_evs (vs:=[.ref W.so,.int stops]) (Evs.cons (S.w.ev1 (by array_get_dec)) (Evs.cons (by array_get_dec) Evs.nil)) (s_deed (.inl ⟨_,rfl⟩) p2 S.w.so_ (by rw [List.length_map];exact Nat.le_of_lt l5) fun kd a b H2 kk E2=>?_))))))))
  have S2:=S.ext E2
  obtain ⟨w,r,s',D⟩:=turn_ex (a:=a) (b:=b) S.a.inv kk
  refine s_let (w_call (vs:=[.ref W.wd,deedMV kd a b]) (by array_get_dec) (s_doneT D S.a.inv S2.w l5 fun ud H3 hu ho f3 V3=>?_))
  have S3:=S2.onW f3 V3
  refine s_itew (w_or2 (w_cmpw (w_call (vs:=[.ref B.t,deedMV kd a b]) (by array_get_dec) (s_wordT D S3.b l5 fun ub H4 hub _ f4 T4=>w_ev (v:=.tup [.str (Str.ofString w),ud]) (by array_get_dec) ?_))))
  have S4:=S3.onB f4 T4
  have hu4:=hu.keep (H':=H4) fun c o e ec=>f4 c o (fun z=>ho c e (.inr z)) ec
  refine ⟨false,told_ne hub hu4 D.word,it_f rfl (w_cmpw (w_call (vs:=[.ref A.t,deedMV kd a b]) (by array_get_dec) (s_wordT D S4.a l5 fun ua H5 hua _ f5 T5=>w_ev (v:=.tup [.str (Str.ofString w),ud]) (by array_get_dec) ?_)))⟩
  have S5:=S4.onA f5 T5
  have hu5:=hu4.keep (H':=H5) fun c o e ec=>f5 c o (fun z=>ho c e (.inl z)) ec
  refine ⟨false,told_ne hua hu5 D.word,it_f rfl (s_done ?_)⟩
  have fH5:Frm (Ow3 A B W seats) H10 H5:=(((f.trans E2.frm).trans (f3.mono fun _ z=> .inr (.inr z))).trans (f4.mono fun _ z=> .inr (.inl z))).trans (f5.mono fun _ z=> .inl z)
  have hH5:=fH5 _ _ nsc8 hH10
  have hb5:Bd s' (366+(i+1).toNat):=by
   have e:366+(i+1).toNat=366+i.toNat+1:=by lia
   rw [e];exact D.bd hb
  obtain ⟨F5,_,l2,l3⟩:=bd_fits S5.a hb5 (by lia)
  refine s_skipX (EvX.or2 (.cmp (x_written S5.b F5 (by sizeOf_list_dec)) (x_text S5.w S5.b.inv F5 l2 l3 (by sizeOf_list_dec)) fun _ _=>str_ne) (.not (x_like ⟨S5.b,S5.w⟩ (by sizeOf_list_dec) (by sizeOf_list_dec)))) fun H6 E6=>?_
  have S6:=S5.ext E6
  refine s_skipX (EvX.or2 (.not (x_tells ⟨S6.b,S6.w⟩ (by sizeOf_list_dec) (by sizeOf_list_dec) fun H' E Q X q=>w_bin (w_call (by array_get_dec) (s_cell_at (E _ _ (E6 _ _ hH5)) (by decide) fun c2=>w_ev (v:=.int i) (by array_get_dec) (.add (q _)))))) (.not (x_packs ⟨S6.b,S6.w⟩ (by sizeOf_list_dec) (by sizeOf_list_dec)))) fun H7 E7=>s_done (hk _ _ ⟨by sizeOf_list_dec,by sizeOf_list_dec,by sizeOf_list_dec,by sizeOf_list_dec,by sizeOf_list_dec,(fH5.trans E6.frm).trans E7.frm,s',hb5,by lia,S6.ext E7⟩)
 clear S8 S9 S10 hb F5 l1 l2 l3 hm
 rintro i ρ H1 _ ⟨m1,m2,m3,m4,m5,f,s,hb,hi,S⟩
 obtain ⟨F,_,l2,l3⟩:=bd_fits S.a hb (by lia)
 refine s_let (x_text S.w S.a.inv F l2 l3 m3 H1 (.refl _) _ _ fun H2 E2=>?_)
 have S2:=S.ext E2
 refine s_assign (v:=deedMV "sell" 0 (stops-1)) (Ev.tup (Evs.cons Ev.str (Evs.cons Ev.int (Evs.cons (by array_get_dec) Evs.nil)))) ?_
 obtain ⟨w,r,s',D,hr⟩:=turn_sell (seats:=seats) (stops:=stops) (s:=s) (a:=0) (b:=stops-1)
 refine s_let (w_call (vs:=[.ref B.t,deedMV "sell" 0 (stops-1)]) (by array_get_dec) (s_wordT D S2.b l3 fun ub H3 hub _ f3 T3=>?_))
 have S3:=S2.onB f3 T3
 obtain ⟨F',_,l2',l3'⟩:=bd_fits T3 (D.bd hb) (by lia)
 refine s_itew (w_orc (w_not (x_like ⟨S3.a,S3.w⟩ (by sizeOf_list_dec) (by sizeOf_list_dec) H3 (.refl _) _ _ fun H4 E4=>it_n ?_)))
 have S4:=S3.ext E4
 refine w_orc (w_cmpw (w_ev (v:=.tup [.str (Str.ofString w),ub]) (by array_get_dec) (w_call (vs:=[.ref W.wd,deedMV "sell" 0 (stops-1)]) (by array_get_dec) (s_doneT D S4.a.inv S4.w l3 fun ud H5 hud _ f5 V5=>⟨false,told_ne (hub.any hr) (hud.any hr) D.word,it_f rfl ?_⟩))))
 have S5:=S4.onW f5 V5
 refine w_or1 (w_not (x_like ⟨S5.b,S5.w⟩ (by sizeOf_list_dec) (by sizeOf_list_dec) H5 (.refl _) _ _ fun H6 E6=>it_n (s_done ?_)))
 have S6:=S5.ext E6
 refine s_itew (w_orc (w_cmpw (x_written S6.a F (by sizeOf_list_dec) H6 (.refl _) _ _ fun H7 E7=>w_ev (v:=.str (textOf seats stops s.1 s.2.1)) (by array_get_dec) ⟨false,str_ne,it_f rfl ?_⟩)))
 have S7:=S6.ext E7
 refine w_orc (w_cmpw (w_call (vs:=[.ref A.t,deedMV "sell" 0 (stops-1)]) (by array_get_dec) (s_wordT D S7.a l3 fun ua H8 hua _ f8 T8=>w_ev (v:=.tup [.str (Str.ofString w),ub]) (by array_get_dec) ⟨false,told_ne hua (hub.any hr) D.word,it_f rfl ?_⟩)))
 have S8:=S7.onA f8 T8
 refine w_or1 (w_cmpw (x_written S8.a F' (by sizeOf_list_dec) H8 (.refl _) _ _ fun H9 E9=>x_text (S8.ext E9).w S8.a.inv F' l2' l3' (by sizeOf_list_dec) H9 (.refl _) _ _ fun H10 E10=>⟨false,str_ne,it_f rfl (s_done ?_)⟩))
 have S10:=(S8.ext E9).ext E10
 exact s_retw (EvX.cmp (x_written S10.b F' (by sizeOf_list_dec)) (x_text S10.w S10.a.inv F' l2' l3' (by sizeOf_list_dec)) (fun _ _=>str_eq) H10 (.refl _) _ _ fun _ _=>rfl)
theorem law12 {script:Addr}{is:List Int}(hl:is.length≤63)(H:MH)(hH:H script=some (.ro (is.map .int))):
  wSs (callW theP 50) false f_law.body (Sto.ofArgs ["_law_script"] [.ref script]) H (fun _ _=>MV.none=.bool true) (fun v _=>v=.bool true) (fun _ _ _=>False):=law12' (n:=42) hl H hH
end Mine
end
open PySem PySem.W PyProof.Rows
set_option maxRecDepth 100000 in
set_option maxHeartbeats 8000000 in
theorem PySem.Challenge.cw_uf040032_12_holds : PySem.Challenge.rw_uf040032_12.Holds := by
 w_on
 refine holds_law Mine.law_said fun said=>?_
 refine holds_open (q:=Mine.theQ) (loose:=[]) (Xt:=fun s=>xlAt Mine.theQ [] s&&recOk (RowW.records (OpenRow.toRowW (OpenLaw.row PySem.Challenge.rw_uf040032_12))) s) (XP:=XL Mine.theQ []) (Yf:=Hook.obs Mine.theH) (Ya:=Hook.val Mine.theH) (YP:=Hook.says Mine.theH) (N:=8810) Mine.top_left (Hook.of Mine.theH) (Hook.keeps Mine.theH) (fun s e=>xl_of s (Bool.and_eq_true_iff.mp e).1) XL.keeps (by rfl) (by rfl) (by rfl) (fun s e=>recFacts_of (Bool.and_eq_true_iff.mp e).2) (by rfl) (by first|assumption|decide+kernel) (by decide+kernel) ⟨rfl,rfl,rfl,rfl,rfl,by decide+kernel⟩ ?hw ?hc
 case hw=>w_witness2
 case hc=>
  intro w s₀ s₁ mg mb G Y fa o pm cd doc dV kV ho hd hcd hD hmg hg args vals as hpre hlay hrd hwl hlo
  obtain ⟨K,KX,kT,kP⟩:=Y
  refine Ground.open G ?_
  intro T B D TE TW
  wrow_args hpre hlay hrd hwl hlo
  refine enter_call ?_
  refine codeAny_mono ?_ (fun _ _ g=>GoodW.toG g)
  refine Mine.claim_of (T:=Mine.theT) (P:=Mine.theP) (ca:=Mine.theC) (d:=Mine.f_law) (x:="_law_script") KX T hg kT kP ho hd hcd (hD.pos.elim (fun h=>h.2) fun h=>absurd rfl h.1) (by kernel_rfl) rfl ‹_› ‹_› ‹_› 50 (by decide) (fun hl H hH=>Mine.law12 hl H hH) (raisesW_false (by wrow_none_raised)) (by wrow_post)
